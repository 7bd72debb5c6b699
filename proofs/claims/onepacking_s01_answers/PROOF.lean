import PyProof.Rows.All
import Wide.All
import OpenK.AllK
import Wide.FinOn
import Open.SpecLaws
import KE.OsGo
import HandS.ForSpec
import HandS.TryMany
import HandS.Comp
import HandS.Iter
import HandS.Text
import HandS.StrMore
import HandS.Dict
import HandS.WordsDict
import HandS.WideBits
import HandS.Sort
import HandS.SortRule
import HandS.Evl
import HandS.Steps
import HandS.HotCalls
import HandS.RaiseFrom
import HandS.ExcInit
import HandS.ExcInitHot
import HandS.ExcField
import HandS.More
import KE.KExcInit
import KE.DatumOrd
import KE.KEqSeq
import HandS.SortKw
import KE.KExcLine
import PySem.Challenge.RW_onepacking_s01_answers
/-! ## MBase -/
section
set_option linter.all false
namespace Gz
open Sw SwSqueeze

/-! ### lists -/
theorem take_more {α : Type} {l : List α} {i : Nat} {x : α} (h : l[i]? = some x) : l.take (i + 1) = l.take i ++ [x] := by
  obtain ⟨hi, rfl⟩ := List.getElem?_eq_some_iff.mp h
  exact List.take_succ_eq_append_getElem hi
theorem foldl_more {α β : Type} {f : β → α → β} {b : β} {l : List α} {i : Nat} {x : α} (h : l[i]? = some x) : (l.take (i + 1)).foldl f b = f ((l.take i).foldl f b) x := by
  rw [take_more h, List.foldl_append]
  rfl

/-! ### numbers in bytes -/
theorem toNat_ofNat_lt {n : Nat} (h : n < 256) : (UInt8.ofNat n).toNat = n := by
  rw [UInt8.toNat_ofNat']
  exact Nat.mod_eq_of_lt h
theorem le_length (k n : Nat) : (le k n).length = k := by simp [le]
theorem ofLe_append : ∀ (l : Bytes) (c : UInt8), ofLe (l ++ [c]) = ofLe l + c.toNat * 256 ^ l.length
  | [], c => by simp [ofLe]
  | a :: l, c => by
    have ih := ofLe_append l c
    have e1 : ofLe (a :: l ++ [c]) = a.toNat + 256 * ofLe (l ++ [c]) := rfl
    have e2 : ofLe (a :: l) = a.toNat + 256 * ofLe l := rfl
    rw [e1, e2, ih, List.length_cons, Nat.pow_succ, Nat.mul_add, ← Nat.add_assoc, Nat.mul_comm 256 (c.toNat * 256 ^ l.length), Nat.mul_assoc]
theorem part_more {b : Bytes} {at_ i : Nat} {c : UInt8} (h : b[at_ + i]? = some c) : part b at_ (i + 1) = part b at_ i ++ [c] := by
  unfold part
  exact take_more (by rw [List.getElem?_drop]; exact h)
theorem part_length {b : Bytes} {at_ i : Nat} (h : at_ + i ≤ b.length) : (part b at_ i).length = i := by
  unfold part
  rw [List.length_take, List.length_drop]
  omega
theorem ofLe_more {b : Bytes} {at_ i : Nat} {c : UInt8} (h : b[at_ + i]? = some c) : ofLe (part b at_ (i + 1)) = ofLe (part b at_ i) + c.toNat * 2 ^ (8 * i) := by
  have hi := (List.getElem?_eq_some_iff.mp h).1
  rw [part_more h, ofLe_append, part_length (by omega), Nat.pow_mul]

/-! ### bits -/
def bit (b : Bool) : Nat := if b = true then 1 else 0
theorem bit_testBit (n i : Nat) : bit (n.testBit i) = n / 2 ^ i % 2 := by
  unfold bit
  rw [Nat.testBit_eq_decide_div_mod_eq]
  by_cases h : n / 2 ^ i % 2 = 1
  · rw [decide_eq_true h, if_pos rfl, h]
  · rw [decide_eq_false h, if_neg Bool.false_ne_true]
    omega
theorem bitsLow_length (k n : Nat) : (bitsLow k n).length = k := by simp [bitsLow]
theorem bitsHigh_length (k n : Nat) : (bitsHigh k n).length = k := by simp [bitsHigh, bitsLow]
theorem bitsLow_more (k n : Nat) : bitsLow (k + 1) n = bitsLow k n ++ [n.testBit k] := by
  unfold bitsLow
  rw [List.range_succ, List.map_append]
  rfl
theorem bitsHigh_more (k n : Nat) : bitsHigh (k + 1) n = n.testBit k :: bitsHigh k n := by
  unfold bitsHigh
  rw [bitsLow_more, List.reverse_append]
  rfl
/-- the highest i of k bits -/
theorem bitsHigh_take {k n i : Nat} (h : i < k) : (bitsHigh k n).take (i + 1) = (bitsHigh k n).take i ++ [n.testBit (k - 1 - i)] := by
  refine take_more ?_
  unfold bitsHigh bitsLow
  rw [List.getElem?_reverse (by simpa using h)]
  simp only [List.length_map, List.length_range]
  rw [List.getElem?_map, List.getElem?_range (by omega)]
  rfl
theorem bitsLow_take {k n i : Nat} (h : i ≤ k) : (bitsLow k n).take i = bitsLow i n := by
  unfold bitsLow
  rw [← List.map_take, List.take_range, Nat.min_eq_left h]

theorem numLow_nil : numLow [] = 0 := rfl
theorem numLow_append (l : List Bool) (b : Bool) : numLow (l ++ [b]) = numLow l + bit b * 2 ^ l.length := by
  unfold numLow bit
  rw [List.zipIdx_append, List.foldl_append]
  show (if b = true then _ + 2 ^ (0 + l.length) else _) = _
  rw [Nat.zero_add]
  cases b <;> simp
theorem numLow_more {l : List Bool} {i : Nat} {b : Bool} (h : l[i]? = some b) : numLow (l.take (i + 1)) = numLow (l.take i) + bit b * 2 ^ i := by
  have hi := (List.getElem?_eq_some_iff.mp h).1
  rw [take_more h, numLow_append, List.length_take, Nat.min_eq_left (Nat.le_of_lt hi)]
theorem bit_le (b : Bool) : bit b ≤ 1 := by cases b <;> decide
theorem list_snoc_ind {α : Type} {P : List α → Prop} (h0 : P []) (hs : ∀ l a, P l → P (l ++ [a])) (l : List α) : P l := by
  have : ∀ l : List α, P l.reverse := by
    intro l
    induction l with
    | nil => exact h0
    | cons a l ih => rw [List.reverse_cons]; exact hs _ a ih
  have h := this l.reverse
  rw [List.reverse_reverse] at h
  exact h
theorem numLow_lt (l : List Bool) : numLow l < 2 ^ l.length := by
  induction l using list_snoc_ind with
  | h0 => exact Nat.lt_of_lt_of_le Nat.zero_lt_one (Nat.le_refl _)
  | hs l a ih =>
    rw [numLow_append, List.length_append, List.length_singleton, Nat.pow_succ]
    have := bit_le a
    have h2 : bit a * 2 ^ l.length ≤ 1 * 2 ^ l.length := Nat.mul_le_mul_right _ this
    omega

/-! ### bits in bytes -/
/-- what stands in so many bytes behind bits -/
def bytesN (l : List Bool) (N : Nat) : List Nat := (List.range N).map fun j => numLow ((l.drop (8 * j)).take 8)
theorem bytesN_nil (N : Nat) : bytesN [] N = List.replicate N 0 := by
  unfold bytesN
  apply List.ext_getElem
  · simp
  · intro i h1 h2
    simp [numLow_nil]
theorem bytesN_getElem? {l : List Bool} {N j : Nat} (h : j < N) : (bytesN l N)[j]? = some (numLow ((l.drop (8 * j)).take 8)) := by
  unfold bytesN
  rw [List.getElem?_map, List.getElem?_range h]
  rfl
theorem bytesN_length (l : List Bool) (N : Nat) : (bytesN l N).length = N := by simp [bytesN]
theorem bytesN_more (l : List Bool) (b : Bool) (N : Nat) (h : l.length / 8 < N) :
    bytesN (l ++ [b]) N = (bytesN l N).set (l.length / 8) (numLow ((l.drop (8 * (l.length / 8))).take 8) + bit b * 2 ^ (l.length % 8)) := by
  apply List.ext_getElem?
  intro j
  by_cases hj : j < N
  · rw [bytesN_getElem? hj]
    by_cases e : l.length / 8 = j
    · subst e
      rw [List.getElem?_set_self (by rw [bytesN_length]; exact h)]
      have h1 : 8 * (l.length / 8) ≤ l.length := by omega
      have h2 : (l.drop (8 * (l.length / 8))).length = l.length % 8 := by rw [List.length_drop]; omega
      have h3 : ((l ++ [b]).drop (8 * (l.length / 8))).take 8 = ((l.drop (8 * (l.length / 8))).take 8) ++ [b] := by
        rw [List.drop_append_of_le_length h1, List.take_of_length_le (by rw [List.length_append, h2, List.length_singleton]; omega), List.take_of_length_le (by rw [h2]; omega)]
      rw [h3, numLow_append, List.length_take, h2, Nat.min_eq_right (by omega)]
    · rw [List.getElem?_set_ne e, bytesN_getElem? hj]
      congr 2
      by_cases h1 : 8 * j ≤ l.length
      · rw [List.drop_append_of_le_length h1, List.take_append_of_le_length (by rw [List.length_drop]; omega)]
      · have h2 : (l ++ [b]).length ≤ 8 * j := by rw [List.length_append, List.length_singleton]; omega
        rw [List.drop_eq_nil_of_le h2, List.drop_eq_nil_of_le (by omega : l.length ≤ 8 * j)]
  · rw [List.getElem?_eq_none (by rw [bytesN_length]; omega), List.getElem?_eq_none (by rw [List.length_set, bytesN_length]; omega)]
theorem toBytes_eq : ∀ (f : Nat) (l : List Bool), l.length < f → toBytes f l = (bytesN l ((l.length + 7) / 8)).map UInt8.ofNat
  | 0, _, h => by omega
  | f + 1, [], _ => rfl
  | f + 1, a :: l, h => by
    have e : toBytes (f + 1) (a :: l) = UInt8.ofNat (numLow ((a :: l).take 8)) :: toBytes f ((a :: l).drop 8) := rfl
    rw [e, toBytes_eq f _ (by rw [List.length_drop, List.length_cons]; rw [List.length_cons] at h; omega)]
    have hl : ((a :: l).length + 7) / 8 = (((a :: l).drop 8).length + 7) / 8 + 1 := by
      rw [List.length_drop, List.length_cons]
      omega
    rw [hl]
    generalize (((a :: l).drop 8).length + 7) / 8 = N
    unfold bytesN
    rw [List.range_succ_eq_map, List.map_cons, List.map_cons, List.map_map, List.map_map, List.map_map]
    congr 1
    apply List.map_congr_left
    intro j _
    simp only [Function.comp]
    rw [List.drop_drop, (by omega : 8 + 8 * j = 8 * j.succ)]
/-- bits of bytes -/
theorem toBits_length (b : Bytes) : (toBits b).length = 8 * b.length := by
  unfold toBits
  induction b with
  | nil => rfl
  | cons a b ih => rw [List.flatMap_cons, List.length_append, bitsLow_length, ih, List.length_cons]; omega
theorem toBits_get : ∀ (b : Bytes) (i : Nat) (c : UInt8), b[i / 8]? = some c → (toBits b)[i]? = some (c.toNat.testBit (i % 8))
  | [], i, c, h => by simp at h
  | a :: b, i, c, h => by
    have e : toBits (a :: b) = bitsLow 8 a.toNat ++ toBits b := rfl
    rw [e]
    by_cases hi : i < 8
    · have h0 : i / 8 = 0 := by omega
      rw [h0] at h
      have e1 : a = c := Option.some.inj h
      subst e1
      rw [List.getElem?_append_left (by rw [bitsLow_length]; exact hi)]
      unfold bitsLow
      rw [List.getElem?_map, List.getElem?_range hi, Nat.mod_eq_of_lt hi]
      rfl
    · rw [List.getElem?_append_right (by rw [bitsLow_length]; omega), bitsLow_length]
      have h1 : i / 8 = (i - 8) / 8 + 1 := by omega
      rw [h1, List.getElem?_cons_succ] at h
      have := toBits_get b (i - 8) c h
      rw [this]
      congr 2
      omega
theorem toBits_drop (b : Bytes) (k : Nat) : toBits (b.drop k) = (toBits b).drop (8 * k) := by
  induction k generalizing b with
  | zero => rfl
  | succ k ih =>
    cases b with
    | nil => simp [toBits]
    | cons a b =>
      rw [List.drop_succ_cons, ih]
      have e : toBits (a :: b) = bitsLow 8 a.toNat ++ toBits b := rfl
      rw [e, List.drop_append, List.drop_eq_nil_of_le (as := bitsLow 8 a.toNat) (by rw [bitsLow_length]; omega), bitsLow_length, List.nil_append]
      congr 1
theorem toBits_take (b : Bytes) (k : Nat) : toBits (b.take k) = (toBits b).take (8 * k) := by
  induction k generalizing b with
  | zero => rfl
  | succ k ih =>
    cases b with
    | nil => simp [toBits]
    | cons a b =>
      rw [List.take_succ_cons]
      have e : ∀ b, toBits (a :: b) = bitsLow 8 a.toNat ++ toBits b := fun _ => rfl
      rw [e, e, ih, List.take_append, List.take_of_length_le (l := bitsLow 8 a.toNat) (by rw [bitsLow_length]; omega), bitsLow_length]
      congr 2
theorem toBits_part (b : Bytes) (i n : Nat) : toBits (part b i n) = ((toBits b).drop (8 * i)).take (8 * n) := by
  unfold part
  rw [toBits_take, toBits_drop]
end Gz
end

/-! ## MCodes -/
section
set_option linter.all false
namespace Gz
open Sw SwSqueeze

/-! ### how often -/
def tally (N : Nat) (T : List Nat) : List Nat := (List.range N).map fun i => T.count i
theorem tally_length (N : Nat) (T : List Nat) : (tally N T).length = N := by simp [tally]
theorem tally_get {N : Nat} {T : List Nat} {i : Nat} (h : i < N) : (tally N T)[i]? = some (T.count i) := by
  unfold tally
  rw [List.getElem?_map, List.getElem?_range h]
  rfl
theorem tally_getD {N : Nat} {T : List Nat} {i : Nat} (h : i < N) : (tally N T).getD i 0 = T.count i := by
  rw [List.getD_eq_getElem?_getD, tally_get h]
  rfl
theorem tally_nil (N : Nat) : tally N [] = List.replicate N 0 := by
  unfold tally
  apply List.ext_getElem <;> simp
theorem tally_more {N : Nat} {T : List Nat} {s : Nat} (h : s < N) : (tally N T).set s (T.count s + 1) = tally N (T ++ [s]) := by
  apply List.ext_getElem?
  intro j
  by_cases hj : j < N
  · rw [tally_get hj, List.count_append]
    by_cases e : s = j
    · subst e
      rw [List.getElem?_set_self (by rw [tally_length]; exact h)]
      simp
    · rw [List.getElem?_set_ne e, tally_get hj]
      have : List.count j [s] = 0 := by
        rw [List.count_singleton]
        simp [e]
      rw [this, Nat.add_zero]
  · rw [List.getElem?_eq_none (by rw [List.length_set, tally_length]; omega), List.getElem?_eq_none (by rw [tally_length]; omega)]
theorem tally_perm {N : Nat} {T T' : List Nat} (h : T.Perm T') : tally N T = tally N T' := by
  unfold tally
  apply List.map_congr_left
  intro i _
  exact h.count_eq i
theorem tally_arr (N : Nat) : ∀ (S T : List Nat), (∀ s ∈ S, s < N) → (S.foldl (fun (a : Array Nat) (s : Nat) => a.set! s (a.getD s 0 + 1)) (tally N T).toArray).toList = tally N (T ++ S)
  | [], T, _ => by simp
  | s :: S, T, h => by
    have hs : s < N := h s List.mem_cons_self
    have e : ((tally N T).toArray.set! s ((tally N T).toArray.getD s 0 + 1)) = (tally N (T ++ [s])).toArray := by
      rw [← tally_more hs, ← tally_getD hs]
      apply Array.ext'
      simp [List.getD_eq_getElem?_getD]
    rw [List.foldl_cons, e, tally_arr N S (T ++ [s]) (fun x hx => h x (List.mem_cons_of_mem _ hx)), List.append_assoc]
    rfl
theorem tally_spec (N : Nat) (S : List Nat) (h : ∀ s ∈ S, s < N) : (S.foldl (fun (a : Array Nat) (s : Nat) => a.set! s (a.getD s 0 + 1)) (Array.replicate N 0)).toList = tally N S := by
  have e : Array.replicate N 0 = (tally N []).toArray := by
    rw [tally_nil]
    exact Array.ext' (by simp)
  rw [e, tally_arr N S [] h, List.nil_append]
theorem count_eq (n : Nat) (l : List Nat) (h : ∀ s ∈ l, s < n) : SwSqueeze.count n l = tally n l := tally_spec n l h

/-! ### pairs in order -/
def pLe (a b : Nat × Nat) : Prop := a.1 < b.1 ∨ (a.1 = b.1 ∧ a.2 ≤ b.2)
theorem pLe.anti {a b : Nat × Nat} (h : pLe a b) (h' : pLe b a) : a = b := by
  obtain ⟨a1, a2⟩ := a
  obtain ⟨b1, b2⟩ := b
  unfold pLe at h h'
  simp only at h h'
  have e1 : a1 = b1 := by omega
  have e2 : a2 = b2 := by omega
  rw [e1, e2]
theorem pLe.trans {a b c : Nat × Nat} (h : pLe a b) (h' : pLe b c) : pLe a c := by
  unfold pLe at *
  omega
theorem sorted_uniq {l m : List (Nat × Nat)} (hl : l.Pairwise pLe) (hm : m.Pairwise pLe) (p : l.Perm m) : l = m :=
  List.Perm.eq_of_pairwise (fun _ _ _ _ h h' => h.anti h') hl hm p
/-- what comes: (how often, symbol) -/
def raw (often : List Nat) : List (Nat × Nat) := ((List.range often.length).filter fun i => decide (0 < often.getD i 0)).map fun i => (often.getD i 0, i)
theorem zipIdx_range (l : List Nat) : l.zipIdx = (List.range l.length).map fun i => (l.getD i 0, i) := by
  apply List.ext_getElem
  · simp
  · intro i h1 h2
    simp at h1 h2 ⊢
    rw [List.getElem?_eq_getElem h2]
    rfl
theorem raw_zip (l : List Nat) : l.zipIdx.filter (fun (q : Nat × Nat) => q.1 != 0) = raw l := by
  rw [zipIdx_range, List.filter_map]
  unfold raw
  congr 1
  apply List.filter_congr
  intro i _
  simp only [Function.comp]
  by_cases h : l.getD i 0 = 0
  · rw [h]; rfl
  · rw [decide_eq_true (by omega), bne_iff_ne.mpr h]

/-! ### leaves -/
def itemP (it : Item) : Nat × Nat := (it.weight, it.symbols.headD 0)
def leavesP (often : List Nat) : List (Nat × Nat) := (leavesOf often).map itemP
theorem leavesP_perm (often : List Nat) : (leavesP often).Perm (raw often) := by
  unfold leavesP leavesOf
  refine ((List.mergeSort_perm _ _).map itemP).trans ?_
  rw [List.map_map, raw_zip]
  have e : (itemP ∘ fun (q : Nat × Nat) => (⟨q.1, [q.2]⟩ : Item)) = id := rfl
  rw [e, List.map_id]
theorem leavesP_sorted (often : List Nat) : (leavesP often).Pairwise pLe := by
  unfold leavesP leavesOf
  rw [List.pairwise_map]
  refine List.Pairwise.imp ?_ (List.pairwise_mergeSort ?_ ?_ _)
  · intro a b h
    simp only [Bool.or_eq_true, Bool.and_eq_true, decide_eq_true_eq, beq_iff_eq] at h
    exact h
  · intro a b c h h'
    simp only [Bool.or_eq_true, Bool.and_eq_true, decide_eq_true_eq, beq_iff_eq] at h h' ⊢
    omega
  · intro a b
    simp only [Bool.or_eq_true, Bool.and_eq_true, decide_eq_true_eq, beq_iff_eq]
    omega
/-- a leaf's symbols: the one -/
theorem leavesOf_one {often : List Nat} {it : Item} (h : it ∈ leavesOf often) : it.symbols = [(itemP it).2] := by
  unfold leavesOf at h
  have h1 := (List.mergeSort_perm _ _).mem_iff.mp h
  obtain ⟨q, _, rfl⟩ := List.mem_map.mp h1
  rfl
theorem flat_one {l : List Item} (h : ∀ it ∈ l, it.symbols = [(itemP it).2]) : l.flatMap Item.symbols = (l.map itemP).map (·.2) := by
  induction l with
  | nil => rfl
  | cons a l ih =>
    rw [List.flatMap_cons, h a List.mem_cons_self, ih fun it hi => h it (List.mem_cons_of_mem _ hi)]
    rfl
theorem leaves_flat (often : List Nat) (k : Nat) : ((leavesOf often).take k).flatMap Item.symbols = ((leavesP often).take k).map (·.2) := by
  rw [flat_one fun it hi => leavesOf_one (List.mem_of_mem_take hi), List.map_take]
  rfl
theorem raw_mem {often : List Nat} {q : Nat × Nat} : q ∈ raw often ↔ q.2 < often.length ∧ often.getD q.2 0 = q.1 ∧ 0 < q.1 := by
  unfold raw
  rw [List.mem_map]
  constructor
  · rintro ⟨i, hi, rfl⟩
    rw [List.mem_filter] at hi
    exact ⟨List.mem_range.mp hi.1, rfl, of_decide_eq_true hi.2⟩
  · rintro ⟨h1, h2, h3⟩
    refine ⟨q.2, List.mem_filter.mpr ⟨List.mem_range.mpr h1, ?_⟩, ?_⟩
    · rw [h2]; exact decide_eq_true h3
    · rw [h2]
theorem leavesP_mem {often : List Nat} {q : Nat × Nat} : q ∈ leavesP often ↔ q.2 < often.length ∧ often.getD q.2 0 = q.1 ∧ 0 < q.1 := (leavesP_perm often).mem_iff.trans raw_mem
theorem raw_nodup (often : List Nat) : ((raw often).map (·.2)).Nodup := by
  unfold raw
  rw [List.map_map]
  have e : ((fun q : Nat × Nat => q.2) ∘ fun i => (often.getD i 0, i)) = id := rfl
  rw [e, List.map_id]
  exact List.Pairwise.filter _ List.nodup_range
theorem leavesP_nodup (often : List Nat) : ((leavesP often).map (·.2)).Nodup := ((leavesP_perm often).map _).nodup_iff.mpr (raw_nodup often)
theorem leavesOf_length (often : List Nat) : (leavesOf often).length = (leavesP often).length := by simp [leavesP]

/-! ### the merge, its items told apart -/
def mergeT : (f : Nat) → List Item → List Item → List (Bool × Item)
  | 0, _, _ => []
  | _ + 1, [], q => q.map fun it => (true, it)
  | _ + 1, p, [] => p.map fun it => (false, it)
  | f + 1, a :: p, b :: q => if a.weight ≤ b.weight then (false, a) :: mergeT f p (b :: q) else (true, b) :: mergeT f (a :: p) q
theorem mergeT_snd : ∀ (f : Nat) (p q : List Item), (mergeT f p q).map (·.2) = merge f p q
  | 0, _, _ => rfl
  | _ + 1, [], q => by
    show (q.map _).map _ = q
    rw [List.map_map]
    exact List.map_id _
  | _ + 1, a :: p, [] => by
    show ((a :: p).map _).map _ = a :: p
    rw [List.map_map]
    exact List.map_id _
  | f + 1, a :: p, b :: q => by
    show (if a.weight ≤ b.weight then (false, a) :: mergeT f p (b :: q) else (true, b) :: mergeT f (a :: p) q).map (·.2) = if a.weight ≤ b.weight then a :: merge f p (b :: q) else b :: merge f (a :: p) q
    split
    · rw [List.map_cons, mergeT_snd f p (b :: q)]
    · rw [List.map_cons, mergeT_snd f (a :: p) q]
def tF (l : List Item) : List (Bool × Item) := l.map fun it => (false, it)
def tT (l : List Item) : List (Bool × Item) := l.map fun it => (true, it)
/-- how many packages among the first w -/
def trues (l : List (Bool × Item)) : Nat := (l.map fun q => bit q.1).sum
theorem trues_le : ∀ l : List (Bool × Item), trues l ≤ l.length
  | [] => Nat.le_refl _
  | q :: l => by
    have := trues_le l
    have h := bit_le q.1
    show bit q.1 + trues l ≤ l.length + 1
    omega
theorem trues_tF (l : List Item) : trues (tF l) = 0 := by
  induction l with
  | nil => rfl
  | cons a l ih => show bit false + trues (tF l) = 0; rw [ih]; rfl
theorem trues_tT (l : List Item) : trues (tT l) = l.length := by
  induction l with
  | nil => rfl
  | cons a l ih => show bit true + trues (tT l) = l.length + 1; rw [ih]; show 1 + _ = _; omega
theorem mergeT_take : ∀ (f : Nat) (p q : List Item), p.length + q.length < f → ∀ w : Nat, ((mergeT f p q).take w).Perm (tF (p.take (w - trues ((mergeT f p q).take w))) ++ tT (q.take (trues ((mergeT f p q).take w))))
  | 0, _, _, h, _ => by omega
  | f + 1, [], q, h, w => by
    have e : mergeT (f + 1) [] q = tT q := rfl
    have e2 : (tT q).take w = tT (q.take w) := List.map_take.symm
    rw [e, e2, trues_tT, List.take_nil]
    have e3 : q.take (q.take w).length = q.take w := by
      rw [List.length_take, List.take_eq_take_iff]
      omega
    rw [e3]
    exact .refl _
  | f + 1, a :: p, [], h, w => by
    have e : mergeT (f + 1) (a :: p) [] = tF (a :: p) := rfl
    have e2 : (tF (a :: p)).take w = tF ((a :: p).take w) := List.map_take.symm
    rw [e, e2, trues_tF, List.take_nil, Nat.sub_zero]
    exact .of_eq (List.append_nil _).symm
  | f + 1, a :: p, b :: q, h, 0 => .refl _
  | f + 1, a :: p, b :: q, h, w + 1 => by
    have e : mergeT (f + 1) (a :: p) (b :: q) = if a.weight ≤ b.weight then (false, a) :: mergeT f p (b :: q) else (true, b) :: mergeT f (a :: p) q := rfl
    rw [e]
    split
    · have ih := mergeT_take f p (b :: q) (by simp only [List.length_cons] at h ⊢; omega) w
      rw [List.take_succ_cons]
      have e1 : trues ((false, a) :: (mergeT f p (b :: q)).take w) = trues ((mergeT f p (b :: q)).take w) := by show bit false + _ = _; exact Nat.zero_add _
      rw [e1]
      have h1 := trues_le ((mergeT f p (b :: q)).take w)
      have h2 : ((mergeT f p (b :: q)).take w).length ≤ w := List.length_take_le _ _
      rw [show w + 1 - trues ((mergeT f p (b :: q)).take w) = (w - trues ((mergeT f p (b :: q)).take w)) + 1 by omega, List.take_succ_cons]
      exact ih.cons _
    · have ih := mergeT_take f (a :: p) q (by simp only [List.length_cons] at h ⊢; omega) w
      rw [List.take_succ_cons]
      have e1 : trues ((true, b) :: (mergeT f (a :: p) q).take w) = trues ((mergeT f (a :: p) q).take w) + 1 := by show bit true + _ = _; exact Nat.add_comm _ _
      rw [e1, List.take_succ_cons, show w + 1 - (trues ((mergeT f (a :: p) q).take w) + 1) = w - trues ((mergeT f (a :: p) q).take w) by omega]
      exact (ih.cons _).trans List.perm_middle.symm
theorem mergeT_perm : ∀ (f : Nat) (p q : List Item), p.length + q.length < f → (mergeT f p q).Perm (tF p ++ tT q)
  | 0, _, _, h => by omega
  | f + 1, [], q, h => .refl _
  | f + 1, a :: p, [], h => .of_eq (List.append_nil _).symm
  | f + 1, a :: p, b :: q, h => by
    have e : mergeT (f + 1) (a :: p) (b :: q) = if a.weight ≤ b.weight then (false, a) :: mergeT f p (b :: q) else (true, b) :: mergeT f (a :: p) q := rfl
    rw [e]
    split
    · exact (mergeT_perm f p (b :: q) (by simp only [List.length_cons] at h ⊢; omega)).cons _
    · exact ((mergeT_perm f (a :: p) q (by simp only [List.length_cons] at h ⊢; omega)).cons _).trans List.perm_middle.symm
def tagP (q : Bool × Item) : Nat × Nat := (q.2.weight, bit q.1)
def up (l : List Item) : Prop := l.Pairwise fun a b => a.weight ≤ b.weight
theorem mergeT_sorted : ∀ (f : Nat) (p q : List Item), p.length + q.length < f → up p → up q → (mergeT f p q).Pairwise fun a b => pLe (tagP a) (tagP b)
  | 0, _, _, h, _, _ => by omega
  | f + 1, [], q, h, _, hq => by
    show (q.map _).Pairwise _
    rw [List.pairwise_map]
    refine hq.imp fun {a b} h => ?_
    unfold pLe tagP
    simp only
    omega
  | f + 1, a :: p, [], h, hp, _ => by
    show ((a :: p).map _).Pairwise _
    rw [List.pairwise_map]
    refine hp.imp fun {a b} h => ?_
    unfold pLe tagP
    simp only
    omega
  | f + 1, a :: p, b :: q, h, hp, hq => by
    have e : mergeT (f + 1) (a :: p) (b :: q) = if a.weight ≤ b.weight then (false, a) :: mergeT f p (b :: q) else (true, b) :: mergeT f (a :: p) q := rfl
    rw [e]
    have hp' := List.pairwise_cons.mp hp
    have hq' := List.pairwise_cons.mp hq
    split
    · rename_i hab
      refine List.pairwise_cons.mpr ⟨fun x hx => ?_, mergeT_sorted f p (b :: q) (by simp only [List.length_cons] at h ⊢; omega) hp'.2 hq⟩
      have hx' := (mergeT_perm f p (b :: q) (by simp only [List.length_cons] at h ⊢; omega)).mem_iff.mp hx
      rcases List.mem_append.mp hx' with hx' | hx'
      · obtain ⟨y, hy, rfl⟩ := List.mem_map.mp hx'
        have := hp'.1 y hy
        unfold pLe tagP
        simp only
        omega
      · obtain ⟨y, hy, rfl⟩ := List.mem_map.mp hx'
        have : a.weight ≤ y.weight := by
          rcases List.mem_cons.mp hy with rfl | hy
          · exact hab
          · exact Nat.le_trans hab (hq'.1 y hy)
        unfold pLe tagP bit
        simp
        omega
    · rename_i hab
      refine List.pairwise_cons.mpr ⟨fun x hx => ?_, mergeT_sorted f (a :: p) q (by simp only [List.length_cons] at h ⊢; omega) hp hq'.2⟩
      have hx' := (mergeT_perm f (a :: p) q (by simp only [List.length_cons] at h ⊢; omega)).mem_iff.mp hx
      rcases List.mem_append.mp hx' with hx' | hx'
      · obtain ⟨y, hy, rfl⟩ := List.mem_map.mp hx'
        have : b.weight < y.weight := by
          rcases List.mem_cons.mp hy with rfl | hy
          · omega
          · have := hp'.1 y hy; omega
        unfold pLe tagP
        simp only
        omega
      · obtain ⟨y, hy, rfl⟩ := List.mem_map.mp hx'
        have := hq'.1 y hy
        unfold pLe tagP
        simp only
        omega

/-! ### packages -/
theorem packages_length : ∀ l : List Item, (packages l).length = l.length / 2
  | [] => rfl
  | [a] => by show 0 = 1 / 2; omega
  | a :: b :: l => by
    show (packages l).length + 1 = _
    rw [packages_length l, List.length_cons, List.length_cons]
    omega
theorem packages_flat : ∀ (l : List Item) (k : Nat), k ≤ (packages l).length → ((packages l).take k).flatMap Item.symbols = (l.take (2 * k)).flatMap Item.symbols
  | l, 0, _ => rfl
  | [], k + 1, h => by exact absurd h (Nat.not_succ_le_zero _)
  | [_], k + 1, h => by exact absurd h (Nat.not_succ_le_zero _)
  | a :: b :: l, k + 1, h => by
    have e : packages (a :: b :: l) = ⟨a.weight + b.weight, a.symbols ++ b.symbols⟩ :: packages l := rfl
    rw [e] at h ⊢
    rw [List.take_succ_cons, List.flatMap_cons, packages_flat l k (by rw [List.length_cons] at h; omega), show 2 * (k + 1) = 2 * k + 1 + 1 by omega, List.take_succ_cons, List.take_succ_cons, List.flatMap_cons, List.flatMap_cons, List.append_assoc]
theorem packages_mem : ∀ {l : List Item} {x : Item}, x ∈ packages l → ∃ a b, a ∈ l ∧ b ∈ l ∧ x.weight = a.weight + b.weight
  | [], _, h => by cases h
  | [_], _, h => by cases h
  | a :: b :: l, x, h => by
    have e : packages (a :: b :: l) = ⟨a.weight + b.weight, a.symbols ++ b.symbols⟩ :: packages l := rfl
    rw [e] at h
    rcases List.mem_cons.mp h with rfl | h
    · exact ⟨a, b, by simp, by simp, rfl⟩
    · obtain ⟨c, d, hc, hd, e⟩ := packages_mem h
      exact ⟨c, d, by simp [hc], by simp [hd], e⟩
theorem packages_up : ∀ {l : List Item}, up l → up (packages l)
  | [], _ => List.Pairwise.nil
  | [_], _ => List.Pairwise.nil
  | a :: b :: l, h => by
    have h1 := List.pairwise_cons.mp h
    have h2 := List.pairwise_cons.mp h1.2
    refine List.pairwise_cons.mpr ⟨fun x hx => ?_, packages_up h2.2⟩
    obtain ⟨c, d, hc, hd, e⟩ := packages_mem hx
    rw [e]
    have := h1.1 c (by simp [hc])
    have := h2.1 d hd
    show a.weight + b.weight ≤ _
    omega
/-- the same of pairs -/
def packsP : List (Nat × Nat) → List (Nat × Nat)
  | a :: b :: l => (a.1 + b.1, 1) :: packsP l
  | _ => []
theorem packsP_of : ∀ l : List (Bool × Item), packsP (l.map tagP) = (packages (l.map (·.2))).map fun it => (it.weight, 1)
  | [] => rfl
  | [_] => rfl
  | a :: b :: l => by
    show ((tagP a).1 + (tagP b).1, 1) :: packsP (l.map tagP) = _
    rw [packsP_of l]
    rfl
theorem packsP_length : ∀ l : List (Nat × Nat), (packsP l).length = l.length / 2
  | [] => rfl
  | [a] => by show 0 = 1 / 2; omega
  | a :: b :: l => by
    show (packsP l).length + 1 = _
    rw [packsP_length l, List.length_cons, List.length_cons]
    omega
theorem packsP_get : ∀ (l : List (Nat × Nat)) (k : Nat) (a b : Nat × Nat), l[2 * k]? = some a → l[2 * k + 1]? = some b → (packsP l)[k]? = some (a.1 + b.1, 1)
  | [], k, a, b, h, _ => by simp at h
  | [_], 0, a, b, _, h => by simp at h
  | [_], k + 1, a, b, _, h => by simp at h
  | c :: d :: l, 0, a, b, h, h' => by
    simp at h h'
    subst h h'
    rfl
  | c :: d :: l, k + 1, a, b, h, h' => by
    show (packsP l)[k]? = _
    refine packsP_get l k a b ?_ ?_
    · rw [show 2 * (k + 1) = 2 * k + 1 + 1 by omega, List.getElem?_cons_succ, List.getElem?_cons_succ] at h
      exact h
    · rw [show 2 * (k + 1) + 1 = 2 * k + 1 + 1 + 1 by omega, List.getElem?_cons_succ, List.getElem?_cons_succ] at h'
      exact h'

/-! ### rows -/
section
variable (l : List Item)
def rowT : Nat → List (Bool × Item)
  | 0 => tF l
  | n + 1 => mergeT (l.length + (packages (rowAfter l n)).length + 1) l (packages (rowAfter l n))
theorem rowT_snd : ∀ n, (rowT l n).map (·.2) = rowAfter l n
  | 0 => by
    show (l.map _).map _ = l
    rw [List.map_map]
    exact List.map_id _
  | n + 1 => mergeT_snd _ _ _
def rowP (n : Nat) : List (Nat × Nat) := (rowT l n).map tagP
theorem rowP_packs (n : Nat) : packsP (rowP l n) = (packages (rowAfter l n)).map fun it => (it.weight, 1) := by
  unfold rowP
  rw [packsP_of, rowT_snd]
theorem rowP_perm (n : Nat) : (rowP l (n + 1)).Perm (rowP l 0 ++ packsP (rowP l n)) := by
  rw [rowP_packs]
  have h := (mergeT_perm (l.length + (packages (rowAfter l n)).length + 1) l (packages (rowAfter l n)) (by omega)).map tagP
  rw [List.map_append] at h
  refine h.trans (.of_eq ?_)
  congr 1
  unfold tT
  rw [List.map_map]
  rfl
theorem up_of_tag {l : List (Bool × Item)} (h : l.Pairwise fun a b => pLe (tagP a) (tagP b)) : up (l.map (·.2)) := by
  unfold up
  rw [List.pairwise_map]
  refine h.imp fun {a b} h => ?_
  unfold pLe tagP at h
  simp only at h
  omega
theorem rowT_sorted (hl : up l) : ∀ n, (rowT l n).Pairwise fun a b => pLe (tagP a) (tagP b)
  | 0 => by
    show (l.map _).Pairwise _
    rw [List.pairwise_map]
    refine hl.imp fun {a b} h => ?_
    unfold pLe tagP
    simp only
    omega
  | n + 1 => by
    have ih := up_of_tag (rowT_sorted hl n)
    rw [rowT_snd] at ih
    exact mergeT_sorted _ _ _ (by omega) hl (packages_up ih)
theorem rowP_sorted (hl : up l) (n : Nat) : (rowP l n).Pairwise pLe := by
  unfold rowP
  rw [List.pairwise_map]
  exact rowT_sorted l hl n
/-- what the program's sorted gives -/
theorem rowP_uniq (hl : up l) {n : Nat} {ps : List (Nat × Nat)} (p : ps.Perm (rowP l 0 ++ packsP (rowP l n))) (s : ps.Pairwise pLe) : ps = rowP l (n + 1) :=
  sorted_uniq s (rowP_sorted l hl (n + 1)) (p.trans (rowP_perm l n).symm)
/-- the symbols in the first w items of row n -/
def syms (n w : Nat) : List Nat := ((rowAfter l n).take w).flatMap Item.symbols
def made (n w : Nat) : Nat := (((rowP l n).take w).map (·.2)).sum
theorem made_eq (n w : Nat) : made l n w = trues ((rowT l n).take w) := by
  unfold made rowP trues
  rw [← List.map_take, List.map_map]
  rfl
theorem made_le (n w : Nat) : made l n w ≤ w := by
  rw [made_eq]
  exact Nat.le_trans (trues_le _) (List.length_take_le _ _)
theorem trues_append (a b : List (Bool × Item)) : trues (a ++ b) = trues a + trues b := by
  unfold trues
  rw [List.map_append, List.sum_append]
theorem trues_perm {a b : List (Bool × Item)} (h : a.Perm b) : trues a = trues b := by
  unfold trues
  exact (h.map _).sum_nat
theorem trues_take_le (a : List (Bool × Item)) (w : Nat) : trues (a.take w) ≤ trues a := by
  have h := trues_append (a.take w) (a.drop w)
  rw [List.take_append_drop] at h
  omega
theorem made_succ_le (n w : Nat) : made l (n + 1) w ≤ (packages (rowAfter l n)).length := by
  rw [made_eq]
  refine Nat.le_trans (trues_take_le _ _) ?_
  rw [show rowT l (n + 1) = mergeT (l.length + (packages (rowAfter l n)).length + 1) l (packages (rowAfter l n)) from rfl, trues_perm (mergeT_perm _ _ _ (by omega)), trues_append, trues_tF, trues_tT]
  omega
theorem syms_zero (w : Nat) : (syms l 0 w) = (l.take w).flatMap Item.symbols := rfl
theorem made_zero (w : Nat) : made l 0 w = 0 := by
  rw [made_eq]
  have h := trues_take_le (rowT l 0) w
  have e : trues (rowT l 0) = 0 := trues_tF l
  omega
theorem syms_succ (n w : Nat) : (syms l (n + 1) w).Perm ((l.take (w - made l (n + 1) w)).flatMap Item.symbols ++ syms l n (2 * made l (n + 1) w)) := by
  have h := mergeT_take (l.length + (packages (rowAfter l n)).length + 1) l (packages (rowAfter l n)) (by omega) w
  have e : mergeT (l.length + (packages (rowAfter l n)).length + 1) l (packages (rowAfter l n)) = rowT l (n + 1) := rfl
  rw [e, ← made_eq] at h
  have h2 := (h.map (·.2)).flatMap_right Item.symbols
  rw [List.map_append, List.flatMap_append] at h2
  have e1 : ∀ x : List Item, (tF x).map (·.2) = x := fun x => by
    show (x.map _).map _ = x
    rw [List.map_map]
    exact List.map_id _
  have e2 : ∀ x : List Item, (tT x).map (·.2) = x := fun x => by
    show (x.map _).map _ = x
    rw [List.map_map]
    exact List.map_id _
  rw [e1, e2, packages_flat _ _ (made_succ_le l n w), List.map_take, rowT_snd] at h2
  exact h2
end

/-! ### the lengths -/
section
variable (often : List Nat)
theorem leaves_up : up (leavesOf often) := by
  have h := leavesP_sorted often
  unfold leavesP at h
  rw [List.pairwise_map] at h
  refine h.imp fun {a b} h => ?_
  unfold pLe itemP at h
  simp only at h
  omega
/-- what's still to be told before turn t (row 14 - t) with w items wanted -/
def still (t w : Nat) : List Nat := if t < 15 then syms (leavesOf often) (14 - t) w else []
def madeAt (t w : Nat) : Nat := made (leavesOf often) (14 - t) w
theorem madeAt_le (t w : Nat) : madeAt often t w ≤ w := made_le _ _ _
theorem still_step {t w : Nat} (ht : t < 15) : (still often t w).Perm (((leavesP often).take (w - madeAt often t w)).map (·.2) ++ still often (t + 1) (2 * madeAt often t w)) := by
  unfold still madeAt
  rw [if_pos ht]
  by_cases h : t = 14
  · subst h
    rw [if_neg (by omega), List.append_nil, show 14 - 14 = 0 from rfl, made_zero, syms_zero, leaves_flat]
    exact .refl _
  · rw [if_pos (by omega), show 14 - t = (14 - (t + 1)) + 1 by omega, ← leaves_flat]
    exact syms_succ _ _ _
theorem syms_lt : ∀ n w, ∀ s ∈ syms (leavesOf often) n w, s < often.length := by
  intro n
  induction n with
  | zero =>
    intro w s hs
    rw [syms_zero, leaves_flat] at hs
    obtain ⟨q, hq, rfl⟩ := List.mem_map.mp hs
    exact (leavesP_mem.mp (List.mem_of_mem_take hq)).1
  | succ n ih =>
    intro w s hs
    have h := (syms_succ (leavesOf often) n w).mem_iff.mp hs
    rcases List.mem_append.mp h with h | h
    · rw [leaves_flat] at h
      obtain ⟨q, hq, rfl⟩ := List.mem_map.mp h
      exact (leavesP_mem.mp (List.mem_of_mem_take hq)).1
    · exact ih _ s h
theorem take_count (k s : Nat) : (((leavesP often).take k).map (·.2)).count s ≤ 1 := by
  rw [List.map_take]
  exact (List.nodup_iff_count.mp ((leavesP_nodup often).sublist (List.take_sublist _ _))) s
theorem syms_count : ∀ n w s, (syms (leavesOf often) n w).count s ≤ n + 1 := by
  intro n
  induction n with
  | zero =>
    intro w s
    rw [syms_zero, leaves_flat]
    exact take_count _ _ _
  | succ n ih =>
    intro w s
    rw [(syms_succ (leavesOf often) n w).count_eq, List.count_append, leaves_flat]
    have := take_count often (w - made (leavesOf often) (n + 1) w) s
    have := ih (2 * made (leavesOf often) (n + 1) w) s
    omega
theorem lengths_none (h : (leavesP often).length = 0) : lengths often = List.replicate often.length 0 := by
  rw [← leavesOf_length] at h
  unfold lengths
  simp only [h]
  rw [if_pos trivial]
  apply List.ext_getElem <;> simp
theorem lengths_two (h : 2 ≤ (leavesP often).length) : lengths often = tally often.length (syms (leavesOf often) 14 (2 * (leavesP often).length - 2)) := by
  rw [← leavesOf_length] at h ⊢
  unfold lengths
  simp only
  rw [if_neg (by omega), if_neg (by omega)]
  exact tally_spec _ _ (syms_lt often 14 _)
theorem lengths_one (h : (leavesP often).length = 1) {q : Nat × Nat} (hq : (leavesP often)[0]? = some q) : lengths often = (List.replicate often.length 0).set q.2 1 := by
  have hm : ∀ x, x ∈ leavesP often ↔ x = q := by
    intro x
    match e : leavesP often with
    | [] => rw [e] at h; cases h
    | [y] =>
      rw [e] at hq
      have : y = q := by simpa using hq
      subst this
      simp
    | _ :: _ :: _ => rw [e] at h; simp at h
  rw [← leavesOf_length] at h
  unfold lengths
  simp only
  rw [if_neg (by omega), if_pos h]
  apply List.ext_getElem?
  intro j
  rw [List.getElem?_map]
  by_cases hj : j < often.length
  · rw [List.getElem?_eq_getElem hj]
    have hD : often.getD j 0 = often[j] := by rw [List.getD_eq_getElem?_getD, List.getElem?_eq_getElem hj]; rfl
    by_cases e : q.2 = j
    · have h1 := leavesP_mem.mp ((hm q).mpr rfl)
      rw [e, List.getElem?_set_self (by simpa using hj)]
      have : often[j] ≠ 0 := by
        rw [e, hD] at h1
        omega
      simp [this]
    · rw [List.getElem?_set_ne e, List.getElem?_replicate, if_pos hj]
      have : often[j] = 0 := by
        refine Nat.eq_zero_of_not_pos fun h0 => ?_
        have h2 := (hm (often[j], j)).mp (leavesP_mem.mpr ⟨hj, hD, h0⟩)
        rw [← h2] at e
        exact e rfl
      simp [this]
  · rw [List.getElem?_eq_none (by omega), List.getElem?_eq_none (by simpa using hj)]
    rfl
theorem lengths_length : (lengths often).length = often.length := by
  by_cases h0 : (leavesP often).length = 0
  · rw [lengths_none often h0, List.length_replicate]
  · by_cases h1 : (leavesP often).length = 1
    · have h2 : 0 < (leavesP often).length := by omega
      rw [lengths_one often h1 (List.getElem?_eq_getElem h2), List.length_set, List.length_replicate]
    · rw [lengths_two often (by omega), tally_length]
theorem lengths_le : ∀ n ∈ lengths often, n ≤ 15 := by
  intro n hn
  by_cases h0 : (leavesP often).length = 0
  · rw [lengths_none often h0] at hn
    rw [List.eq_of_mem_replicate hn]
    omega
  · by_cases h1 : (leavesP often).length = 1
    · have h2 : 0 < (leavesP often).length := by omega
      rw [lengths_one often h1 (List.getElem?_eq_getElem h2)] at hn
      rcases List.mem_or_eq_of_mem_set hn with hn | hn
      · rw [List.eq_of_mem_replicate hn]
        omega
      · omega
    · rw [lengths_two often (by omega)] at hn
      obtain ⟨i, _, rfl⟩ := List.mem_map.mp hn
      exact syms_count often 14 _ i

/-! every symbol that comes gets a length -/
/-- behind the first 2 m - 2 items of a row no leaf stands -/
def NoLeaf (n : Nat) : Prop := ∀ q ∈ (rowT (leavesOf often) n).drop (2 * (leavesOf often).length - 2), q.1 = true
theorem row_length (n : Nat) : (rowAfter (leavesOf often) (n + 1)).length = (leavesOf often).length + (rowAfter (leavesOf often) n).length / 2 := by
  rw [← rowT_snd, List.length_map]
  have h := (mergeT_perm ((leavesOf often).length + (packages (rowAfter (leavesOf often) n)).length + 1) (leavesOf often) (packages (rowAfter (leavesOf often) n)) (by omega)).length_eq
  rw [show rowT (leavesOf often) (n + 1) = mergeT ((leavesOf often).length + (packages (rowAfter (leavesOf often) n)).length + 1) (leavesOf often) (packages (rowAfter (leavesOf often) n)) from rfl, h, List.length_append]
  unfold tF tT
  rw [List.length_map, List.length_map, packages_length]
theorem row_short (h : 1 ≤ (leavesOf often).length) : ∀ n, (rowAfter (leavesOf often) n).length ≤ 2 * (leavesOf often).length - 1
  | 0 => by show (leavesOf often).length ≤ _; omega
  | n + 1 => by
    have ih := row_short h n
    rw [row_length]
    omega
theorem rowT_length (n : Nat) : (rowT (leavesOf often) n).length = (rowAfter (leavesOf often) n).length := by rw [← rowT_snd, List.length_map]
theorem packages_last : ∀ (l : List Item) (k : Nat) (x a b : Item), (packages l)[k]? = some x → l[2 * k]? = some a → l[2 * k + 1]? = some b → x.weight = a.weight + b.weight
  | [], k, _, _, _, h, _, _ => by simp [packages] at h
  | [_], k, _, _, _, h, _, _ => by simp [packages] at h
  | c :: d :: l, 0, x, a, b, h, h1, h2 => by
    simp [packages] at h h1 h2
    subst h h1 h2
    rfl
  | c :: d :: l, k + 1, x, a, b, h, h1, h2 => by
    refine packages_last l k x a b ?_ ?_ ?_
    · have e : packages (c :: d :: l) = ⟨c.weight + d.weight, c.symbols ++ d.symbols⟩ :: packages l := rfl
      rw [e, List.getElem?_cons_succ] at h
      exact h
    · rw [show 2 * (k + 1) = 2 * k + 1 + 1 by omega, List.getElem?_cons_succ, List.getElem?_cons_succ] at h1
      exact h1
    · rw [show 2 * (k + 1) + 1 = 2 * k + 1 + 1 + 1 by omega, List.getElem?_cons_succ, List.getElem?_cons_succ] at h2
      exact h2
theorem leaf_pos {it : Item} (h : it ∈ leavesOf often) : 0 < it.weight := by
  have h1 : itemP it ∈ leavesP often := List.mem_map_of_mem h
  have h2 := (leavesP_mem.mp h1).2.2
  exact h2
theorem rowT_leaf {n : Nat} {q : Bool × Item} (h : q ∈ rowT (leavesOf often) n) (hq : q.1 = false) : q.2 ∈ leavesOf often := by
  cases n with
  | zero =>
    obtain ⟨y, hy, rfl⟩ := List.mem_map.mp (show q ∈ (leavesOf often).map _ from h)
    exact hy
  | succ n =>
    have h' := (mergeT_perm ((leavesOf often).length + (packages (rowAfter (leavesOf often) n)).length + 1) (leavesOf often) (packages (rowAfter (leavesOf often) n)) (by omega)).mem_iff.mp h
    rcases List.mem_append.mp h' with h' | h'
    · obtain ⟨y, hy, rfl⟩ := List.mem_map.mp h'
      exact hy
    · obtain ⟨y, hy, rfl⟩ := List.mem_map.mp h'
      cases hq
theorem rowT_has {n : Nat} {it : Item} (h : it ∈ leavesOf often) : (false, it) ∈ rowT (leavesOf often) n := by
  cases n with
  | zero => exact List.mem_map_of_mem (f := fun it => (false, it)) h
  | succ n =>
    have h' := (mergeT_perm ((leavesOf often).length + (packages (rowAfter (leavesOf often) n)).length + 1) (leavesOf often) (packages (rowAfter (leavesOf often) n)) (by omega))
    exact h'.mem_iff.mpr (List.mem_append_left _ (List.mem_map_of_mem (f := fun it => (false, it)) h))
theorem noLeaf (h : 2 ≤ (leavesOf often).length) : ∀ n, NoLeaf often n
  | 0 => by
    intro q hq
    have : (rowT (leavesOf often) 0).length = (leavesOf often).length := rowT_length often 0
    rw [List.drop_eq_nil_of_le (by omega)] at hq
    cases hq
  | n + 1 => by
    have ih := noLeaf h n
    intro q hq
    cases hb : q.1 with
    | true => rfl
    | false =>
      exfalso
      have hs := row_short often (by omega) n
      have hl := row_length often n
      have hl2 := rowT_length often (n + 1)
      have hn := rowT_length often n
      -- the row has 2 m - 1 items, q is its last
      obtain ⟨j, hj, ej⟩ := List.mem_iff_getElem.mp hq
      rw [List.length_drop] at hj
      rw [List.getElem_drop] at ej
      have hlen : (rowAfter (leavesOf often) n).length / 2 = (leavesOf often).length - 1 := by omega
      have hbig : 2 * (leavesOf often).length - 2 ≤ (rowAfter (leavesOf often) n).length := by omega
      -- the two items of the last package
      have i1 : 2 * ((leavesOf often).length - 2) + 1 < (rowT (leavesOf often) n).length := by omega
      have i0 : 2 * ((leavesOf often).length - 2) < (rowT (leavesOf often) n).length := by omega
      have hp : (leavesOf often).length - 2 < (packages (rowAfter (leavesOf often) n)).length := by rw [packages_length]; omega
      have ga : (rowAfter (leavesOf often) n)[2 * ((leavesOf often).length - 2)]? = some ((rowT (leavesOf often) n)[2 * ((leavesOf often).length - 2)]).2 := by
        rw [← rowT_snd, List.getElem?_map, List.getElem?_eq_getElem i0]
        rfl
      have gb : (rowAfter (leavesOf often) n)[2 * ((leavesOf often).length - 2) + 1]? = some ((rowT (leavesOf often) n)[2 * ((leavesOf often).length - 2) + 1]).2 := by
        rw [← rowT_snd, List.getElem?_map, List.getElem?_eq_getElem i1]
        rfl
      have hw := packages_last _ _ _ _ _ (List.getElem?_eq_getElem hp) ga gb
      -- q is a leaf: it stands among the first of row n
      have hmem : q ∈ rowT (leavesOf often) (n + 1) := List.mem_of_mem_drop hq
      have hleaf := rowT_leaf often hmem hb
      have hin := rowT_has often (n := n) hleaf
      obtain ⟨k, hk, ek⟩ := List.mem_iff_getElem.mp hin
      have hk2 : k < 2 * (leavesOf often).length - 2 := by
        refine Nat.lt_of_not_le fun hge => ?_
        have : (false, q.2) ∈ (rowT (leavesOf often) n).drop (2 * (leavesOf often).length - 2) := by
          rw [← ek]
          refine List.mem_iff_getElem.mpr ⟨k - (2 * (leavesOf often).length - 2), by rw [List.length_drop]; omega, ?_⟩
          rw [List.getElem_drop]
          congr 1
          omega
        exact absurd (ih _ this) Bool.false_ne_true
      have hsort := rowT_sorted (leavesOf often) (leaves_up often) n
      have hwk : q.2.weight ≤ ((rowT (leavesOf often) n)[2 * ((leavesOf often).length - 2) + 1]).2.weight := by
        by_cases e : k = 2 * ((leavesOf often).length - 2) + 1
        · subst e
          rw [ek]
          exact Nat.le_refl _
        · have := List.pairwise_iff_getElem.mp hsort k (2 * ((leavesOf often).length - 2) + 1) hk i1 (by omega)
          rw [ek] at this
          unfold pLe tagP at this
          simp only at this
          omega
      -- the last package stands in row n + 1, before q or behind
      have hpk : (true, (packages (rowAfter (leavesOf often) n))[(leavesOf often).length - 2]) ∈ rowT (leavesOf often) (n + 1) :=
        (mergeT_perm ((leavesOf often).length + (packages (rowAfter (leavesOf often) n)).length + 1) (leavesOf often) (packages (rowAfter (leavesOf often) n)) (by omega)).mem_iff.mpr
          (List.mem_append_right _ (List.mem_map_of_mem (f := fun it => (true, it)) (List.getElem_mem hp)))
      obtain ⟨i, hi, ei⟩ := List.mem_iff_getElem.mp hpk
      have hsort1 := rowT_sorted (leavesOf often) (leaves_up often) (n + 1)
      have ej' : (rowT (leavesOf often) (n + 1))[2 * (leavesOf often).length - 2 + j] = q := ej
      have hne : i ≠ 2 * (leavesOf often).length - 2 + j := by
        intro e
        subst e
        rw [ej'] at ei
        rw [ei] at hb
        cases hb
      have hlast : i < 2 * (leavesOf often).length - 2 + j := by omega
      have hle := List.pairwise_iff_getElem.mp hsort1 i (2 * (leavesOf often).length - 2 + j) hi (by omega) hlast
      rw [ei, ej'] at hle
      unfold pLe tagP at hle
      rw [hb] at hle
      simp only [bit] at hle
      simp at hle
      -- the first item of the package weighs something
      have hpos : 0 < ((rowT (leavesOf often) n)[2 * ((leavesOf often).length - 2)]).2.weight := by
        have : ∀ (n : Nat), ∀ it ∈ rowAfter (leavesOf often) n, 0 < it.weight := by
          intro n
          induction n with
          | zero => exact fun it hit => leaf_pos often hit
          | succ n ihn =>
            intro it hit
            rw [← rowT_snd] at hit
            obtain ⟨z, hz, rfl⟩ := List.mem_map.mp hit
            have hz' := (mergeT_perm ((leavesOf often).length + (packages (rowAfter (leavesOf often) n)).length + 1) (leavesOf often) (packages (rowAfter (leavesOf often) n)) (by omega)).mem_iff.mp hz
            rcases List.mem_append.mp hz' with hz' | hz'
            · obtain ⟨y, hy, rfl⟩ := List.mem_map.mp hz'
              exact leaf_pos often hy
            · obtain ⟨y, hy, rfl⟩ := List.mem_map.mp hz'
              obtain ⟨c, d, hc, _, e⟩ := packages_mem hy
              show 0 < y.weight
              have := ihn c hc
              omega
        exact this n _ (List.mem_of_getElem? ga)
      omega
theorem lengths_pos {s : Nat} (hs : 0 < often.getD s 0) : 0 < (lengths often).getD s 0 := by
  have hlt : s < often.length := by
    refine Nat.lt_of_not_le fun h => ?_
    rw [List.getD_eq_getElem?_getD, List.getElem?_eq_none h] at hs
    exact absurd hs (Nat.lt_irrefl _)
  have hm : (often.getD s 0, s) ∈ leavesP often := leavesP_mem.mpr ⟨hlt, rfl, hs⟩
  have hlen : 0 < (leavesP often).length := List.length_pos_of_mem hm
  by_cases h1 : (leavesP often).length = 1
  · have h2 : (leavesP often)[0]? = some (often.getD s 0, s) := by
      match e : leavesP often with
      | [] => rw [e] at h1; cases h1
      | [y] => rw [e, List.mem_singleton] at hm; rw [hm]; rfl
      | _ :: _ :: _ => rw [e] at h1; simp at h1
    rw [lengths_one often h1 h2, List.getD_eq_getElem?_getD, List.getElem?_set_self (by simpa using hlt)]
    exact Nat.zero_lt_one
  · rw [lengths_two often (by omega), tally_getD hlt]
    have hl2 : 2 ≤ (leavesOf often).length := by rw [leavesOf_length]; omega
    -- all leaves are taken in the last row
    refine List.count_pos_iff.mpr ?_
    have hin : ∃ it ∈ leavesOf often, itemP it = (often.getD s 0, s) := by
      obtain ⟨it, h, e⟩ := List.mem_map.mp hm
      exact ⟨it, h, e⟩
    obtain ⟨it, hit, eit⟩ := hin
    have hr := rowT_has often (n := 14) hit
    have hd := noLeaf often hl2 14
    have : (false, it) ∈ (rowT (leavesOf often) 14).take (2 * (leavesOf often).length - 2) := by
      rw [← List.take_append_drop (2 * (leavesOf often).length - 2) (rowT (leavesOf often) 14)] at hr
      rcases List.mem_append.mp hr with hr | hr
      · exact hr
      · exact absurd (hd _ hr) Bool.false_ne_true
    unfold syms
    rw [← leavesOf_length]
    refine List.mem_flatMap.mpr ⟨it, ?_, ?_⟩
    · rw [← rowT_snd, ← List.map_take]
      exact List.mem_map_of_mem (f := fun q : Bool × Item => q.2) this
    · rw [leavesOf_one hit, eit]
      exact List.mem_singleton.mpr rfl
end
end Gz
end

/-! ## MWords -/
section
set_option linter.all false
namespace Gz
open Sw SwSqueeze

/-! ### symbols by length -/
def lenP (ls : List Nat) : List (Nat × Nat) := (byLength ls).map fun s => (ls.getD s 0, s)
theorem mem_zip {ls : List Nat} {q : Nat × Nat} : q ∈ ls.zipIdx ↔ q.2 < ls.length ∧ ls.getD q.2 0 = q.1 := by
  rw [zipIdx_range]
  constructor
  · intro h
    obtain ⟨i, hi, rfl⟩ := List.mem_map.mp h
    exact ⟨List.mem_range.mp hi, rfl⟩
  · rintro ⟨h1, h2⟩
    exact List.mem_map.mpr ⟨q.2, List.mem_range.mpr h1, by rw [h2]⟩
theorem byLength_mem {ls : List Nat} {s : Nat} : s ∈ byLength ls ↔ s < ls.length ∧ 1 ≤ ls.getD s 0 ∧ ls.getD s 0 ≤ 15 := by
  unfold byLength
  rw [List.mem_flatMap]
  constructor
  · rintro ⟨k, hk, hs⟩
    obtain ⟨q, hq, rfl⟩ := List.mem_map.mp hs
    rw [List.mem_filter] at hq
    have h1 := mem_zip.mp hq.1
    have h2 : q.1 = k + 1 := by simpa using hq.2
    have h3 := List.mem_range.mp hk
    omega
  · rintro ⟨h1, h2, h3⟩
    refine ⟨ls.getD s 0 - 1, List.mem_range.mpr (by omega), List.mem_map.mpr ⟨(ls.getD s 0, s), List.mem_filter.mpr ⟨mem_zip.mpr ⟨h1, rfl⟩, ?_⟩, rfl⟩⟩
    simp only [beq_iff_eq]
    omega
theorem zip_sorted (ls : List Nat) : (ls.zipIdx).Pairwise fun a b => a.2 < b.2 := by
  rw [zipIdx_range, List.pairwise_map]
  exact List.pairwise_lt_range
theorem lenP_sorted (ls : List Nat) : (lenP ls).Pairwise fun a b => a.1 < b.1 ∨ (a.1 = b.1 ∧ a.2 < b.2) := by
  unfold lenP byLength
  rw [List.pairwise_map, List.pairwise_flatMap]
  refine ⟨fun k _ => ?_, ?_⟩
  · rw [List.pairwise_map]
    refine List.Pairwise.imp_of_mem ?_ (List.Pairwise.filter _ (zip_sorted ls))
    intro a b ha hb h
    rw [List.mem_filter] at ha hb
    have h1 := mem_zip.mp ha.1
    have h2 := mem_zip.mp hb.1
    have h3 : a.1 = k + 1 := by simpa using ha.2
    have h4 : b.1 = k + 1 := by simpa using hb.2
    right
    constructor
    · rw [h1.2, h2.2, h3, h4]
    · exact h
  · refine List.pairwise_lt_range.imp_of_mem ?_
    intro k j _ _ hkj x hx y hy
    obtain ⟨a, ha, rfl⟩ := List.mem_map.mp hx
    obtain ⟨b, hb, rfl⟩ := List.mem_map.mp hy
    rw [List.mem_filter] at ha hb
    have h1 := mem_zip.mp ha.1
    have h2 := mem_zip.mp hb.1
    have h3 : a.1 = k + 1 := by simpa using ha.2
    have h4 : b.1 = j + 1 := by simpa using hb.2
    left
    rw [h1.2, h2.2, h3, h4]
    omega
theorem lenP_le (ls : List Nat) : (lenP ls).Pairwise pLe := (lenP_sorted ls).imp fun {a b} h => by
  unfold pLe
  omega
theorem nodup_of_map {α β : Type} (f : α → β) : ∀ {l : List α}, (l.map f).Nodup → l.Nodup
  | [], _ => List.Pairwise.nil
  | a :: l, h => by
    rw [List.map_cons, List.nodup_cons] at h
    exact List.nodup_cons.mpr ⟨fun hm => h.1 (List.mem_map_of_mem hm), nodup_of_map f h.2⟩
theorem lenP_perm {ls : List Nat} (h : ∀ n ∈ ls, n ≤ 15) : (raw ls).Perm (lenP ls) := by
  refine (List.perm_ext_iff_of_nodup (nodup_of_map _ (raw_nodup ls)) ?_).mpr fun q => ?_
  · refine (lenP_sorted ls).imp fun {a b} h e => ?_
    subst e
    omega
  · rw [raw_mem]
    unfold lenP
    rw [List.mem_map]
    constructor
    · rintro ⟨h1, h2, h3⟩
      refine ⟨q.2, byLength_mem.mpr ⟨h1, by omega, ?_⟩, by rw [h2]⟩
      rw [List.getD_eq_getElem?_getD, List.getElem?_eq_getElem h1]
      exact h _ (List.getElem_mem h1)
    · rintro ⟨s, hs, rfl⟩
      have := byLength_mem.mp hs
      exact ⟨this.1, rfl, this.2.1⟩
/-- what the program's sorted gives -/
theorem lenP_uniq {ls : List Nat} (h : ∀ n ∈ ls, n ≤ 15) {ps : List (Nat × Nat)} (p : ps.Perm (raw ls)) (s : ps.Pairwise pLe) : ps = lenP ls :=
  sorted_uniq s (lenP_le ls) (p.trans (lenP_perm h))

/-! ### codewords -/
abbrev CW := List (Nat × Nat × Nat) × Nat × Nat
/-- one turn: the rows, the number, the length before (0: none) -/
def cwStep (x : CW) (q : Nat × Nat) : CW :=
  let c := if 0 < x.2.2 then (x.2.1 + 1) * 2 ^ (q.1 - x.2.2) else x.2.1
  (x.1 ++ [(q.2, q.1, c)], c, q.1)
def specStep (ls : List Nat) (x : List (Nat × Nat × Nat) × Option (Nat × Nat)) (s : Nat) : List (Nat × Nat × Nat) × Option (Nat × Nat) :=
  let n := ls.getD s 0
  let c := match x.2 with
    | none => 0
    | some q => (q.2 + 1) * 2 ^ (n - q.1)
  (x.1 ++ [(s, n, c)], some (n, c))
def Rel (x : CW) (y : List (Nat × Nat × Nat) × Option (Nat × Nat)) : Prop := x.1 = y.1 ∧ ((x.2.2 = 0 ∧ x.2.1 = 0 ∧ y.2 = none) ∨ (0 < x.2.2 ∧ y.2 = some (x.2.2, x.2.1)))
theorem rel_step {ls : List Nat} {x : CW} {y : List (Nat × Nat × Nat) × Option (Nat × Nat)} {s : Nat} (h : Rel x y) (hs : 0 < ls.getD s 0) : Rel (cwStep x (ls.getD s 0, s)) (specStep ls y s) := by
  obtain ⟨h1, h2⟩ := h
  unfold Rel cwStep specStep
  rcases h2 with ⟨a, b, c⟩ | ⟨a, c⟩
  · simp only [a, b, c, h1]
    simp only [Nat.lt_irrefl, if_false]
    exact ⟨trivial, .inr ⟨hs, trivial⟩⟩
  · simp only [c, h1, if_pos a]
    exact ⟨trivial, .inr ⟨hs, trivial⟩⟩
theorem rel_fold {ls : List Nat} : ∀ (l : List Nat) {x : CW} {y : List (Nat × Nat × Nat) × Option (Nat × Nat)}, Rel x y → (∀ s ∈ l, 0 < ls.getD s 0) → Rel ((l.map fun s => (ls.getD s 0, s)).foldl cwStep x) (l.foldl (specStep ls) y)
  | [], _, _, h, _ => h
  | s :: l, x, y, h, hp => by
    rw [List.map_cons, List.foldl_cons, List.foldl_cons]
    exact rel_fold l (rel_step h (hp s List.mem_cons_self)) fun t ht => hp t (List.mem_cons_of_mem _ ht)
def cwRun (ls : List Nat) : CW := (lenP ls).foldl cwStep ([], 0, 0)
theorem codewords_eq (ls : List Nat) : codewords ls = (cwRun ls).1 := by
  have h := rel_fold (ls := ls) (byLength ls) (x := ([], 0, 0)) (y := ([], none)) ⟨rfl, .inl ⟨rfl, rfl, rfl⟩⟩ fun s hs => (byLength_mem.mp hs).2.1
  exact h.1.symm

/-! ### their numbers -/
def kraft (l : List (Nat × Nat)) : Nat := (l.map fun q => 2 ^ (15 - q.1)).sum
theorem kraft_snoc (l : List (Nat × Nat)) (q : Nat × Nat) : kraft (l ++ [q]) = kraft l + 2 ^ (15 - q.1) := by
  unfold kraft
  rw [List.map_append, List.sum_append]
  simp
structure CwInv (done : List (Nat × Nat)) (x : CW) : Prop where
  at0 : done = [] → x = ([], 0, 0)
  len : ∀ q, done.getLast? = some q → x.2.2 = q.1 ∧ 1 ≤ q.1 ∧ q.1 ≤ 15 ∧ (x.2.1 + 1) * 2 ^ (15 - q.1) = kraft done
  all : x.1.map (fun t => (t.2.1, t.1)) = done
  num : ∀ i t, x.1[i]? = some t → t.2.2 * 2 ^ (15 - t.2.1) = kraft (done.take i)
theorem cw_inv : ∀ (l : List (Nat × Nat)), (∀ q ∈ l, 1 ≤ q.1 ∧ q.1 ≤ 15) → l.Pairwise (fun a b => a.1 ≤ b.1) → CwInv l (l.foldl cwStep ([], 0, 0)) := by
  intro l
  induction l using list_snoc_ind with
  | h0 => exact fun _ _ => ⟨fun _ => rfl, fun q h => by simp at h, rfl, fun i t h => by simp at h⟩
  | hs l q ih =>
    intro hb hp
    have hp' := List.pairwise_append.mp hp
    have ih := ih (fun a ha => hb a (List.mem_append_left _ ha)) hp'.1
    have hq := hb q (List.mem_append_right _ (List.mem_singleton.mpr rfl))
    rw [List.foldl_append]
    generalize hx : l.foldl cwStep ([], 0, 0) = x at ih
    show CwInv (l ++ [q]) (cwStep x q)
    have key : (cwStep x q).2.1 * 2 ^ (15 - q.1) = kraft l := by
      unfold cwStep
      simp only
      cases hl : l.getLast? with
      | none =>
        have h0 : l = [] := by simpa using hl
        rw [ih.at0 h0, h0]
        simp [kraft]
      | some r =>
        have h1 := ih.len r hl
        have hr : r ∈ l := List.mem_of_getLast? hl
        have hrq := hp'.2.2 r hr q (List.mem_singleton.mpr rfl)
        rw [if_pos (by omega), h1.1, ← h1.2.2.2, Nat.mul_assoc, ← Nat.pow_add]
        congr 2
        omega
    refine ⟨fun h => ?_, fun r hr => ?_, ?_, fun i t ht => ?_⟩
    · simp at h
    · rw [List.getLast?_append] at hr
      simp at hr
      subst hr
      refine ⟨rfl, hq.1, hq.2, ?_⟩
      rw [kraft_snoc, Nat.add_mul, key, Nat.one_mul]
    · unfold cwStep
      simp only [List.map_append, ih.all]
      rfl
    · have hlen : x.1.length = l.length := by rw [← ih.all, List.length_map]
      have e : (cwStep x q).1 = x.1 ++ [(q.2, q.1, (cwStep x q).2.1)] := rfl
      rw [e] at ht
      by_cases hi : i < x.1.length
      · rw [List.getElem?_append_left hi] at ht
        rw [List.take_append_of_le_length (by omega)]
        exact ih.num i t ht
      · rw [List.getElem?_append_right (by omega)] at ht
        have h0 : i - x.1.length = 0 := by
          refine Nat.eq_zero_of_not_pos fun h => ?_
          rw [List.getElem?_eq_none (by show 1 ≤ _; omega)] at ht
          cases ht
        have hil : i = l.length := by omega
        rw [h0] at ht
        have et := Option.some.inj ht
        subst et
        rw [hil, List.take_left']
        · exact key
        · rfl
theorem lenP_bounds {ls : List Nat} : ∀ q ∈ lenP ls, 1 ≤ q.1 ∧ q.1 ≤ 15 := by
  intro q hq
  obtain ⟨s, hs, rfl⟩ := List.mem_map.mp hq
  exact (byLength_mem.mp hs).2
theorem lenP_rise (ls : List Nat) : (lenP ls).Pairwise (fun a b => a.1 ≤ b.1) := (lenP_sorted ls).imp fun {a b} h => by omega
theorem cwRun_inv (ls : List Nat) : CwInv (lenP ls) (cwRun ls) := cw_inv (lenP ls) lenP_bounds (lenP_rise ls)
theorem cw_part_inv (ls : List Nat) (i : Nat) : CwInv ((lenP ls).take i) (((lenP ls).take i).foldl cwStep ([], 0, 0)) :=
  cw_inv _ (fun q hq => lenP_bounds q (List.mem_of_mem_take hq)) ((lenP_rise ls).sublist (List.take_sublist _ _))
theorem kraft_le : ∀ l : List (Nat × Nat), (∀ q ∈ l, 1 ≤ q.1) → kraft l ≤ l.length * 2 ^ 14
  | [], _ => Nat.le_refl _
  | q :: l, h => by
    have ih := kraft_le l fun a ha => h a (List.mem_cons_of_mem _ ha)
    have h1 : 2 ^ (15 - q.1) ≤ 2 ^ 14 := Nat.pow_le_pow_right (by decide) (by have := h q List.mem_cons_self; omega)
    have e : kraft (q :: l) = 2 ^ (15 - q.1) + kraft l := rfl
    rw [e, List.length_cons, Nat.succ_mul]
    omega
/-- the number on the way is small -/
theorem cw_small (ls : List Nat) (i : Nat) : (((lenP ls).take i).foldl cwStep ([], 0, 0)).2.1 ≤ ls.length * 2 ^ 14 := by
  have h := cw_part_inv ls i
  cases hl : ((lenP ls).take i).getLast? with
  | none =>
    have h0 : (lenP ls).take i = [] := by simpa using hl
    rw [h.at0 h0]
    exact Nat.zero_le _
  | some q =>
    have h1 := h.len q hl
    have h2 := kraft_le ((lenP ls).take i) fun a ha => (lenP_bounds a (List.mem_of_mem_take ha)).1
    have h3 : ((lenP ls).take i).length ≤ ls.length := by
      refine Nat.le_trans (List.length_take_le' _ _) ?_
      unfold lenP
      rw [List.length_map]
      have h4 : (byLength ls).Nodup := by
        have h5 : (lenP ls).Nodup := (lenP_sorted ls).imp fun {a b} h e => by subst e; omega
        unfold lenP at h5
        exact nodup_of_map _ h5
      have h6 : (byLength ls).Perm ((List.range ls.length).filter fun s => decide (s ∈ byLength ls)) := by
        refine (List.perm_ext_iff_of_nodup h4 (List.Pairwise.filter _ List.nodup_range)).mpr fun s => ?_
        rw [List.mem_filter, List.mem_range]
        constructor
        · exact fun hs => ⟨(byLength_mem.mp hs).1, decide_eq_true hs⟩
        · exact fun hs => of_decide_eq_true hs.2
      rw [h6.length_eq]
      have := List.length_filter_le (fun s => decide (s ∈ byLength ls)) (List.range ls.length)
      rw [List.length_range] at this
      exact this
    have h4 : 1 ≤ 2 ^ (15 - q.1) := Nat.one_le_two_pow
    have h5 : (((lenP ls).take i).length) * 2 ^ 14 ≤ ls.length * 2 ^ 14 := Nat.mul_le_mul_right _ h3
    have h6 : ((((lenP ls).take i).foldl cwStep ([], 0, 0)).2.1 + 1) * 1 ≤ ((((lenP ls).take i).foldl cwStep ([], 0, 0)).2.1 + 1) * 2 ^ (15 - q.1) := Nat.mul_le_mul_left _ h4
    omega

/-! ### a whole code -/
theorem kraft_perm {a b : List (Nat × Nat)} (h : a.Perm b) : kraft a = kraft b := (h.map _).sum_nat
theorem kraft_raw (ls : List Nat) : kraft (raw ls) = ((ls.filter fun (n : Nat) => n != 0).map fun (n : Nat) => 2 ^ (15 - n)).sum := by
  unfold kraft
  rw [← raw_zip]
  have h : ∀ (l : List Nat) (k : Nat), (((l.zipIdx k).filter fun (q : Nat × Nat) => q.1 != 0).map fun q => 2 ^ (15 - q.1)).sum = ((l.filter fun (n : Nat) => n != 0).map fun (n : Nat) => 2 ^ (15 - n)).sum := by
    intro l
    induction l with
    | nil => intro k; rfl
    | cons a l ih =>
      intro k
      rw [List.zipIdx_cons, List.filter_cons, List.filter_cons]
      by_cases h : (a != 0) = true
      · rw [if_pos h, if_pos h]
        simp only [List.map_cons, List.sum_cons, ih]
      · rw [if_neg h, if_neg h, ih]
  exact h ls 0
theorem raw_length (ls : List Nat) : (raw ls).length = (ls.filter fun (n : Nat) => n != 0).length := by
  rw [← raw_zip]
  have h : ∀ (l : List Nat) (k : Nat), ((l.zipIdx k).filter fun (q : Nat × Nat) => q.1 != 0).length = (l.filter fun (n : Nat) => n != 0).length := by
    intro l
    induction l with
    | nil => intro k; rfl
    | cons a l ih =>
      intro k
      rw [List.zipIdx_cons, List.filter_cons, List.filter_cons]
      by_cases h : (a != 0) = true
      · rw [if_pos h, if_pos h, List.length_cons, List.length_cons, ih]
      · rw [if_neg h, if_neg h, ih]
  exact h ls 0
theorem lenP_kraft {ls : List Nat} (hls : ∀ n ∈ ls, n ≤ 15) (h : wholeCode ls = true) : kraft (lenP ls) ≤ 2 ^ 15 := by
  rw [← kraft_perm (lenP_perm hls), kraft_raw]
  unfold wholeCode at h
  simp only at h
  split at h
  · rename_i h1
    match e : ls.filter fun (n : Nat) => n != 0 with
    | [] => simp
    | [a] =>
      rw [e] at h
      have : a = 1 := by simpa using h
      subst this
      decide
    | _ :: _ :: _ => rw [e] at h1; simp at h1
  · rw [eq_of_beq h]
    exact Nat.le_refl _
structure Word (ls : List Nat) (t : Nat × Nat × Nat) : Prop where
  lo : 1 ≤ t.2.1
  hi : t.2.1 ≤ 15
  num : t.2.2 < 2 ^ t.2.1
theorem codewords_word {ls : List Nat} (hls : ∀ n ∈ ls, n ≤ 15) (h : wholeCode ls = true) : ∀ t ∈ codewords ls, Word ls t := by
  intro t ht
  rw [codewords_eq] at ht
  have hi := cwRun_inv ls
  obtain ⟨i, hlt, rfl⟩ := List.mem_iff_getElem.mp ht
  have e := hi.num i _ (List.getElem?_eq_getElem hlt)
  have hm : ((cwRun ls).1[i].2.1, (cwRun ls).1[i].1) ∈ lenP ls := by
    have := List.mem_map_of_mem (f := fun t : Nat × Nat × Nat => (t.2.1, t.1)) (List.getElem_mem hlt)
    rw [hi.all] at this
    exact this
  have hb := lenP_bounds _ hm
  refine ⟨hb.1, hb.2, ?_⟩
  have hlen : (lenP ls).length = (cwRun ls).1.length := by rw [← hi.all, List.length_map]
  have hk : kraft ((lenP ls).take (i + 1)) ≤ kraft (lenP ls) := by
    have := congrArg kraft (List.take_append_drop (i + 1) (lenP ls))
    unfold kraft at this ⊢
    rw [List.map_append, List.sum_append] at this
    omega
  have hget : (lenP ls)[i]? = some ((cwRun ls).1[i].2.1, (cwRun ls).1[i].1) := by
    conv => lhs; rw [← hi.all]
    rw [List.getElem?_map, List.getElem?_eq_getElem hlt]
    rfl
  rw [take_more hget, kraft_snoc, ← e] at hk
  simp only at hk
  have h15 := lenP_kraft hls h
  have h1 : ((cwRun ls).1[i].2.2 + 1) * 2 ^ (15 - (cwRun ls).1[i].2.1) ≤ 2 ^ (cwRun ls).1[i].2.1 * 2 ^ (15 - (cwRun ls).1[i].2.1) := by
    rw [← Nat.pow_add, show (cwRun ls).1[i].2.1 + (15 - (cwRun ls).1[i].2.1) = 15 by omega, Nat.add_mul, Nat.one_mul]
    omega
  exact Nat.le_of_mul_le_mul_right h1 (Nat.two_pow_pos _)
theorem codewords_rise {ls : List Nat} : (codewords ls).Pairwise fun a b => a.2.1 ≤ b.2.1 ∧ a.1 ≠ b.1 ∧ (a.2.1 = b.2.1 → a.2.2 < b.2.2) := by
  rw [codewords_eq]
  have hi := cwRun_inv ls
  refine List.pairwise_iff_getElem.mpr fun i j hi1 hj1 hij => ?_
  have e1 := hi.num i _ (List.getElem?_eq_getElem hi1)
  have e2 := hi.num j _ (List.getElem?_eq_getElem hj1)
  have g : ∀ k (hk : k < (cwRun ls).1.length), (lenP ls)[k]? = some ((cwRun ls).1[k].2.1, (cwRun ls).1[k].1) := by
    intro k hk
    conv => lhs; rw [← hi.all]
    rw [List.getElem?_map, List.getElem?_eq_getElem hk]
    rfl
  have hl : (lenP ls).length = (cwRun ls).1.length := by rw [← hi.all, List.length_map]
  have gi : (lenP ls)[i]'(by omega) = ((cwRun ls).1[i].2.1, (cwRun ls).1[i].1) := by
    have := g i hi1
    rw [List.getElem?_eq_getElem (by omega)] at this
    exact Option.some.inj this
  have gj : (lenP ls)[j]'(by omega) = ((cwRun ls).1[j].2.1, (cwRun ls).1[j].1) := by
    have := g j hj1
    rw [List.getElem?_eq_getElem (by omega)] at this
    exact Option.some.inj this
  have hs := List.pairwise_iff_getElem.mp (lenP_sorted ls) i j (by omega) (by omega) hij
  have hnd : (byLength ls).Nodup := by
    have h5 : (lenP ls).Nodup := (lenP_sorted ls).imp fun {a b} h e => by subst e; omega
    unfold lenP at h5
    exact nodup_of_map _ h5
  have hsym : (lenP ls).map (·.2) = byLength ls := by
    unfold lenP
    rw [List.map_map]
    exact List.map_id _
  have hne : (cwRun ls).1[i].1 ≠ (cwRun ls).1[j].1 := by
    have h6 : ((lenP ls).map (·.2)).Nodup := by rw [hsym]; exact hnd
    have h7 := List.pairwise_iff_getElem.mp h6 i j (by rw [List.length_map]; omega) (by rw [List.length_map]; omega) hij
    rw [List.getElem_map, List.getElem_map, gi, gj] at h7
    exact h7
  rw [gi, gj] at hs
  simp only at hs
  refine ⟨by omega, hne, fun e => ?_⟩
  -- the sums rise
  have hk : kraft ((lenP ls).take i) + 2 ^ (15 - (cwRun ls).1[i].2.1) ≤ kraft ((lenP ls).take j) := by
    have h1 : (lenP ls).take j = (lenP ls).take (i + 1) ++ ((lenP ls).take j).drop (i + 1) := by
      have := (List.take_append_drop (i + 1) ((lenP ls).take j)).symm
      rw [List.take_take, Nat.min_eq_left (by omega)] at this
      exact this
    rw [h1, take_more (g i hi1)]
    unfold kraft
    rw [List.map_append, List.sum_append, List.map_append, List.sum_append]
    simp
  have hp : 0 < 2 ^ (15 - (cwRun ls).1[i].2.1) := Nat.two_pow_pos _
  refine Nat.lt_of_not_le fun h => ?_
  have h2 : (cwRun ls).1[j].2.2 * 2 ^ (15 - (cwRun ls).1[j].2.1) ≤ (cwRun ls).1[i].2.2 * 2 ^ (15 - (cwRun ls).1[i].2.1) := by
    rw [e]
    exact Nat.mul_le_mul_right _ h
  omega
/-- the symbols of the words -/
theorem codewords_syms (ls : List Nat) : (codewords ls).map (·.1) = byLength ls := by
  have hi := cwRun_inv ls
  rw [codewords_eq]
  have : (cwRun ls).1.map (·.1) = (lenP ls).map (·.2) := by
    conv => rhs; rw [← hi.all]
    rw [List.map_map]
    rfl
  rw [this]
  unfold lenP
  rw [List.map_map]
  exact List.map_id _
end Gz
end

/-! ## MParse -/
section
set_option linter.all false
namespace Gz
open Sw SwSqueeze

/-! ### matches -/
/-- the L bytes from i on are those that stand d before, each -/
def Mat (t : Bytes) (i d L : Nat) : Prop := i + L ≤ t.length ∧ ∀ k, k < L → t[i + k]? = t[i + k - d]?
theorem Mat.less {t : Bytes} {i d L M : Nat} (h : Mat t i d L) (hm : M ≤ L) : Mat t i d M := ⟨by have := h.1; omega, fun k hk => h.2 k (by omega)⟩
theorem reach_spec (a : Array UInt8) (i d : Nat) : ∀ (f k : Nat), k ≤ reach a i d f k ∧ reach a i d f k ≤ k + f ∧ (∀ m, k ≤ m → m < reach a i d f k → i + m < a.size ∧ a.getD (i + m) 0 = a.getD (i + m - d) 0) ∧
    (reach a i d f k = k + f ∨ ¬ (i + reach a i d f k < a.size ∧ a.getD (i + reach a i d f k) 0 = a.getD (i + reach a i d f k - d) 0))
  | 0, k => ⟨Nat.le_refl _, Nat.le_refl _, fun m h1 h2 => absurd h2 (Nat.not_lt.mpr h1), .inl rfl⟩
  | f + 1, k => by
    have e : reach a i d (f + 1) k = if i + k < a.size ∧ a.getD (i + k) 0 = a.getD (i + k - d) 0 then reach a i d f (k + 1) else k := rfl
    rw [e]
    by_cases h : i + k < a.size ∧ a.getD (i + k) 0 = a.getD (i + k - d) 0
    · rw [if_pos h]
      obtain ⟨h1, h2, h3, h4⟩ := reach_spec a i d f (k + 1)
      refine ⟨by omega, by omega, fun m hm hm2 => ?_, ?_⟩
      · by_cases e : m = k
        · rw [e]; exact h
        · exact h3 m (by omega) hm2
      · rcases h4 with h4 | h4
        · exact .inl (by omega)
        · exact .inr h4
    · rw [if_neg h]
      exact ⟨Nat.le_refl _, by omega, fun m h1 h2 => absurd h2 (Nat.not_lt.mpr h1), .inr h⟩
theorem getD_arr (t : Bytes) (p : Nat) : t.toArray.getD p 0 = t[p]?.getD 0 := by
  simp
theorem reach_ge {t : Bytes} {i d L : Nat} (hi : i < t.length) (hd : d ≤ i) : L ≤ reach t.toArray i d LONG 0 ↔ L ≤ 258 ∧ Mat t i d L := by
  obtain ⟨h1, h2, h3, h4⟩ := reach_spec t.toArray i d LONG 0
  have hL : LONG = 258 := rfl
  have hs : t.toArray.size = t.length := by simp
  have cond : ∀ m, (i + m < t.toArray.size ∧ t.toArray.getD (i + m) 0 = t.toArray.getD (i + m - d) 0) ↔ (i + m < t.length ∧ t[i + m]? = t[i + m - d]?) := by
    intro m
    rw [hs, getD_arr, getD_arr]
    constructor
    · rintro ⟨a, b⟩
      refine ⟨a, ?_⟩
      rw [List.getElem?_eq_getElem a, List.getElem?_eq_getElem (by omega : i + m - d < t.length)] at b ⊢
      exact congrArg some b
    · rintro ⟨a, b⟩
      exact ⟨a, by rw [b]⟩
  constructor
  · intro h
    refine ⟨by omega, ?_, fun k hk => ((cond k).mp (h3 k (Nat.zero_le _) (by omega))).2⟩
    by_cases h0 : L = 0
    · omega
    · have := ((cond (L - 1)).mp (h3 (L - 1) (Nat.zero_le _) (by omega))).1
      omega
  · rintro ⟨a, b⟩
    refine Nat.le_of_not_lt fun hlt => ?_
    rcases h4 with h4 | h4
    · omega
    · refine h4 ((cond _).mpr ⟨by have := b.1; omega, b.2 _ hlt⟩)

/-! ### the least distance of a match of length L -/
def dst (t : Bytes) (i L : Nat) : Option Nat := ((List.range i).find? fun j => decide (L ≤ reach t.toArray i (j + 1) LONG 0)).map (· + 1)
/-- d: the least distance; 0: there's no match -/
def Near (t : Bytes) (i L d : Nat) : Prop := (d = 0 ∧ ∀ e, 1 ≤ e → e ≤ i → ¬ Mat t i e L) ∨ (1 ≤ d ∧ d ≤ i ∧ Mat t i d L ∧ ∀ e, 1 ≤ e → e < d → ¬ Mat t i e L)
theorem Near.uniq {t : Bytes} {i L d d' : Nat} (h : Near t i L d) (h' : Near t i L d') : d = d' := by
  rcases h with ⟨a, b⟩ | ⟨a, b, c, e⟩
  · rcases h' with ⟨a', b'⟩ | ⟨a', b', c', e'⟩
    · omega
    · exact absurd c' (b d' a' b')
  · rcases h' with ⟨a', b'⟩ | ⟨a', b', c', e'⟩
    · exact absurd c (b' d a b)
    · rcases Nat.lt_trichotomy d d' with h | h | h
      · exact absurd c (e' d a h)
      · exact h
      · exact absurd c' (e d' a' h)
def D (t : Bytes) (i L : Nat) : Nat := (dst t i L).getD 0
theorem find_range {p : Nat → Bool} : ∀ {n j : Nat}, (List.range n).find? p = some j → j < n ∧ p j = true ∧ ∀ k, k < j → p k = false := by
  intro n j h
  rw [List.find?_range_eq_some] at h
  obtain ⟨h1, h2, h3⟩ := h
  refine ⟨List.mem_range.mp h2, h1, fun k hk => ?_⟩
  have := h3 k hk
  simpa using this
theorem D_near {t : Bytes} {i L : Nat} (hi : i < t.length) (hL : L ≤ 258) : Near t i L (D t i L) := by
  unfold D dst
  cases h : (List.range i).find? fun j => decide (L ≤ reach t.toArray i (j + 1) LONG 0) with
  | none =>
    refine .inl ⟨rfl, fun e h1 h2 hm => ?_⟩
    rw [List.find?_eq_none] at h
    have := h (e - 1) (List.mem_range.mpr (by omega))
    rw [show e - 1 + 1 = e by omega] at this
    exact this (decide_eq_true ((reach_ge hi h2).mpr ⟨hL, hm⟩))
  | some j =>
    obtain ⟨h1, h2, h3⟩ := find_range h
    refine .inr ⟨by show 1 ≤ j + 1; omega, by show j + 1 ≤ i; omega, ((reach_ge hi (by show j + 1 ≤ i; omega)).mp (of_decide_eq_true h2)).2, fun e he1 he2 hm => ?_⟩
    have he2' : e < j + 1 := he2
    have := h3 (e - 1) (by omega)
    rw [show e - 1 + 1 = e by omega] at this
    exact absurd ((reach_ge hi (by omega)).mpr ⟨hL, hm⟩) (of_decide_eq_false this)
theorem near_eq {t : Bytes} {i L d : Nat} (hi : i < t.length) (hL : L ≤ 258) (h : Near t i L d) : d = D t i L := h.uniq (D_near hi hL)
theorem D_big {t : Bytes} {i L : Nat} (hi : i < t.length) (hL : 258 < L) : D t i L = 0 := by
  unfold D dst
  have : (List.range i).find? (fun j => decide (L ≤ reach t.toArray i (j + 1) LONG 0)) = none := by
    rw [List.find?_eq_none]
    intro j hj
    have := (reach_spec t.toArray i (j + 1) LONG 0).2.1
    have hL : LONG = 258 := rfl
    simp only [decide_eq_true_eq]
    omega
  rw [this]
  rfl

/-! ### the candidates of a place: lengths and distances -/
def mostAt (t : Bytes) (i : Nat) : Nat := ((List.range i).map fun j => (j + 1, reach t.toArray i (j + 1) LONG 0)).foldl (fun (m : Nat) (q : Nat × Nat) => max m q.2) 0
theorem foldl_max (l : List (Nat × Nat)) : ∀ (m L : Nat), L ≤ l.foldl (fun (m : Nat) (q : Nat × Nat) => max m q.2) m ↔ L ≤ m ∨ ∃ q ∈ l, L ≤ q.2 := by
  induction l with
  | nil => intro m L; simp
  | cons a l ih =>
    intro m L
    rw [List.foldl_cons, ih]
    constructor
    · rintro (h | ⟨q, hq, h⟩)
      · rcases Nat.le_total m a.2 with h2 | h2
        · rw [Nat.max_eq_right h2] at h
          exact .inr ⟨a, List.mem_cons_self, h⟩
        · rw [Nat.max_eq_left h2] at h
          exact .inl h
      · exact .inr ⟨q, List.mem_cons_of_mem _ hq, h⟩
    · rintro (h | ⟨q, hq, h⟩)
      · exact .inl (Nat.le_trans h (Nat.le_max_left _ _))
      · rcases List.mem_cons.mp hq with rfl | hq
        · exact .inl (Nat.le_trans h (Nat.le_max_right _ _))
        · exact .inr ⟨q, hq, h⟩
theorem most_iff {t : Bytes} {i L : Nat} (h1 : 1 ≤ L) : L ≤ mostAt t i ↔ D t i L ≠ 0 := by
  unfold mostAt D dst
  rw [foldl_max]
  cases h : (List.range i).find? fun j => decide (L ≤ reach t.toArray i (j + 1) LONG 0) with
  | none =>
    rw [List.find?_eq_none] at h
    constructor
    · rintro (h2 | ⟨q, hq, h2⟩)
      · omega
      · obtain ⟨j, hj, rfl⟩ := List.mem_map.mp hq
        exact absurd (decide_eq_true h2) (h j hj)
    · intro h2
      exact absurd rfl h2
  | some j =>
    obtain ⟨h2, h3, _⟩ := find_range h
    constructor
    · intro _ h
      exact absurd h (Nat.succ_ne_zero j)
    · intro _
      exact .inr ⟨_, List.mem_map.mpr ⟨j, List.mem_range.mpr h2, rfl⟩, of_decide_eq_true h3⟩
/-- the lengths from 3 on and their distances, n of them -/
def candsTo (t : Bytes) (i n : Nat) : List (Nat × Nat) := (List.range n).map fun k => (k + 3, D t i (k + 3))
def cands (t : Bytes) (i : Nat) : List (Nat × Nat) := candsTo t i (mostAt t i - 2)
theorem filterMap_some {α β : Type} {f : α → Option β} {g : α → β} : ∀ {l : List α}, (∀ x ∈ l, f x = some (g x)) → l.filterMap f = l.map g
  | [], _ => rfl
  | a :: l, h => by
    rw [List.filterMap_cons, h a List.mem_cons_self, List.map_cons, filterMap_some fun x hx => h x (List.mem_cons_of_mem _ hx)]
theorem bestAt_eq (t : Bytes) (i : Nat) : bestAt t.toArray i = .letter (t[i]?.getD 0) :: (cands t i).map fun q => Step.match_ q.1 q.2 := by
  have e : bestAt t.toArray i = .letter (t.toArray.getD i 0) :: (List.range (mostAt t i - 2)).filterMap fun (k : Nat) =>
      (((List.range i).map fun j => (j + 1, reach t.toArray i (j + 1) LONG 0)).find? fun (q : Nat × Nat) => decide (k + 3 ≤ q.2)).map fun (q : Nat × Nat) => Step.match_ (k + 3) q.1 := rfl
  rw [e, getD_arr]
  congr 1
  unfold cands candsTo
  rw [List.map_map]
  refine filterMap_some fun k hk => ?_
  rw [List.find?_map]
  have hm : k + 3 ≤ mostAt t i := by have := List.mem_range.mp hk; omega
  have hd := (most_iff (by omega)).mp hm
  unfold D at hd
  simp only [Function.comp]
  unfold D
  unfold dst at hd ⊢
  cases h : (List.range i).find? fun j => decide (k + 3 ≤ reach t.toArray i (j + 1) LONG 0) with
  | none => rw [h] at hd; exact absurd rfl hd
  | some j =>
    have h' : (List.range i).find? ((fun (q : Nat × Nat) => decide (k + 3 ≤ q.2)) ∘ fun j => (j + 1, reach t.toArray i (j + 1) LONG 0)) = some j := h
    rw [h']
    rfl

/-! ### rows: (reach, distance) -/
def flat : Nat → List (Nat × Nat) → List (Nat × Nat)
  | _, [] => []
  | prev, q :: l => ((List.range (q.1 - prev)).map fun k => (prev + 1 + k, q.2)) ++ flat q.1 l
def Chain : Nat → List (Nat × Nat) → Prop
  | _, [] => True
  | prev, q :: l => prev < q.1 ∧ Chain q.1 l
def lastOf : Nat → List (Nat × Nat) → Nat
  | prev, [] => prev
  | _, q :: l => lastOf q.1 l
theorem flat_snoc : ∀ (l : List (Nat × Nat)) (prev : Nat) (q : Nat × Nat), flat prev (l ++ [q]) = flat prev l ++ (List.range (q.1 - lastOf prev l)).map fun k => (lastOf prev l + 1 + k, q.2)
  | [], prev, q => by
    show (List.range (q.1 - prev)).map _ ++ [] = [] ++ _
    rw [List.append_nil, List.nil_append]
    rfl
  | a :: l, prev, q => by
    show (List.range (a.1 - prev)).map _ ++ flat a.1 (l ++ [q]) = ((List.range (a.1 - prev)).map _ ++ flat a.1 l) ++ _
    rw [flat_snoc l a.1 q, List.append_assoc]
    rfl
theorem chain_snoc : ∀ (l : List (Nat × Nat)) (prev : Nat) (q : Nat × Nat), Chain prev l → lastOf prev l < q.1 → Chain prev (l ++ [q])
  | [], _, _, _, h => ⟨h, trivial⟩
  | a :: l, _, q, h, h2 => ⟨h.1, chain_snoc l a.1 q h.2 h2⟩
theorem lastOf_snoc : ∀ (l : List (Nat × Nat)) (prev : Nat) (q : Nat × Nat), lastOf prev (l ++ [q]) = q.1
  | [], _, _ => rfl
  | a :: l, _, q => lastOf_snoc l a.1 q
theorem range_add_map {α : Type} (a b : Nat) (f : Nat → α) : (List.range (a + b)).map f = (List.range a).map f ++ (List.range b).map fun k => f (a + k) := by
  rw [List.range_add, List.map_append, List.map_map]
  rfl
/-- what the offers' loop keeps: the rows, the reach -/
structure Off (t : Bytes) (i most : Nat) (rows : List (Nat × Nat)) (reach : Nat) : Prop where
  flat : flat 2 rows = candsTo t i (reach - 2)
  chain : Chain 2 rows
  last : lastOf 2 rows = reach
  lo : 2 ≤ reach
  hi : rows ≠ [] → reach ≤ most
  dist : ∀ q ∈ rows, 1 ≤ q.2 ∧ q.2 ≤ i ∧ q.1 ≤ most
theorem off_start (t : Bytes) (i most : Nat) : Off t i most [] 2 := ⟨rfl, trivial, rfl, Nat.le_refl _, fun h => absurd rfl h, fun q h => by cases h⟩
/-- how far the bytes are alike -/
structure Strc (t : Bytes) (i d S : Nat) : Prop where
  hi : i + S ≤ t.length
  same : ∀ k, k < S → t[i + k]? = t[i + k - d]?
  stop : i + S = t.length ∨ t[i + S]? ≠ t[i + S - d]?
theorem Strc.ge {t : Bytes} {i d S L : Nat} (h : Strc t i d S) (hm : Mat t i d L) : L ≤ S := by
  refine Nat.le_of_not_lt fun hlt => ?_
  rcases h.stop with h1 | h1
  · have := hm.1; omega
  · exact h1 (hm.2 S hlt)
theorem Strc.mat {t : Bytes} {i d S L : Nat} (h : Strc t i d S) (hl : L ≤ S) : Mat t i d L := ⟨by have := h.hi; omega, fun k hk => h.same k (by omega)⟩
theorem off_turn {t : Bytes} {i most : Nat} {rows : List (Nat × Nat)} {r d S : Nat} (hi : i < t.length) (hmost : most = min 258 (t.length - i)) (h : Off t i most rows r) (hr : r < most) (hn : Near t i (r + 1) d) (hd : d ≠ 0) (hs : Strc t i d S) :
    Off t i most (rows ++ [(min S most, d)]) (min S most) ∧ r < min S most := by
  rcases hn with ⟨a, _⟩ | ⟨d1, d2, hm, hmin⟩
  · exact absurd a hd
  have hS := hs.ge hm
  have hlt : r < min S most := by omega
  refine ⟨⟨?_, chain_snoc _ _ _ h.chain (by rw [h.last]; exact hlt), lastOf_snoc _ _ _, by have := h.lo; omega, fun _ => Nat.min_le_right _ _, fun q hq => ?_⟩, hlt⟩
  · rw [flat_snoc, h.flat, h.last]
    unfold candsTo
    have hlo := h.lo
    rw [show min S most - 2 = (r - 2) + (min S most - r) by omega, range_add_map]
    congr 1
    apply List.map_congr_left
    intro k hk
    have hk' := List.mem_range.mp hk
    have e1 : r - 2 + k + 3 = r + 1 + k := by omega
    rw [e1]
    have hnear : Near t i (r + 1 + k) d := .inr ⟨d1, d2, hs.mat (by omega), fun e he1 he2 hme => hmin e he1 he2 (hme.less (by omega))⟩
    rw [← near_eq hi (by omega) hnear]
  · rcases List.mem_append.mp hq with hq | hq
    · exact h.dist q hq
    · rw [List.mem_singleton] at hq
      subst hq
      exact ⟨d1, d2, Nat.min_le_right _ _⟩
theorem off_end {t : Bytes} {i most : Nat} {rows : List (Nat × Nat)} {r : Nat} (hi : i < t.length) (hmost : most = min 258 (t.length - i)) (h : Off t i most rows r) (hd : most ≤ r ∨ (r < most ∧ Near t i (r + 1) 0)) : flat 2 rows = cands t i := by
  rw [h.flat]
  unfold cands
  have h0 : D t i (r + 1) = 0 := by
    rcases hd with hd | ⟨hlt, hd⟩
    · by_cases hb : 258 < r + 1
      · exact D_big hi hb
      · refine (near_eq hi (by omega) (.inl ⟨rfl, fun e _ _ hm => ?_⟩)).symm
        have := hm.1
        omega
    · exact (near_eq hi (by omega) hd).symm
  have hm : mostAt t i < r + 1 := Nat.lt_of_not_le fun hle => (most_iff (by omega)).mp hle h0
  by_cases h2 : r = 2
  · congr 1
    omega
  · have hge : r ≤ mostAt t i := by
      refine (most_iff (by have := h.lo; omega)).mpr fun hz => ?_
      have hne : rows ≠ [] := by
        intro e
        have := h.last
        rw [e] at this
        exact h2 this.symm
      have hfl := h.flat
      -- the last candidate has a distance of a row
      have hmem : (r, D t i r) ∈ flat 2 rows := by
        rw [hfl]
        unfold candsTo
        have := h.lo
        refine List.mem_map.mpr ⟨r - 3, List.mem_range.mpr (by omega), ?_⟩
        rw [show r - 3 + 3 = r by omega]
      have hrow : ∀ (l : List (Nat × Nat)) (prev : Nat) (x : Nat × Nat), x ∈ flat prev l → ∃ q ∈ l, x.2 = q.2 := by
        intro l
        induction l with
        | nil => intro prev x hx; cases hx
        | cons a l ih =>
          intro prev x hx
          rcases List.mem_append.mp (show x ∈ (List.range (a.1 - prev)).map _ ++ flat a.1 l from hx) with hx | hx
          · obtain ⟨k, _, rfl⟩ := List.mem_map.mp hx
            exact ⟨a, List.mem_cons_self, rfl⟩
          · obtain ⟨q, hq, e⟩ := ih _ _ hx
            exact ⟨q, List.mem_cons_of_mem _ hq, e⟩
      obtain ⟨q, hq, e⟩ := hrow _ _ _ hmem
      have := (h.dist q hq).1
      simp only at e
      omega
    congr 1
    omega

/-! ### what's known of the ends -/
structure EndsOk (t : Bytes) (at_ : Nat) (ends : List Nat) : Prop where
  len : ends.length = t.length + 1
  ok : ∀ (d e : Nat), ends[d]? = some e → e ≤ t.length ∧ ∀ p, at_ ≤ p → p < e → t[p]? = t[p - d]?
theorem ends_start (t : Bytes) : EndsOk t 0 (List.replicate (t.length + 1) 0) := ⟨by simp, fun d e h => by
  rw [List.getElem?_replicate] at h
  split at h
  · cases h
    exact ⟨Nat.zero_le _, fun p _ hp => absurd hp (Nat.not_lt_zero _)⟩
  · cases h⟩
theorem EndsOk.mono {t : Bytes} {a b : Nat} {ends : List Nat} (h : EndsOk t a ends) (hab : a ≤ b) : EndsOk t b ends := ⟨h.len, fun d e he => ⟨(h.ok d e he).1, fun p h1 h2 => (h.ok d e he).2 p (by omega) h2⟩⟩
/-- the end's loop: all from at to end are alike -/
def Alike (t : Bytes) (i d e : Nat) : Prop := i ≤ e ∧ e ≤ t.length ∧ ∀ p, i ≤ p → p < e → t[p]? = t[p - d]?
theorem alike_start {t : Bytes} {i d e : Nat} {ends : List Nat} (h : EndsOk t i ends) (he : ends[d]? = some e) (hi : i ≤ t.length) : Alike t i d (max e i) := by
  have h1 := h.ok d e he
  refine ⟨Nat.le_max_right _ _, Nat.max_le.mpr ⟨h1.1, hi⟩, fun p hp hp2 => h1.2 p hp ?_⟩
  omega
theorem Alike.more {t : Bytes} {i d e : Nat} (h : Alike t i d e) (he : e < t.length) (h2 : t[e]? = t[e - d]?) : Alike t i d (e + 1) := ⟨by have := h.1; omega, by omega, fun p hp hp2 => by
  by_cases e1 : p = e
  · rw [e1]; exact h2
  · exact h.2.2 p hp (by omega)⟩
theorem Alike.str {t : Bytes} {i d e : Nat} (h : Alike t i d e) (h2 : e = t.length ∨ t[e]? ≠ t[e - d]?) : Strc t i d (e - i) := by
  have h1 := h.1
  refine ⟨by have := h.2.1; omega, fun k hk => h.2.2 (i + k) (by omega) (by omega), ?_⟩
  rw [show i + (e - i) = e by omega]
  exact h2
theorem Alike.ends {t : Bytes} {i d e : Nat} {ends : List Nat} (h : Alike t i d e) (he : EndsOk t i ends) (hd : d < ends.length) : EndsOk t i (ends.set d e) := ⟨by rw [List.length_set]; exact he.len, fun d' e' h' => by
  by_cases hdd : d = d'
  · subst hdd
    rw [List.getElem?_set_self hd] at h'
    cases h'
    exact h.2
  · rw [List.getElem?_set_ne hdd] at h'
    exact he.ok d' e' h'⟩
end Gz
end

/-! ## MParse2 -/
section
set_option linter.all false
namespace Gz
open Sw SwSqueeze

/-! ### the table of the specification, by place -/
def zStep (i : Nat) (after : Step → Nat) (x : Option (Nat × Step)) (s : Step) : Option (Nat × Step) :=
  let c := s.cost + after s
  match x with
  | some y => if c < y.1 then some (c, s) else x
  | none => some (c, s)
theorem table_size (a : Array UInt8) : ∀ n, (table a n).size = n
  | 0 => rfl
  | n + 1 => by
    have e : (table a (n + 1)).size = (table a n).size + 1 := Array.size_push _
    rw [e, table_size a n]
theorem table_keep (a : Array UInt8) (k : Nat) : ∀ n, k < n → (table a (n + 1)).getD k (0, .letter 0) = (table a n).getD k (0, .letter 0) := by
  intro n h
  have e : ∃ z, table a (n + 1) = (table a n).push z := ⟨_, rfl⟩
  obtain ⟨z, e⟩ := e
  rw [e]
  have := table_size a n
  simp only [Array.getD_eq_getD_getElem?]
  rw [Array.getElem?_push]
  rw [if_neg (by omega)]
theorem table_same (a : Array UInt8) (k : Nat) : ∀ m n, k < n → n ≤ m → (table a m).getD k (0, .letter 0) = (table a n).getD k (0, .letter 0) := by
  intro m
  induction m with
  | zero => intro n h h2; omega
  | succ m ih =>
    intro n h h2
    by_cases e : n = m + 1
    · rw [e]
    · rw [table_keep a k m (by omega)]
      exact ih n h (by omega)
/-- the entry of a place -/
def ent (t : Bytes) (p : Nat) : Nat × Step := (table t.toArray t.length).getD (t.length - p - 1) (0, .letter 0)
def cst (t : Bytes) (p : Nat) : Nat := if p < t.length then (ent t p).1 else 0
def bestZ (c : Step → Nat) (l : Step) (ms : List Step) : Nat × Step := ms.foldl (fun y s => if c s < y.1 then (c s, s) else y) (c l, l)
theorem zfold (i : Nat) (after : Step → Nat) : ∀ (ms : List Step) (y : Nat × Step), ms.foldl (zStep i after) (some y) = some (ms.foldl (fun y s => if s.cost + after s < y.1 then (s.cost + after s, s) else y) y)
  | [], _ => rfl
  | s :: ms, y => by
    rw [List.foldl_cons, List.foldl_cons]
    have e : zStep i after (some y) s = some (if s.cost + after s < y.1 then (s.cost + after s, s) else y) := by
      show (if s.cost + after s < y.1 then some (s.cost + after s, s) else some y) = _
      split <;> rfl
    rw [e, zfold i after ms]
def costTo (t : Bytes) (i : Nat) (s : Step) : Nat := s.cost + cst t (i + s.length)
theorem ent_eq (t : Bytes) (i : Nat) (hi : i < t.length) : ent t i = bestZ (costTo t i) (.letter (t[i]?.getD 0)) ((cands t i).map fun q => Step.match_ q.1 q.2) := by
  unfold ent
  obtain ⟨n, hn⟩ : ∃ n, t.length - i = n + 1 := ⟨t.length - i - 1, by omega⟩
  have hk : t.length - i - 1 = n := by omega
  rw [hk, table_same t.toArray n t.length (n + 1) (by omega) (by omega)]
  have hs : t.toArray.size = t.length := by simp
  have hidx : t.toArray.size - (n + 1) = i := by omega
  have e : ∃ z, table t.toArray (n + 1) = (table t.toArray n).push (z.getD (0, .letter 0)) ∧ z = (bestAt t.toArray i).foldl (zStep i fun (s : Step) => if s.length ≥ n + 1 then 0 else ((table t.toArray n).getD (n - s.length) (0, .letter 0)).1) none := by
    refine ⟨_, ?_, rfl⟩
    rw [← hidx]
    rfl
  obtain ⟨z, e1, e2⟩ := e
  rw [e1]
  have hz := table_size t.toArray n
  simp only [Array.getD_eq_getD_getElem?]
  rw [Array.getElem?_push, if_pos hz.symm]
  show z.getD _ = _
  rw [e2, bestAt_eq, List.foldl_cons]
  have e3 : zStep i (fun (s : Step) => if s.length ≥ n + 1 then 0 else ((table t.toArray n).getD (n - s.length) (0, .letter 0)).1) none (.letter (t[i]?.getD 0)) =
      some ((Step.letter (t[i]?.getD 0)).cost + (if (Step.letter (t[i]?.getD 0)).length ≥ n + 1 then 0 else ((table t.toArray n).getD (n - (Step.letter (t[i]?.getD 0)).length) (0, .letter 0)).1), .letter (t[i]?.getD 0)) := rfl
  rw [e3, zfold]
  have after_eq : ∀ s : Step, 1 ≤ s.length → (if s.length ≥ n + 1 then 0 else ((table t.toArray n).getD (n - s.length) (0, .letter 0)).1) = cst t (i + s.length) := by
    intro s hs1
    unfold cst
    by_cases h : s.length ≥ n + 1
    · rw [if_pos h, if_neg (by omega)]
    · rw [if_neg h, if_pos (by omega)]
      unfold ent
      rw [show t.length - (i + s.length) - 1 = n - s.length by omega, table_same t.toArray (n - s.length) t.length n (by omega) (by omega)]
  show _ = bestZ _ _ _
  unfold bestZ costTo
  rw [after_eq (.letter (t[i]?.getD 0)) (Nat.le_refl _)]
  have : ∀ (ms : List Step), (∀ s ∈ ms, 1 ≤ s.length) → ∀ y : Nat × Step,
      ms.foldl (fun y s => if s.cost + (if s.length ≥ n + 1 then 0 else ((table t.toArray n).getD (n - s.length) (0, .letter 0)).1) < y.1 then (s.cost + (if s.length ≥ n + 1 then 0 else ((table t.toArray n).getD (n - s.length) (0, .letter 0)).1), s) else y) y =
      ms.foldl (fun y s => if s.cost + cst t (i + s.length) < y.1 then (s.cost + cst t (i + s.length), s) else y) y := by
    intro ms
    induction ms with
    | nil => intro _ _; rfl
    | cons s ms ih =>
      intro h y
      rw [List.foldl_cons, List.foldl_cons, after_eq s (h s List.mem_cons_self)]
      exact ih (fun x hx => h x (List.mem_cons_of_mem _ hx)) _
  rw [this]
  · rfl
  · intro s hs
    obtain ⟨q, hq, rfl⟩ := List.mem_map.mp hs
    unfold cands candsTo at hq
    obtain ⟨k, _, rfl⟩ := List.mem_map.mp hq
    show 1 ≤ k + 3
    omega

/-! ### keys -/
def SCALE : Nat := 2048
def keyOf (t : Bytes) (p : Nat) : Nat := cst t p * 2048 + p
/-- a candidate's key by the keys of the places behind -/
def candKey (t : Bytes) (i : Nat) (q : Nat × Nat) : Nat := keyOf t (i + q.1) + (12 + (further (q.1 - 3) + further (q.2 - 1))) * 2048
def kStep (t : Bytes) (i : Nat) (x : Nat × Nat) (q : Nat × Nat) : Nat × Nat := if candKey t i q < x.1 then (candKey t i q, q.2) else x
def k0 (t : Bytes) (i : Nat) : Nat × Nat := (keyOf t (i + 1) + 8 * 2048, 0)
/-- the best of the first n candidates: its key, its distance -/
def bestK (t : Bytes) (i : Nat) (n : Nat) : Nat × Nat := ((cands t i).take n).foldl (kStep t i) (k0 t i)
def dOf : Step → Nat
  | .letter _ => 0
  | .match_ _ d => d
theorem candKey_cost (t : Bytes) (i : Nat) (q : Nat × Nat) : candKey t i q = costTo t i (.match_ q.1 q.2) * 2048 + (i + q.1) := by
  unfold candKey keyOf costTo
  show _ = ((12 + (further (q.1 - 3) + further (q.2 - 1))) + cst t (i + q.1)) * 2048 + (i + q.1)
  omega
theorem cands_len {t : Bytes} {i : Nat} {q : Nat × Nat} (hi : i < t.length) (h : q ∈ cands t i) : 3 ≤ q.1 ∧ q.1 ≤ 258 ∧ i + q.1 ≤ t.length ∧ 1 ≤ q.2 ∧ q.2 ≤ i := by
  unfold cands candsTo at h
  obtain ⟨k, hk, rfl⟩ := List.mem_map.mp h
  have hk := List.mem_range.mp hk
  have hd := (most_iff (t := t) (i := i) (L := k + 3) (by omega)).mp (by omega)
  have hb : k + 3 ≤ 258 := by
    refine Nat.le_of_not_lt fun hlt => hd (D_big hi hlt)
  rcases D_near hi hb with ⟨a, _⟩ | ⟨a, b, c, _⟩
  · exact absurd a hd
  · have := c.1
    exact ⟨by show 3 ≤ k + 3; omega, hb, this, a, b⟩
theorem cands_rise (t : Bytes) (i : Nat) : (cands t i).Pairwise fun a b => a.1 < b.1 := by
  unfold cands candsTo
  rw [List.pairwise_map]
  exact List.pairwise_lt_range.imp fun {a b} h => by
    show a + 3 < b + 3
    omega
def RelK (t : Bytes) (i : Nat) (x : Nat × Nat) (y : Nat × Step) : Prop := x.1 = y.1 * 2048 + (i + y.2.length) ∧ x.2 = dOf y.2
theorem relK_fold {t : Bytes} {i : Nat} (hn : t.length ≤ 1024) : ∀ (ms : List (Nat × Nat)) (x : Nat × Nat) (y : Nat × Step), RelK t i x y → i + y.2.length ≤ t.length → (∀ q ∈ ms, y.2.length < q.1 ∧ i + q.1 ≤ t.length) → ms.Pairwise (fun a b => a.1 < b.1) →
    RelK t i (ms.foldl (kStep t i) x) ((ms.map fun q => Step.match_ q.1 q.2).foldl (fun y s => if costTo t i s < y.1 then (costTo t i s, s) else y) y)
  | [], _, _, h, _, _, _ => h
  | q :: ms, x, y, h, hy, hb, hp => by
    have hq := hb q List.mem_cons_self
    have hp' := List.pairwise_cons.mp hp
    rw [List.foldl_cons, List.map_cons, List.foldl_cons]
    have hlt : candKey t i q < x.1 ↔ costTo t i (.match_ q.1 q.2) < y.1 := by
      rw [candKey_cost, h.1]
      omega
    unfold kStep
    by_cases c : costTo t i (.match_ q.1 q.2) < y.1
    · rw [if_pos c, if_pos (hlt.mpr c)]
      exact relK_fold hn ms _ _ ⟨candKey_cost t i q, rfl⟩ hq.2 (fun r hr => ⟨hp'.1 r hr, (hb r (List.mem_cons_of_mem _ hr)).2⟩) hp'.2
    · rw [if_neg c, if_neg fun z => c (hlt.mp z)]
      exact relK_fold hn ms _ _ h hy (fun r hr => hb r (List.mem_cons_of_mem _ hr)) hp'.2
theorem bestK_all {t : Bytes} {i n : Nat} (hn : t.length ≤ 1024) (hi : i < t.length) (h : (cands t i).length ≤ n) : bestK t i n = ((ent t i).1 * 2048 + (i + (ent t i).2.length), dOf (ent t i).2) := by
  unfold bestK
  rw [List.take_of_length_le h, ent_eq t i hi]
  have := relK_fold (t := t) (i := i) hn (cands t i) (k0 t i) (costTo t i (.letter (t[i]?.getD 0)), .letter (t[i]?.getD 0)) ⟨?_, rfl⟩ (by show i + 1 ≤ t.length; omega) (fun q hq => ?_) (cands_rise t i)
  · unfold bestZ
    generalize (cands t i).foldl (kStep t i) (k0 t i) = u at this
    obtain ⟨u1, u2⟩ := u
    obtain ⟨h1, h2⟩ := this
    exact Prod.ext h1 h2
  · unfold k0 keyOf costTo
    show _ = ((8 + cst t (i + 1)) * 2048 + (i + 1))
    simp only
    omega
  · have := cands_len hi hq
    exact ⟨by show 1 < q.1; omega, this.2.2.1⟩
/-- a place's first step is one that may be taken -/
def StepOk (t : Bytes) (p : Nat) : Step → Prop
  | .letter c => t[p]? = some c
  | .match_ l d => 3 ≤ l ∧ l ≤ 258 ∧ p + l ≤ t.length ∧ 1 ≤ d ∧ d ≤ p
theorem bestZ_mem (c : Step → Nat) : ∀ (ms : List Step) (y : Nat × Step), (ms.foldl (fun y s => if c s < y.1 then (c s, s) else y) y).2 = y.2 ∨ (ms.foldl (fun y s => if c s < y.1 then (c s, s) else y) y).2 ∈ ms
  | [], _ => .inl rfl
  | s :: ms, y => by
    rw [List.foldl_cons]
    rcases bestZ_mem c ms (if c s < y.1 then (c s, s) else y) with h | h
    · rw [h]
      split
      · exact .inr List.mem_cons_self
      · exact .inl rfl
    · exact .inr (List.mem_cons_of_mem _ h)
theorem ent_ok {t : Bytes} {i : Nat} (hi : i < t.length) : StepOk t i (ent t i).2 := by
  rw [ent_eq t i hi]
  unfold bestZ
  rcases bestZ_mem (costTo t i) ((cands t i).map fun q => Step.match_ q.1 q.2) (costTo t i (.letter (t[i]?.getD 0)), .letter (t[i]?.getD 0)) with h | h
  · rw [h]
    show t[i]? = some (t[i]?.getD 0)
    rw [List.getElem?_eq_getElem hi]
    rfl
  · obtain ⟨q, hq, e⟩ := List.mem_map.mp h
    rw [← e]
    exact cands_len hi hq
theorem StepOk.len {t : Bytes} {p : Nat} {s : Step} (h : StepOk t p s) : 1 ≤ s.length ∧ p + s.length ≤ t.length := by
  cases s with
  | letter c =>
    have := (List.getElem?_eq_some_iff.mp (show t[p]? = some c from h)).1
    exact ⟨Nat.le_refl _, this⟩
  | match_ l d =>
    obtain ⟨h1, h2, h3, _⟩ := h
    exact ⟨by show 1 ≤ l; omega, h3⟩
theorem ent_cost {t : Bytes} {i : Nat} : ∀ k, i + k = t.length → cst t i ≤ 8 * k := by
  intro k
  induction k generalizing i with
  | zero =>
    intro h
    unfold cst
    rw [if_neg (by omega)]
    omega
  | succ k ih =>
    intro h
    have ih := ih (i := i + 1) (by omega)
    have hi : i < t.length := by omega
    have e : cst t i = (ent t i).1 := by unfold cst; rw [if_pos hi]
    rw [e, ent_eq t i hi]
    unfold bestZ
    have : ∀ (ms : List Step) (y : Nat × Step), (ms.foldl (fun y s => if costTo t i s < y.1 then (costTo t i s, s) else y) y).1 ≤ y.1 := by
      intro ms
      induction ms with
      | nil => intro y; exact Nat.le_refl _
      | cons s ms ihm =>
        intro y
        rw [List.foldl_cons]
        refine Nat.le_trans (ihm _) ?_
        split
        · simp only; omega
        · exact Nat.le_refl _
    refine Nat.le_trans (this _ _) ?_
    show 8 + cst t (i + 1) ≤ _
    omega

/-! ### groups: lengths of one class -/
theorem class_same {v w : Nat} (h1 : v ≤ w) (h2 : w < 2 ^ classOf v) (h0 : v ≠ 0 ∨ w = v) : classOf w = classOf v := by
  by_cases hv : v = 0
  · rcases h0 with h0 | h0
    · exact absurd hv h0
    · rw [h0]
  · unfold classOf at h2 ⊢
    rw [if_neg hv] at h2 ⊢
    rw [if_neg (by omega)]
    have h3 : 2 ^ Nat.log2 v ≤ w := Nat.le_trans ((Nat.le_log2 hv).mp (Nat.le_refl _)) h1
    have h4 : Nat.log2 v ≤ Nat.log2 w := (Nat.le_log2 (by omega)).mpr h3
    have h5 : Nat.log2 w < Nat.log2 v + 1 := (Nat.log2_lt (by omega)).mpr h2
    omega
theorem class_lt (v : Nat) : v < 2 ^ classOf v := by
  unfold classOf
  split
  · omega
  · rename_i h
    exact (Nat.log2_lt h).mp (Nat.lt_succ_self _)
theorem class_le {v k : Nat} (h : v < 2 ^ k) : classOf v ≤ k := by
  unfold classOf
  split
  · exact Nat.zero_le _
  · rename_i h0
    exact (Nat.log2_lt h0).mpr h
theorem fold_group {t : Bytes} {i d : Nat} {m c : Nat} : ∀ (g : List (Nat × Nat)) (x : Nat × Nat), (∀ q ∈ g, q.2 = d ∧ candKey t i q = keyOf t (i + q.1) + c) → (∀ q ∈ g, m ≤ keyOf t (i + q.1)) → (∃ q ∈ g, keyOf t (i + q.1) = m) →
    g.foldl (kStep t i) x = if m + c < x.1 then (m + c, d) else x := by
  -- a form that goes along: what's known of the state
  have key : ∀ (g : List (Nat × Nat)) (x : Nat × Nat), (∀ q ∈ g, q.2 = d ∧ candKey t i q = keyOf t (i + q.1) + c) → (∀ q ∈ g, m ≤ keyOf t (i + q.1)) →
      (x = (m + c, d) → g.foldl (kStep t i) x = x) ∧ (x.1 ≤ m + c → g.foldl (kStep t i) x = x) ∧ (m + c < x.1 → (∃ q ∈ g, keyOf t (i + q.1) = m) → g.foldl (kStep t i) x = (m + c, d)) := by
    intro g
    induction g with
    | nil =>
      intro x _ _
      exact ⟨fun _ => rfl, fun _ => rfl, fun _ ⟨q, hq, _⟩ => by cases hq⟩
    | cons q g ih =>
      intro x hd hm
      have hd' := fun r hr => hd r (List.mem_cons_of_mem _ hr)
      have hm' := fun r hr => hm r (List.mem_cons_of_mem _ hr)
      have hq := hd q List.mem_cons_self
      have hmq := hm q List.mem_cons_self
      have stay : x.1 ≤ m + c → kStep t i x q = x := fun hx => by
        unfold kStep
        rw [if_neg (by rw [hq.2]; omega)]
      have small : x.1 ≤ m + c → (q :: g).foldl (kStep t i) x = x := fun hx => by
        rw [List.foldl_cons, stay hx]
        exact (ih x hd' hm').2.1 hx
      refine ⟨fun e => small (by rw [e]; exact Nat.le_refl _), small, fun hx hex => ?_⟩
      rw [List.foldl_cons]
      by_cases h0 : keyOf t (i + q.1) = m
      · have e : kStep t i x q = (m + c, d) := by
          unfold kStep
          rw [hq.2, h0, if_pos hx, hq.1]
        rw [e]
        exact (ih _ hd' hm').1 rfl
      · have hex' : ∃ r ∈ g, keyOf t (i + r.1) = m := by
          obtain ⟨r, hr, e⟩ := hex
          rcases List.mem_cons.mp hr with rfl | hr
          · exact absurd e h0
          · exact ⟨r, hr, e⟩
        refine (ih _ hd' hm').2.2 ?_ hex'
        unfold kStep
        split
        · rw [hq.2]
          simp only
          omega
        · exact hx
  intro g x hd hm hex
  obtain ⟨_, h2, h3⟩ := key g x hd hm
  by_cases h : m + c < x.1
  · rw [if_pos h]
    exact h3 h hex
  · rw [if_neg h]
    exact h2 (by omega)

/-! ### best_of's loops: rows gone through, the length -/
theorem take_drop_more {α : Type} (l : List α) {a b : Nat} (h : a ≤ b) : l.take b = l.take a ++ (l.drop a).take (b - a) := by
  rw [show l.take b = l.take (a + (b - a)) by congr 1; omega, List.take_add]
theorem candsTo_drop (t : Bytes) (i n a : Nat) : (candsTo t i n).drop a = (List.range (n - a)).map fun k => (a + k + 3, D t i (a + k + 3)) := by
  unfold candsTo
  rw [← List.map_drop]
  apply List.ext_getElem
  · simp
  · intro k h1 h2
    simp
/-- within a row all distances are the row's -/
theorem flat_dist : ∀ (l : List (Nat × Nat)) (prev : Nat), Chain prev l → ∀ j q, l[j]? = some q → ∀ L, lastOf prev (l.take j) < L → L ≤ q.1 → (L, q.2) ∈ flat prev l
  | [], _, _, j, q, h, _, _, _ => by simp at h
  | a :: l, prev, hc, 0, q, h, L, h1, h2 => by
    have e : a = q := by simpa using h
    subst e
    have h1 : prev < L := h1
    refine List.mem_append_left _ (List.mem_map.mpr ⟨L - prev - 1, List.mem_range.mpr (by omega), ?_⟩)
    rw [show prev + 1 + (L - prev - 1) = L by omega]
  | a :: l, prev, hc, j + 1, q, h, L, h1, h2 => by
    rw [List.getElem?_cons_succ] at h
    exact List.mem_append_right _ (flat_dist l a.1 hc.2 j q h L h1 h2)
theorem row_D {t : Bytes} {i n : Nat} {rows : List (Nat × Nat)} (hf : flat 2 rows = candsTo t i n) (hc : Chain 2 rows) {j : Nat} {q : Nat × Nat} (hq : rows[j]? = some q) {L : Nat} (h1 : lastOf 2 (rows.take j) < L) (h2 : L ≤ q.1) :
    D t i L = q.2 ∧ 3 ≤ L ∧ L - 3 < n := by
  have h := flat_dist rows 2 hc j q hq L h1 h2
  rw [hf] at h
  unfold candsTo at h
  obtain ⟨k, hk, e⟩ := List.mem_map.mp h
  have e1 : k + 3 = L := congrArg Prod.fst e
  have e2 : D t i (k + 3) = q.2 := congrArg Prod.snd e
  rw [e1] at e2
  have := List.mem_range.mp hk
  exact ⟨e2, by omega, by omega⟩
theorem chain_last : ∀ (l : List (Nat × Nat)) (prev j : Nat) (q : Nat × Nat), Chain prev l → l[j]? = some q → lastOf prev (l.take j) < q.1 ∧ lastOf prev (l.take (j + 1)) = q.1 ∧ prev ≤ lastOf prev (l.take j)
  | [], _, j, q, _, h => by simp at h
  | a :: l, prev, 0, q, hc, h => by
    have e : a = q := by simpa using h
    subst e
    exact ⟨hc.1, rfl, Nat.le_refl _⟩
  | a :: l, prev, j + 1, q, hc, h => by
    rw [List.getElem?_cons_succ] at h
    obtain ⟨h1, h2, h3⟩ := chain_last l a.1 j q hc.2 h
    exact ⟨h1, h2, by have := hc.1; show prev ≤ lastOf a.1 (l.take j); omega⟩
theorem cands_get {t : Bytes} {i k : Nat} (h : k < (cands t i).length) : (cands t i)[k]? = some (k + 3, D t i (k + 3)) := by
  unfold cands candsTo at h ⊢
  rw [List.length_map, List.length_range] at h
  rw [List.getElem?_map, List.getElem?_range h]
  rfl
theorem cands_length (t : Bytes) (i : Nat) : (cands t i).length = mostAt t i - 2 := by simp [cands, candsTo]
/-- one turn of the inner loop: the lengths from a to b = last -/
theorem group_turn {t : Bytes} {i : Nat} {rows : List (Nat × Nat)} (hf : flat 2 rows = cands t i) (hc : Chain 2 rows) {j : Nat} {q : Nat × Nat} (hq : rows[j]? = some q) {a : Nat} (h1 : lastOf 2 (rows.take j) < a) (h2 : a ≤ q.1)
    {m : Nat} (hm : ∀ L, a ≤ L → L ≤ min q.1 (2 + 2 ^ classOf (a - 3)) → m ≤ keyOf t (i + L)) (hex : ∃ L, a ≤ L ∧ L ≤ min q.1 (2 + 2 ^ classOf (a - 3)) ∧ keyOf t (i + L) = m) :
    bestK t i (min q.1 (2 + 2 ^ classOf (a - 3)) + 1 - 3) = if m + (12 + further (q.2 - 1) + (classOf (a - 3) - 1)) * 2048 < (bestK t i (a - 3)).1 then (m + (12 + further (q.2 - 1) + (classOf (a - 3) - 1)) * 2048, q.2) else bestK t i (a - 3) := by
  have hf' : flat 2 rows = candsTo t i (mostAt t i - 2) := hf
  have ha := row_D hf' hc hq h1 h2
  have hla : a ≤ min q.1 (2 + 2 ^ classOf (a - 3)) := by
    have := class_lt (a - 3)
    omega
  unfold bestK
  rw [take_drop_more (cands t i) (a := a - 3) (b := min q.1 (2 + 2 ^ classOf (a - 3)) + 1 - 3) (by omega), List.foldl_append]
  have hitems : ∀ r ∈ ((cands t i).drop (a - 3)).take (min q.1 (2 + 2 ^ classOf (a - 3)) + 1 - 3 - (a - 3)), ∃ L, a ≤ L ∧ L ≤ min q.1 (2 + 2 ^ classOf (a - 3)) ∧ r = (L, D t i L) := by
    intro r hr
    obtain ⟨k, hk, e⟩ := List.mem_iff_getElem.mp hr
    rw [List.length_take, List.length_drop] at hk
    rw [List.getElem_take, List.getElem_drop] at e
    have e2 := cands_get (t := t) (i := i) (k := a - 3 + k) (by omega)
    rw [List.getElem?_eq_getElem (by omega)] at e2
    have e3 := Option.some.inj e2
    rw [e] at e3
    refine ⟨a + k, by omega, by omega, ?_⟩
    rw [e3]
    have : a - 3 + k + 3 = a + k := by omega
    rw [this]
  refine fold_group _ _ (fun r hr => ?_) (fun r hr => ?_) ?_
  · obtain ⟨L, hL1, hL2, rfl⟩ := hitems r hr
    have hD := row_D hf' hc hq (L := L) (by omega) (by omega)
    refine ⟨hD.1, ?_⟩
    unfold candKey
    simp only [hD.1]
    have hcl : classOf (L - 3) = classOf (a - 3) := class_same (by omega) (by omega) (by
      by_cases h0 : a - 3 = 0
      · right
        rw [h0] at hL2
        have : classOf 0 = 0 := rfl
        rw [this] at hL2
        omega
      · exact .inl h0)
    have e : further (L - 3) = classOf (a - 3) - 1 := by unfold further; rw [hcl]
    rw [e]
    omega
  · obtain ⟨L, hL1, hL2, rfl⟩ := hitems r hr
    exact hm L hL1 hL2
  · obtain ⟨L, hL1, hL2, e⟩ := hex
    refine ⟨(L, D t i L), ?_, e⟩
    have hD := row_D hf' hc hq (L := L) (by omega) (by omega)
    have hlen : L - 3 < (cands t i).length := by rw [cands_length]; exact hD.2.2
    refine List.mem_iff_getElem?.mpr ⟨L - a, ?_⟩
    rw [List.getElem?_take_of_lt (by omega), List.getElem?_drop, show a - 3 + (L - a) = L - 3 by omega, cands_get hlen, show L - 3 + 3 = L by omega]

/-! ### the parse -/
/-- the steps from a place on -/
def walkFrom (t : Bytes) (f p : Nat) : List Step := walk (table t.toArray t.length) f (t.length - p)
theorem walkFrom_turn {t : Bytes} {f p : Nat} (hp : p < t.length) : walkFrom t (f + 1) p = (ent t p).2 :: walkFrom t f (p + (ent t p).2.length) := by
  have e : walk (table t.toArray t.length) (f + 1) (t.length - p) = if t.length - p = 0 then [] else ((table t.toArray t.length).getD (t.length - p - 1) (0, .letter 0)).2 :: walk (table t.toArray t.length) f (t.length - p - ((table t.toArray t.length).getD (t.length - p - 1) (0, .letter 0)).2.length) := rfl
  unfold walkFrom
  rw [e, if_neg (by omega)]
  show (ent t p).2 :: walk _ f (t.length - p - (ent t p).2.length) = _
  rw [Nat.sub_sub]
theorem walkFrom_end {t : Bytes} {f : Nat} : walkFrom t (f + 1) t.length = [] := by
  unfold walkFrom
  rw [Nat.sub_self]
  rfl
theorem parse_eq (t : Bytes) : SwSqueeze.parse t = walkFrom t (t.length + 1) 0 := by
  unfold walkFrom
  rw [Nat.sub_zero]
  unfold SwSqueeze.parse
  simp
/-- steps that go over the bytes from a place on -/
inductive Goes (t : Bytes) : Nat → List Step → Prop where
  | done : Goes t t.length []
  | more {p : Nat} {s : Step} {l : List Step} (h : StepOk t p s) (r : Goes t (p + s.length) l) : Goes t p (s :: l)
theorem walk_goes (t : Bytes) : ∀ (f p : Nat), p ≤ t.length → t.length - p < f → Goes t p (walkFrom t f p)
  | 0, _, _, h => by omega
  | f + 1, p, hp, h => by
    by_cases e : p = t.length
    · rw [e, walkFrom_end]
      exact .done
    · have hlt : p < t.length := by omega
      have hk := ent_ok hlt
      have hl := hk.len
      rw [walkFrom_turn hlt]
      exact .more hk (walk_goes t f _ hl.2 (by omega))
theorem parse_goes (t : Bytes) : Goes t 0 (SwSqueeze.parse t) := by
  rw [parse_eq]
  exact walk_goes t _ 0 (Nat.zero_le _) (by omega)
/-- a step of some place -/
def StepIn (t : Bytes) (s : Step) : Prop := ∃ p, StepOk t p s
theorem Goes.each {t : Bytes} {p : Nat} {l : List Step} (h : Goes t p l) : ∀ s ∈ l, StepIn t s := by
  induction h with
  | done => intro s hs; cases hs
  | more h r ih =>
    intro x hx
    rcases List.mem_cons.mp hx with rfl | hx
    · exact ⟨_, h⟩
    · exact ih x hx
theorem Goes.length {t : Bytes} {p : Nat} {l : List Step} (h : Goes t p l) : l.length + p ≤ t.length := by
  induction h with
  | done => show 0 + _ ≤ _; omega
  | more h r ih =>
    have := h.len
    rw [List.length_cons]
    omega
end Gz
end

/-! ## MRead -/
section
set_option linter.all false
namespace Gz
open Sw SwSqueeze

/-! ### a symbol by its codeword -/
def keyBits (l : List Bool) : Nat := l.foldl (fun k b => 2 * k + bit b) 1
def tkey (t : Nat × Nat × Nat) : Nat := 2 ^ t.2.1 + t.2.2
theorem keyBits_snoc (l : List Bool) (b : Bool) : keyBits (l ++ [b]) = 2 * keyBits l + bit b := by
  unfold keyBits
  rw [List.foldl_append]
  rfl
theorem keyBits_pos (l : List Bool) : 1 ≤ keyBits l := by
  induction l using list_snoc_ind with
  | h0 => exact Nat.le_refl _
  | hs l b ih => rw [keyBits_snoc]; omega
theorem keyBits_inj : ∀ (l m : List Bool), keyBits l = keyBits m → l = m := by
  intro l
  induction l using list_snoc_ind with
  | h0 =>
    intro m
    induction m using list_snoc_ind with
    | h0 => intro _; rfl
    | hs m b _ =>
      intro h
      rw [keyBits_snoc] at h
      have := keyBits_pos m
      have h1 : keyBits [] = 1 := rfl
      omega
  | hs l b ih =>
    intro m
    induction m using list_snoc_ind with
    | h0 =>
      intro h
      rw [keyBits_snoc] at h
      have := keyBits_pos l
      have h1 : keyBits [] = 1 := rfl
      omega
    | hs m c _ =>
      intro h
      rw [keyBits_snoc, keyBits_snoc] at h
      have h1 := bit_le b
      have h2 := bit_le c
      have e1 : keyBits l = keyBits m := by omega
      have e2 : bit b = bit c := by omega
      rw [ih m e1]
      congr 1
      cases b <;> cases c <;> first | rfl | cases e2
theorem keyBits_high (c : Nat) : ∀ (n k : Nat), (bitsHigh n c).foldl (fun k b => 2 * k + bit b) k = k * 2 ^ n + c % 2 ^ n
  | 0, k => by
    show k = k * 1 + c % 1
    omega
  | n + 1, k => by
    rw [bitsHigh_more, List.foldl_cons, keyBits_high c n, bit_testBit, Nat.pow_succ, Nat.mod_mul (a := 2 ^ n) (b := 2), Nat.add_mul]
    generalize c / 2 ^ n % 2 = u
    have e1 : 2 * k * 2 ^ n = k * (2 ^ n * 2) := by rw [Nat.mul_comm 2 k, Nat.mul_assoc, Nat.mul_comm 2]
    rw [e1, Nat.mul_comm u]
    omega
theorem key_word {n c : Nat} (h : c < 2 ^ n) : keyBits (bitsHigh n c) = 2 ^ n + c := by
  unfold keyBits
  rw [keyBits_high, Nat.one_mul, Nat.mod_eq_of_lt h]
theorem key_iff {n c m : Nat} {l : List Bool} (h : c < 2 ^ n) (hm : m ≤ l.length) : 2 ^ n + c = keyBits (l.take m) ↔ n = m ∧ bitsHigh n c = l.take m := by
  rw [← key_word h]
  constructor
  · intro e
    have e2 := keyBits_inj _ _ e
    refine ⟨?_, e2⟩
    have := congrArg List.length e2
    rw [bitsHigh_length, List.length_take] at this
    omega
  · rintro ⟨_, e⟩
    rw [e]
structure Words (ws : List (Nat × Nat × Nat)) : Prop where
  ok : ∀ t ∈ ws, 1 ≤ t.2.1 ∧ t.2.1 ≤ 15 ∧ t.2.2 < 2 ^ t.2.1
  rise : ws.Pairwise fun a b => a.2.1 ≤ b.2.1 ∧ a.1 ≠ b.1 ∧ (a.2.1 = b.2.1 → a.2.2 < b.2.2)
theorem words_of {ls : List Nat} (hls : ∀ n ∈ ls, n ≤ 15) (h : wholeCode ls = true) : Words (codewords ls) :=
  ⟨fun t ht => let w := codewords_word hls h t ht; ⟨w.lo, w.hi, w.num⟩, codewords_rise⟩
def tblGet (ws : List (Nat × Nat × Nat)) (k : Nat) : Option Nat := (ws.find? fun t => tkey t == k).map (·.1)
theorem Words.keys {ws : List (Nat × Nat × Nat)} (W : Words ws) : (ws.map tkey).Nodup := by
  unfold List.Nodup
  rw [List.pairwise_map]
  refine W.rise.imp_of_mem ?_
  intro a b ha hb h e
  have h1 := W.ok a ha
  have h2 := W.ok b hb
  unfold tkey at e
  rw [← key_word h1.2.2, ← key_word h2.2.2] at e
  have e2 := congrArg List.length (keyBits_inj _ _ e)
  rw [bitsHigh_length, bitsHigh_length] at e2
  rw [key_word h1.2.2, key_word h2.2.2, e2] at e
  have := h.2.2 e2
  omega
theorem sym_pred {t : Nat × Nat × Nat} {l : List Bool} : (decide (t.2.1 ≤ l.length) && bitsHigh t.2.1 t.2.2 == l.take t.2.1) = true ↔ t.2.1 ≤ l.length ∧ bitsHigh t.2.1 t.2.2 = l.take t.2.1 := by
  simp
theorem readSymbol_some {ws : List (Nat × Nat × Nat)} (W : Words ws) {l : List Bool} {m s : Nat} (hm : m ≤ l.length) (hno : ∀ j, 1 ≤ j → j < m → tblGet ws (keyBits (l.take j)) = none) (h : tblGet ws (keyBits (l.take m)) = some s) :
    readSymbol ws l = some (s, l.drop m) := by
  unfold tblGet at h
  obtain ⟨t, ht, rfl⟩ := Option.map_eq_some_iff.mp h
  have hmem := List.mem_of_find?_eq_some ht
  have hk : tkey t = keyBits (l.take m) := by simpa using List.find?_some ht
  have hw := W.ok t hmem
  obtain ⟨hn, hb⟩ := (key_iff hw.2.2 hm).mp hk
  have hp : (decide (t.2.1 ≤ l.length) && bitsHigh t.2.1 t.2.2 == l.take t.2.1) = true := sym_pred.mpr ⟨by omega, by rw [hb, hn]⟩
  unfold readSymbol
  cases hf : ws.find? fun (q : Nat × Nat × Nat) => decide (q.2.1 ≤ l.length) && bitsHigh q.2.1 q.2.2 == l.take q.2.1 with
  | none =>
    rw [List.find?_eq_none] at hf
    exact absurd hp (hf t hmem)
  | some u =>
    obtain ⟨hu, as, bs, he, has⟩ := List.find?_eq_some_iff_append.mp hf
    have hu' := sym_pred.mp hu
    have humem : u ∈ ws := by rw [he]; simp
    have huw := W.ok u humem
    have hkey : tkey u = keyBits (l.take u.2.1) := (key_iff huw.2.2 hu'.1).mpr ⟨rfl, hu'.2⟩
    have hge : m ≤ u.2.1 := by
      refine Nat.le_of_not_lt fun hlt => ?_
      have := hno u.2.1 huw.1 hlt
      unfold tblGet at this
      rw [Option.map_eq_none_iff, List.find?_eq_none] at this
      exact this u humem (by rw [hkey]; simp)
    have hut : u = t := by
      have htin : t ∈ as ++ u :: bs := by rw [← he]; exact hmem
      rcases List.mem_append.mp htin with h1 | h1
      · have := has t h1
        rw [hp] at this
        cases this
      · rcases List.mem_cons.mp h1 with h1 | h1
        · exact h1.symm
        · have hr := W.rise
          rw [he] at hr
          have h2 := (List.pairwise_cons.mp (List.pairwise_append.mp hr).2.1).1 t h1
          have e : u.2.1 = t.2.1 := by omega
          have h3 := h2.2.2 e
          have e2 : tkey u = tkey t := by
            rw [hkey, hk]
            congr 2
            omega
          unfold tkey at e2
          rw [e] at e2
          omega
    subst hut
    show some (u.1, l.drop u.2.1) = _
    rw [hn]
theorem readSymbol_none {ws : List (Nat × Nat × Nat)} (W : Words ws) {l : List Bool} (hno : ∀ j, 1 ≤ j → j ≤ 15 → j ≤ l.length → tblGet ws (keyBits (l.take j)) = none) : readSymbol ws l = none := by
  unfold readSymbol
  rw [Option.map_eq_none_iff, List.find?_eq_none]
  intro u hu h
  have hu' := sym_pred.mp h
  have huw := W.ok u hu
  have hkey : tkey u = keyBits (l.take u.2.1) := (key_iff huw.2.2 hu'.1).mpr ⟨rfl, hu'.2⟩
  have := hno u.2.1 huw.1 huw.2.1 hu'.1
  unfold tblGet at this
  rw [Option.map_eq_none_iff, List.find?_eq_none] at this
  exact this u hu (by rw [hkey]; simp)

/-! ### numbers -/
theorem takeBits_none {k : Nat} {l : List Bool} (h : l.length < k) : takeBits k l = none := if_pos h
theorem takeBits_some {k : Nat} {l : List Bool} (h : k ≤ l.length) : takeBits k l = some (numLow (l.take k), l.drop k) := if_neg (Nat.not_lt.mpr h)
theorem readNumber_zero (l : List Bool) : readNumber 0 l = some (0, l) := rfl

/-! ### lengths -/
theorem readLengths_end (f run : Nat) (l : List Bool) : readLengths (f + 1) 0 run l = some ([], l) := rfl
theorem readLengths_turn (f n run : Nat) (l : List Bool) (hn : n ≠ 0) : readLengths (f + 1) n run l = (takeBits 4 l).bind fun (x : Nat × List Bool) =>
      if x.1 ≠ 0 then (readLengths f (n - 1) 0 x.2).map fun (y : List Nat × List Bool) => (x.1 :: y.1, y.2)
      else (takeBits 8 x.2).bind fun (k : Nat × List Bool) =>
        if (run ≠ 0 ∧ run < 256) ∨ n < k.1 + 1 then none
        else (readLengths f (n - (k.1 + 1)) (k.1 + 1) k.2).map fun (y : List Nat × List Bool) => (List.replicate (k.1 + 1) 0 ++ y.1, y.2) := by
  show (if n = 0 then _ else _) = _
  rw [if_neg hn]
theorem readLengths_zero (f n run : Nat) (l l' : List Bool) (hn : n ≠ 0) (h4 : takeBits 4 l = some (0, l')) : readLengths (f + 1) n run l = (takeBits 8 l').bind fun (k : Nat × List Bool) =>
        if (run ≠ 0 ∧ run < 256) ∨ n < k.1 + 1 then none
        else (readLengths f (n - (k.1 + 1)) (k.1 + 1) k.2).map fun (y : List Nat × List Bool) => (List.replicate (k.1 + 1) 0 ++ y.1, y.2) := by
  rw [readLengths_turn _ _ _ _ hn, h4, Option.bind_some]
  have hz : ¬ ((0 : Nat) ≠ 0) := fun h => h rfl
  dsimp only
  rw [if_neg hz]
/-- what's read and what's still to be read are all -/
def LenTo (l0 : List Bool) (lens : List Nat) (run : Nat) (l : List Bool) : Prop := lens.length ≤ 276 ∧ (∀ n ∈ lens, n ≤ 15) ∧ ∃ f, 276 - lens.length < f ∧
  readLengths 277 276 0 l0 = (readLengths f (276 - lens.length) run l).map fun y => (lens ++ y.1, y.2)
theorem lenTo_start (l0 : List Bool) : LenTo l0 [] 0 l0 := ⟨Nat.zero_le _, fun n h => by (cases h), 277, by decide, by
  show _ = (readLengths 277 276 0 l0).map _
  cases readLengths 277 276 0 l0 <;> rfl⟩
theorem LenTo.stop {l0 : List Bool} {lens : List Nat} {run : Nat} {l : List Bool} (h : LenTo l0 lens run l) (e : lens.length = 276) : readLengths 277 276 0 l0 = some (lens, l) := by
  obtain ⟨h1, _, f, h2, h3⟩ := h
  obtain ⟨f, rfl⟩ : ∃ g, f = g + 1 := ⟨f - 1, by omega⟩
  rw [h3, e, Nat.sub_self, readLengths_end]
  show some (lens ++ [], l) = _
  rw [List.append_nil]
theorem LenTo.none4 {l0 : List Bool} {lens : List Nat} {run : Nat} {l : List Bool} (h : LenTo l0 lens run l) (hl : lens.length < 276) (h4 : takeBits 4 l = none) : readLengths 277 276 0 l0 = none := by
  obtain ⟨h1, _, f, h2, h3⟩ := h
  obtain ⟨f, rfl⟩ : ∃ g, f = g + 1 := ⟨f - 1, by omega⟩
  rw [h3, readLengths_turn _ _ _ _ (by omega), h4]
  rfl
theorem numLow_take_lt (k : Nat) (l : List Bool) : numLow (l.take k) < 2 ^ k := Nat.lt_of_lt_of_le (numLow_lt _) (Nat.pow_le_pow_right (by decide) (List.length_take_le _ _))
theorem takeBits_lt {k : Nat} {l : List Bool} {x : Nat} {l' : List Bool} (h : takeBits k l = some (x, l')) : x < 2 ^ k ∧ k ≤ l.length ∧ l' = l.drop k ∧ x = numLow (l.take k) := by
  by_cases hk : l.length < k
  · rw [takeBits_none hk] at h; cases h
  · rw [takeBits_some (by omega)] at h
    cases h
    exact ⟨numLow_take_lt _ _, by omega, rfl, rfl⟩
theorem LenTo.one {l0 : List Bool} {lens : List Nat} {run : Nat} {l : List Bool} (h : LenTo l0 lens run l) (hl : lens.length < 276) {x : Nat} {l' : List Bool} (h4 : takeBits 4 l = some (x, l')) (hx : x ≠ 0) : LenTo l0 (lens ++ [x]) 0 l' := by
  obtain ⟨h1, hb, f, h2, h3⟩ := h
  obtain ⟨f, rfl⟩ : ∃ g, f = g + 1 := ⟨f - 1, by omega⟩
  refine ⟨by rw [List.length_append, List.length_singleton]; omega, fun n hn => ?_, f, by rw [List.length_append, List.length_singleton]; omega, ?_⟩
  · rcases List.mem_append.mp hn with hn | hn
    · exact hb n hn
    · rw [List.mem_singleton] at hn
      have := (takeBits_lt h4).1
      omega
  · rw [h3, readLengths_turn _ _ _ _ (by omega), h4]
    show (if x ≠ 0 then (readLengths f (276 - lens.length - 1) 0 l').map _ else _).map _ = _
    rw [if_pos hx, List.length_append, List.length_singleton, Nat.sub_sub]
    cases readLengths f (276 - (lens.length + 1)) 0 l' with
    | none => rfl
    | some y =>
      show some (lens ++ x :: y.1, y.2) = some ((lens ++ [x]) ++ y.1, y.2)
      rw [List.append_assoc]
      rfl
theorem LenTo.none8 {l0 : List Bool} {lens : List Nat} {run : Nat} {l : List Bool} (h : LenTo l0 lens run l) (hl : lens.length < 276) {l' : List Bool} (h4 : takeBits 4 l = some (0, l')) (h8 : takeBits 8 l' = none) : readLengths 277 276 0 l0 = none := by
  obtain ⟨h1, _, f, h2, h3⟩ := h
  obtain ⟨f, rfl⟩ : ∃ g, f = g + 1 := ⟨f - 1, by omega⟩
  rw [h3, readLengths_zero _ _ _ _ _ (by omega) h4, h8]
  rfl
theorem LenTo.bad {l0 : List Bool} {lens : List Nat} {run : Nat} {l : List Bool} (h : LenTo l0 lens run l) (hl : lens.length < 276) {l' l'' : List Bool} {k : Nat} (h4 : takeBits 4 l = some (0, l')) (h8 : takeBits 8 l' = some (k, l''))
    (hb : (run ≠ 0 ∧ run < 256) ∨ 276 < lens.length + (k + 1)) : readLengths 277 276 0 l0 = none := by
  obtain ⟨h1, _, f, h2, h3⟩ := h
  obtain ⟨f, rfl⟩ : ∃ g, f = g + 1 := ⟨f - 1, by omega⟩
  rw [h3, readLengths_zero _ _ _ _ _ (by omega) h4, h8]
  show (if (run ≠ 0 ∧ run < 256) ∨ 276 - lens.length < k + 1 then none else _).map _ = none
  rw [if_pos (by omega)]
  rfl
theorem LenTo.run {l0 : List Bool} {lens : List Nat} {run : Nat} {l : List Bool} (h : LenTo l0 lens run l) (hl : lens.length < 276) {l' l'' : List Bool} {k : Nat} (h4 : takeBits 4 l = some (0, l')) (h8 : takeBits 8 l' = some (k, l''))
    (hb : ¬ ((run ≠ 0 ∧ run < 256) ∨ 276 < lens.length + (k + 1))) : LenTo l0 (lens ++ List.replicate (k + 1) 0) (k + 1) l'' := by
  obtain ⟨h1, hbd, f, h2, h3⟩ := h
  obtain ⟨f, rfl⟩ : ∃ g, f = g + 1 := ⟨f - 1, by omega⟩
  refine ⟨by rw [List.length_append, List.length_replicate]; omega, fun n hn => ?_, f, by rw [List.length_append, List.length_replicate]; omega, ?_⟩
  · rcases List.mem_append.mp hn with hn | hn
    · exact hbd n hn
    · rw [List.eq_of_mem_replicate hn]; omega
  · rw [h3, readLengths_zero _ _ _ _ _ (by omega) h4, h8]
    show (if (run ≠ 0 ∧ run < 256) ∨ 276 - lens.length < k + 1 then none else (readLengths f (276 - lens.length - (k + 1)) (k + 1) l'').map _).map _ = _
    rw [if_neg (by omega), List.length_append, List.length_replicate, Nat.sub_sub]
    cases readLengths f (276 - (lens.length + (k + 1))) (k + 1) l'' with
    | none => rfl
    | some y =>
      show some (lens ++ (List.replicate (k + 1) 0 ++ y.1), y.2) = some ((lens ++ List.replicate (k + 1) 0) ++ y.1, y.2)
      rw [List.append_assoc]

/-! ### copies -/
theorem copy_more : ∀ (n : Nat) (out : Array UInt8) (d : Nat), copy out d (n + 1) = (copy out d n).push ((copy out d n).getD ((copy out d n).size - d) 0)
  | 0, out, d => rfl
  | n + 1, out, d => by
    have e : ∀ m, copy out d (m + 1) = copy (out.push (out.getD (out.size - d) 0)) d m := fun _ => rfl
    rw [e (n + 1), copy_more n, ← e n]
theorem copy_size : ∀ (n : Nat) (out : Array UInt8) (d : Nat), (copy out d n).size = out.size + n
  | 0, _, _ => rfl
  | n + 1, out, d => by rw [copy_more, Array.size_push, copy_size n]; omega

/-! ### steps -/
section
variable (ws wd : List (Nat × Nat × Nat)) (n : Nat)
/-- behind the text so far and the bits left the rest is what it is -/
def StepTo (l0 : List Bool) (out : Bytes) (l : List Bool) : Prop := out.length ≤ n ∧ ∃ f, n - out.length < f ∧ readSteps ws wd n (n + 1) #[] l0 = readSteps ws wd n f out.toArray l
end
section
variable {ws wd : List (Nat × Nat × Nat)} {n : Nat} {l0 l : List Bool} {out : Bytes}
theorem stepTo_start : StepTo ws wd n l0 [] l0 := ⟨Nat.zero_le _, n + 1, by simp, rfl⟩
theorem StepTo.stop (h : StepTo ws wd n l0 out l) (e : out.length = n) : readSteps ws wd n (n + 1) #[] l0 = some (out.toArray, l) := by
  obtain ⟨_, f, h2, h3⟩ := h
  obtain ⟨f, rfl⟩ : ∃ g, f = g + 1 := ⟨f - 1, by omega⟩
  rw [h3]
  show (if out.toArray.size = n then _ else _) = _
  rw [if_pos (by simpa using e)]
theorem readSteps_turn (f : Nat) (hn : out.length ≠ n) : readSteps ws wd n (f + 1) out.toArray l = (readSymbol ws l).bind fun (x : Nat × List Bool) =>
      if x.1 < 256 then readSteps ws wd n f (out ++ [UInt8.ofNat x.1]).toArray x.2
      else (readNumber (x.1 - 256) x.2).bind fun (y : Nat × List Bool) => (readSymbol wd y.2).bind fun (z : Nat × List Bool) => (readNumber z.1 z.2).bind fun (v : Nat × List Bool) =>
        if out.length < v.1 + 1 ∨ n < out.length + (y.1 + 3) then none else readSteps ws wd n f (copy out.toArray (v.1 + 1) (y.1 + 3)) v.2 := by
  show (if out.toArray.size = n then _ else _) = _
  rw [if_neg (by simpa using hn)]
  have e : ∀ c : UInt8, out.toArray.push c = (out ++ [c]).toArray := fun c => by simp
  simp only [e]
  have e2 : out.toArray.size = out.length := by simp
  simp only [e2]
theorem StepTo.noSym (h : StepTo ws wd n l0 out l) (hn : out.length < n) (hs : readSymbol ws l = none) : readSteps ws wd n (n + 1) #[] l0 = none := by
  obtain ⟨_, f, h2, h3⟩ := h
  obtain ⟨f, rfl⟩ : ∃ g, f = g + 1 := ⟨f - 1, by omega⟩
  rw [h3, readSteps_turn f (by omega), hs]
  rfl
theorem StepTo.letter (h : StepTo ws wd n l0 out l) (hn : out.length < n) {s : Nat} {l' : List Bool} (hs : readSymbol ws l = some (s, l')) (h2 : s < 256) : StepTo ws wd n l0 (out ++ [UInt8.ofNat s]) l' := by
  obtain ⟨_, f, h3, h4⟩ := h
  obtain ⟨f, rfl⟩ : ∃ g, f = g + 1 := ⟨f - 1, by omega⟩
  refine ⟨by rw [List.length_append, List.length_singleton]; omega, f, by rw [List.length_append, List.length_singleton]; omega, ?_⟩
  rw [h4, readSteps_turn f (by omega), hs]
  show (if s < 256 then _ else _) = _
  rw [if_pos h2]
theorem StepTo.matchAt (h : StepTo ws wd n l0 out l) (hn : out.length < n) {s : Nat} {l' : List Bool} (hs : readSymbol ws l = some (s, l')) (h2 : ¬ s < 256) : ∃ f, n - out.length < f + 1 ∧ readSteps ws wd n (n + 1) #[] l0 =
      (readNumber (s - 256) l').bind fun (y : Nat × List Bool) => (readSymbol wd y.2).bind fun (z : Nat × List Bool) => (readNumber z.1 z.2).bind fun (v : Nat × List Bool) =>
        if out.length < v.1 + 1 ∨ n < out.length + (y.1 + 3) then none else readSteps ws wd n f (copy out.toArray (v.1 + 1) (y.1 + 3)) v.2 := by
  obtain ⟨_, f, h3, h4⟩ := h
  obtain ⟨f, rfl⟩ : ∃ g, f = g + 1 := ⟨f - 1, by omega⟩
  refine ⟨f, h3, ?_⟩
  rw [h4, readSteps_turn f (by omega), hs]
  show (if s < 256 then _ else _) = _
  rw [if_neg h2]
theorem StepTo.noLen (h : StepTo ws wd n l0 out l) (hn : out.length < n) {s : Nat} {l' : List Bool} (hs : readSymbol ws l = some (s, l')) (h2 : ¬ s < 256) (hy : readNumber (s - 256) l' = none) : readSteps ws wd n (n + 1) #[] l0 = none := by
  obtain ⟨f, _, e⟩ := h.matchAt hn hs h2
  rw [e, hy]
  rfl
theorem StepTo.noDist (h : StepTo ws wd n l0 out l) (hn : out.length < n) {s y : Nat} {l' l2 : List Bool} (hs : readSymbol ws l = some (s, l')) (h2 : ¬ s < 256) (hy : readNumber (s - 256) l' = some (y, l2)) (hz : readSymbol wd l2 = none) : readSteps ws wd n (n + 1) #[] l0 = none := by
  obtain ⟨f, _, e⟩ := h.matchAt hn hs h2
  rw [e, hy]
  show (readSymbol wd l2).bind _ = none
  rw [hz]
  rfl
theorem StepTo.noVal (h : StepTo ws wd n l0 out l) (hn : out.length < n) {s y z : Nat} {l' l2 l3 : List Bool} (hs : readSymbol ws l = some (s, l')) (h2 : ¬ s < 256) (hy : readNumber (s - 256) l' = some (y, l2)) (hz : readSymbol wd l2 = some (z, l3)) (hv : readNumber z l3 = none) :
    readSteps ws wd n (n + 1) #[] l0 = none := by
  obtain ⟨f, _, e⟩ := h.matchAt hn hs h2
  rw [e, hy]
  show (readSymbol wd l2).bind _ = none
  rw [hz]
  show (readNumber z l3).bind _ = none
  rw [hv]
  rfl
theorem StepTo.both (h : StepTo ws wd n l0 out l) (hn : out.length < n) {s y z v : Nat} {l' l2 l3 l4 : List Bool} (hs : readSymbol ws l = some (s, l')) (h2 : ¬ s < 256) (hy : readNumber (s - 256) l' = some (y, l2)) (hz : readSymbol wd l2 = some (z, l3)) (hv : readNumber z l3 = some (v, l4)) :
    (out.length < v + 1 ∨ n < out.length + (y + 3) → readSteps ws wd n (n + 1) #[] l0 = none) ∧
    (¬ (out.length < v + 1 ∨ n < out.length + (y + 3)) → StepTo ws wd n l0 (copy out.toArray (v + 1) (y + 3)).toList l4) := by
  obtain ⟨f, hf, e⟩ := h.matchAt hn hs h2
  rw [hy] at e
  have e1 : readSteps ws wd n (n + 1) #[] l0 = (readSymbol wd l2).bind fun (z : Nat × List Bool) => (readNumber z.1 z.2).bind fun (v : Nat × List Bool) =>
        if out.length < v.1 + 1 ∨ n < out.length + (y + 3) then none else readSteps ws wd n f (copy out.toArray (v.1 + 1) (y + 3)) v.2 := e
  rw [hz] at e1
  have e2 : readSteps ws wd n (n + 1) #[] l0 = (readNumber z l3).bind fun (v : Nat × List Bool) =>
        if out.length < v.1 + 1 ∨ n < out.length + (y + 3) then none else readSteps ws wd n f (copy out.toArray (v.1 + 1) (y + 3)) v.2 := e1
  rw [hv] at e2
  have e3 : readSteps ws wd n (n + 1) #[] l0 = if out.length < v + 1 ∨ n < out.length + (y + 3) then none else readSteps ws wd n f (copy out.toArray (v + 1) (y + 3)) l4 := e2
  constructor
  · intro hb
    rw [e3, if_pos hb]
  · intro hb
    have hsz : (copy out.toArray (v + 1) (y + 3)).toList.length = out.length + (y + 3) := by
      rw [Array.length_toList, copy_size]
      simp
    refine ⟨by rw [hsz]; omega, f, by rw [hsz]; omega, ?_⟩
    rw [e3, if_neg hb]
end

/-! ### the rest -/
theorem numLow_zero : ∀ (l : List Bool), numLow l = 0 ↔ l.all (fun (q : Bool) => !q) = true := by
  intro l
  induction l using list_snoc_ind with
  | h0 => simp [numLow_nil]
  | hs l b ih =>
    rw [numLow_append, List.all_append]
    have hp : 0 < 2 ^ l.length := Nat.two_pow_pos _
    cases b with
    | false =>
      have : bit false = 0 := rfl
      rw [this, Nat.zero_mul, Nat.add_zero, ih]
      simp
    | true =>
      have : bit true = 1 := rfl
      rw [this, Nat.one_mul]
      simp

/-! ### a coded block -/
def codesBad (c d : List Nat) : Prop := wholeCode c = false ∨ wholeCode d = false ∨ c.all (fun (n : Nat) => n == 0) = true ∨ ((c.drop 256).any (fun (n : Nat) => n != 0) = true ∧ d.all (fun (n : Nat) => n == 0) = true)
instance (c d : List Nat) : Decidable (codesBad c d) := by unfold codesBad; infer_instance
theorem readCoded_eq (b : Bytes) : readCoded b = (takeBits 10 (toBits b)).bind fun (x : Nat × List Bool) => (readLengths 277 276 0 x.2).bind fun (y : List Nat × List Bool) =>
    if codesBad (y.1.take 265) (y.1.drop 265) then none
    else (readSteps (codewords (y.1.take 265)) (codewords (y.1.drop 265)) (x.1 + 1) (x.1 + 2) #[] y.2).bind fun (z : Array UInt8 × List Bool) => if z.2.length < 8 ∧ z.2.all (fun (q : Bool) => !q) = true then some z.1.toList else none := rfl
theorem sum_zero : ∀ l : List Nat, l.sum = 0 ↔ l.all (fun (n : Nat) => n == 0) = true
  | [] => by simp
  | a :: l => by
    rw [List.sum_cons, List.all_cons, Bool.and_eq_true, ← sum_zero l, beq_iff_eq]
    omega
theorem sum_any (l : List Nat) : 0 < l.sum ↔ l.any (fun (n : Nat) => n != 0) = true := by
  rw [Nat.pos_iff_ne_zero, Ne, sum_zero]
  induction l with
  | nil => simp
  | cons a l ih =>
    rw [List.all_cons, List.any_cons, Bool.and_eq_true, Bool.or_eq_true, ← ih]
    by_cases h : a = 0
    · simp [h]
    · simp [h]
theorem readCoded_size {b t : Bytes} (h : readCoded b = some t) : ∃ x l, takeBits 10 (toBits b) = some (x, l) ∧ t.length = x + 1 := by
  rw [readCoded_eq] at h
  cases h1 : takeBits 10 (toBits b) with
  | none => rw [h1] at h; cases h
  | some x =>
    obtain ⟨x, l⟩ := x
    refine ⟨x, l, rfl, ?_⟩
    rw [h1] at h
    change ((readLengths 277 276 0 l).bind _) = _ at h
    cases h2 : readLengths 277 276 0 l with
    | none => rw [h2] at h; cases h
    | some y =>
      rw [h2] at h
      change (if codesBad (y.1.take 265) (y.1.drop 265) then none else _) = _ at h
      split at h
      · cases h
      · have key : ∀ (ws wd : List (Nat × Nat × Nat)) (n f : Nat) (out : Array UInt8) (l : List Bool) (z : Array UInt8 × List Bool), readSteps ws wd n f out l = some z → z.1.size = n := by
          intro ws wd n f
          induction f with
          | zero => intro out l z h; cases h
          | succ f ih =>
            intro out l z h
            change (if out.size = n then some (out, l) else _) = _ at h
            split at h
            · cases h
              assumption
            · cases hs : readSymbol ws l with
              | none => rw [hs] at h; cases h
              | some x =>
                rw [hs] at h
                change (if x.1 < 256 then _ else _) = _ at h
                split at h
                · exact ih _ _ _ h
                · cases hn : readNumber (x.1 - 256) x.2 with
                  | none => rw [hn] at h; cases h
                  | some y =>
                    rw [hn] at h
                    change ((readSymbol wd y.2).bind _) = _ at h
                    cases hz : readSymbol wd y.2 with
                    | none => rw [hz] at h; cases h
                    | some w =>
                      rw [hz] at h
                      change ((readNumber w.1 w.2).bind _) = _ at h
                      cases hv : readNumber w.1 w.2 with
                      | none => rw [hv] at h; cases h
                      | some v =>
                        rw [hv] at h
                        change (if _ then none else _) = _ at h
                        split at h
                        · cases h
                        · exact ih _ _ _ h
        cases h3 : readSteps (codewords (y.1.take 265)) (codewords (y.1.drop 265)) (x + 1) (x + 2) #[] y.2 with
        | none =>
          simp only [h3] at h
          cases h
        | some z =>
          simp only [h3] at h
          change (if _ then some z.1.toList else none) = _ at h
          split at h
          · cases h
            rw [Array.length_toList]
            exact key _ _ _ _ _ _ _ h3
          · cases h
end Gz
end

/-! ## MWrite -/
section
set_option linter.all false
namespace Gz
open Sw SwSqueeze

/-! ### lengths told -/
theorem takeWhile_le (l : List Nat) : (l.takeWhile fun (m : Nat) => m == 0).length ≤ l.length := (List.takeWhile_sublist _).length_le
theorem told_fuel : ∀ (f g : Nat) (l : List Nat), l.length < f → l.length < g → toldLengths f l = toldLengths g l
  | 0, _, _, h, _ => by omega
  | _, 0, _, _, h => by omega
  | f + 1, g + 1, [], _, _ => rfl
  | f + 1, g + 1, n :: l, h1, h2 => by
    rw [List.length_cons] at h1 h2
    show (if n ≠ 0 then _ else _) = (if n ≠ 0 then _ else _)
    by_cases h : n ≠ 0
    · rw [if_pos h, if_pos h, told_fuel f g l (by omega) (by omega)]
    · rw [if_neg h, if_neg h]
      have hk : 1 ≤ ((n :: l).takeWhile fun (m : Nat) => m == 0).length := by
        have : n = 0 := by omega
        subst this
        rw [List.takeWhile_cons_of_pos (by rfl)]
        exact Nat.succ_le_succ (Nat.zero_le _)
      dsimp only
      rw [told_fuel f g _ (by rw [List.length_drop, List.length_cons]; omega) (by rw [List.length_drop, List.length_cons]; omega)]
def told (l : List Nat) : List Bool := toldLengths (l.length + 1) l
theorem told_nil : told [] = [] := rfl
theorem told_cons {n : Nat} {l : List Nat} (h : n ≠ 0) : told (n :: l) = bitsLow 4 n ++ told l := by
  show (if n ≠ 0 then _ else _) = _
  rw [if_pos h]
  rfl
/-- noughts one behind another -/
def noughtBits (z : Nat) : List Bool := (List.replicate (z / 256) (bitsLow 4 0 ++ bitsLow 8 255)).flatten ++ (if 0 < z % 256 then bitsLow 4 0 ++ bitsLow 8 (z % 256 - 1) else [])
theorem takeWhile_zeros (z : Nat) (r : List Nat) (hr : r.head? ≠ some 0) : ((List.replicate z 0 ++ r).takeWhile fun (m : Nat) => m == 0).length = z := by
  induction z with
  | zero =>
    cases r with
    | nil => rfl
    | cons a r =>
      have : (a == 0) = false := by
        rw [beq_eq_false_iff_ne]
        intro e
        exact hr (by rw [e]; rfl)
      show ((a :: r).takeWhile _).length = 0
      rw [List.takeWhile_cons_of_neg (by simp [this])]
      rfl
  | succ z ih =>
    rw [List.replicate_succ, List.cons_append, List.takeWhile_cons_of_pos (by rfl), List.length_cons, ih]
theorem toldLengths_zero (f : Nat) (l : List Nat) : toldLengths (f + 1) (0 :: l) = bitsLow 4 0 ++ (bitsLow 8 (min 256 (((0 :: l).takeWhile fun (m : Nat) => m == 0).length) - 1) ++ toldLengths f ((0 :: l).drop (min 256 (((0 :: l).takeWhile fun (m : Nat) => m == 0).length)))) := by
  have hz : ¬ ((0 : Nat) ≠ 0) := fun h => h rfl
  conv => lhs; unfold toldLengths
  rw [if_neg hz]
theorem told_zeros (r : List Nat) (hr : r.head? ≠ some 0) : ∀ z : Nat, told (List.replicate z 0 ++ r) = noughtBits z ++ told r := by
  intro z
  induction z using Nat.strongRecOn with
  | ind z ih =>
    by_cases h0 : z = 0
    · subst h0
      rfl
    · obtain ⟨y, rfl⟩ : ∃ y, z = y + 1 := ⟨z - 1, by omega⟩
      have e : told (List.replicate (y + 1) 0 ++ r) = bitsLow 4 0 ++ (bitsLow 8 (min 256 (((List.replicate (y + 1) 0 ++ r).takeWhile fun (m : Nat) => m == 0).length) - 1) ++
          toldLengths (List.replicate (y + 1) 0 ++ r).length ((List.replicate (y + 1) 0 ++ r).drop (min 256 (((List.replicate (y + 1) 0 ++ r).takeWhile fun (m : Nat) => m == 0).length)))) := by
        rw [List.replicate_succ, List.cons_append]
        exact toldLengths_zero _ _
      rw [e, takeWhile_zeros _ _ hr]
      by_cases hz : y + 1 ≥ 256
      · rw [Nat.min_eq_left hz]
        have hd : (List.replicate (y + 1) 0 ++ r).drop 256 = List.replicate (y + 1 - 256) 0 ++ r := by
          rw [List.drop_append_of_le_length (by simp; omega), List.drop_replicate]
        rw [hd, told_fuel _ ((List.replicate (y + 1 - 256) 0 ++ r).length + 1) _ (by simp; omega) (by omega)]
        have := ih (y + 1 - 256) (by omega)
        unfold told at this
        rw [this]
        have hn : noughtBits (y + 1) = (bitsLow 4 0 ++ bitsLow 8 255) ++ noughtBits (y + 1 - 256) := by
          unfold noughtBits
          have e1 : (y + 1) / 256 = (y + 1 - 256) / 256 + 1 := by omega
          have e2 : (y + 1) % 256 = (y + 1 - 256) % 256 := by omega
          rw [e1, e2, List.replicate_succ, List.flatten_cons, List.append_assoc]
        rw [hn, List.append_assoc, List.append_assoc]
        rfl
      · rw [Nat.min_eq_right (by omega)]
        have hd : (List.replicate (y + 1) 0 ++ r).drop (y + 1) = r := by
          rw [List.drop_append_of_le_length (by simp), List.drop_of_length_le (by simp)]
          rfl
        rw [hd, told_fuel _ (r.length + 1) _ (by simp) (by omega)]
        have hn : noughtBits (y + 1) = bitsLow 4 0 ++ bitsLow 8 (y + 1 - 1) := by
          unfold noughtBits
          have e1 : (y + 1) / 256 = 0 := by omega
          have e2 : (y + 1) % 256 = y + 1 := by omega
          rw [e1, e2, if_pos (by omega)]
          rfl
        rw [hn, List.append_assoc]
        rfl
/-- what's written and what's still to be written are all -/
def ToldTo (all : List Nat) (i : Nat) (bits : List Bool) (z : Nat) : Prop := bits ++ told (List.replicate z 0 ++ all.drop i) = told all
theorem toldTo_start (all : List Nat) : ToldTo all 0 [] 0 := rfl
theorem ToldTo.zero {all : List Nat} {i : Nat} {bits : List Bool} {z : Nat} (h : ToldTo all i bits z) (hi : all[i]? = some 0) : ToldTo all (i + 1) bits (z + 1) := by
  unfold ToldTo at h ⊢
  rw [← h]
  obtain ⟨hlt, e⟩ := List.getElem?_eq_some_iff.mp hi
  rw [List.drop_eq_getElem_cons hlt, e]
  congr 2
  rw [List.replicate_succ', List.append_assoc]
  rfl
theorem ToldTo.one {all : List Nat} {i : Nat} {bits : List Bool} {z n : Nat} (h : ToldTo all i bits z) (hi : all[i]? = some n) (hn : n ≠ 0) : ToldTo all (i + 1) (bits ++ noughtBits z ++ bitsLow 4 n) 0 := by
  unfold ToldTo at h ⊢
  rw [← h]
  obtain ⟨hlt, e⟩ := List.getElem?_eq_some_iff.mp hi
  rw [List.drop_eq_getElem_cons hlt, e, told_zeros (n :: all.drop (i + 1)) (by simpa using hn) z, told_cons hn]
  show bits ++ noughtBits z ++ bitsLow 4 n ++ told (all.drop (i + 1)) = _
  simp only [List.append_assoc]
theorem ToldTo.stop {all : List Nat} {bits : List Bool} {z : Nat} (h : ToldTo all all.length bits z) : bits ++ noughtBits z = told all := by
  unfold ToldTo at h
  rw [List.drop_of_length_le (Nat.le_refl _), told_zeros [] (by simp), told_nil, List.append_nil] at h
  exact h
theorem noughtBits_len (z : Nat) : (noughtBits z).length ≤ 12 * (z / 256) + 12 := by
  unfold noughtBits
  rw [List.length_append, List.length_flatten, List.map_replicate, List.sum_replicate_nat, List.length_append, bitsLow_length, bitsLow_length]
  split
  · rw [List.length_append, bitsLow_length, bitsLow_length]; omega
  · simp
    omega

/-! ### steps -/
def enc : Step → Nat × Nat
  | .letter c => (0, c.toNat)
  | .match_ l d => (l, d)
def dclass (s : Step) : Option Nat := match s with
  | .match_ _ d => some (classOf (d - 1))
  | .letter _ => none
theorem often_eq {t : Bytes} {l : List Step} (hb : t.length ≤ 1024) (h : ∀ s ∈ l, StepIn t s) : often l = tally 265 (l.map symbolOf) := by
  unfold often
  refine count_eq LETTERS _ fun s hs => ?_
  obtain ⟨x, hx, rfl⟩ := List.mem_map.mp hs
  obtain ⟨p, hp⟩ := h x hx
  cases x with
  | letter c =>
    show c.toNat < 265
    have := c.toNat_lt
    omega
  | match_ l d =>
    have h1 : classOf (l - 3) ≤ 8 := class_le (by have := hp.2.1; omega)
    show 256 + classOf (l - 3) < 265
    omega
theorem oftenD_eq {t : Bytes} {l : List Step} (hb : t.length ≤ 1024) (h : ∀ s ∈ l, StepIn t s) : oftenD l = tally 11 (l.filterMap dclass) := by
  unfold oftenD
  refine count_eq DISTANCES _ fun s hs => ?_
  obtain ⟨x, hx, e⟩ := List.mem_filterMap.mp hs
  obtain ⟨p, hp⟩ := h x hx
  cases x with
  | letter c => cases e
  | match_ l d =>
    have h1 : classOf (d - 1) ≤ 10 := class_le (by have := hp; unfold StepOk at this; omega)
    have e2 := Option.some.inj e
    show s < 11
    omega

/-! ### the codewords of symbols -/
def wordOf (ls : List Nat) (s : Nat) : Option (List Bool) := ((codewords ls).find? fun t => t.1 == s).map fun t => bitsHigh t.2.1 t.2.2
theorem codeTable_get (n : Nat) (ls : List Nat) (hn : ls.length ≤ n) (s : Nat) : (codeTable n ls).getD s [] = (wordOf ls s).getD [] := by
  unfold codeTable wordOf
  have hlt : ∀ t ∈ codewords ls, t.1 < n := fun t ht => by
    have h1 : t.1 ∈ byLength ls := by rw [← codewords_syms]; exact List.mem_map_of_mem ht
    have := (byLength_mem.mp h1).1
    omega
  have hne : (codewords ls).Pairwise fun a b => a.1 ≠ b.1 := codewords_rise.imp fun {a b} h => h.2.1
  have key : ∀ (l : List (Nat × Nat × Nat)) (a : Array (List Bool)), a.size = n → (∀ t ∈ l, t.1 < n) → l.Pairwise (fun a b => a.1 ≠ b.1) →
      (l.foldl (fun (a : Array (List Bool)) (q : Nat × Nat × Nat) => a.set! q.1 (bitsHigh q.2.1 q.2.2)) a).getD s [] = ((l.find? fun t => t.1 == s).map fun t => bitsHigh t.2.1 t.2.2).getD (a.getD s []) := by
    intro l
    induction l with
    | nil => intro a _ _ _; rfl
    | cons t l ih =>
      intro a ha hl hp
      have hp' := List.pairwise_cons.mp hp
      rw [List.foldl_cons, ih _ (by simpa using ha) (fun x hx => hl x (List.mem_cons_of_mem _ hx)) hp'.2]
      have htn := hl t List.mem_cons_self
      by_cases e : t.1 = s
      · subst e
        rw [List.find?_cons_of_pos (by simp)]
        have hnone : (l.find? fun x => x.1 == t.1) = none := by
          rw [List.find?_eq_none]
          intro x hx h
          exact hp'.1 x hx (by simpa using h : x.1 = t.1).symm
        rw [hnone]
        show (a.set! t.1 _).getD t.1 [] = _
        simp [ha, htn]
      · rw [List.find?_cons_of_neg (by simpa using e)]
        congr 1
        simp [Array.getElem?_setIfInBounds, e]
  have h := key (codewords ls) (Array.replicate n []) (by simp) hlt hne
  rw [h]
  congr 1
  simp only [Array.getD_eq_getD_getElem?, Array.getElem?_replicate]
  split <;> rfl
theorem wordOf_some {ls : List Nat} {s : Nat} (h1 : 0 < ls.getD s 0) (h2 : ∀ n ∈ ls, n ≤ 15) : ∃ w, wordOf ls s = some w := by
  have hlt : s < ls.length := by
    refine Nat.lt_of_not_le fun h => ?_
    rw [List.getD_eq_getElem?_getD, List.getElem?_eq_none h] at h1
    exact absurd h1 (Nat.lt_irrefl _)
  have hb : ls.getD s 0 ≤ 15 := by
    rw [List.getD_eq_getElem?_getD, List.getElem?_eq_getElem hlt]
    exact h2 _ (List.getElem_mem hlt)
  have hm : s ∈ byLength ls := byLength_mem.mpr ⟨hlt, h1, hb⟩
  rw [← codewords_syms] at hm
  obtain ⟨t, ht, e⟩ := List.mem_map.mp hm
  unfold wordOf
  cases hf : (codewords ls).find? fun t => t.1 == s with
  | none =>
    rw [List.find?_eq_none] at hf
    exact absurd (by simpa using e) (hf t ht)
  | some u => exact ⟨_, rfl⟩
theorem wordOf_len {ls : List Nat} {s : Nat} {w : List Bool} (h : wordOf ls s = some w) : w.length ≤ 15 := by
  unfold wordOf at h
  obtain ⟨t, ht, rfl⟩ := Option.map_eq_some_iff.mp h
  have hm := List.mem_of_find?_eq_some ht
  rw [bitsHigh_length]
  have h1 : (t.2.1, t.1) ∈ lenP ls := by
    have hi := cwRun_inv ls
    rw [codewords_eq] at hm
    have := List.mem_map_of_mem (f := fun t : Nat × Nat × Nat => (t.2.1, t.1)) hm
    rw [hi.all] at this
    exact this
  exact (lenP_bounds _ h1).2
/-- a step's bits by the words -/
def bitsOf (c d : List Nat) : Step → List Bool
  | .letter x => (wordOf c x.toNat).getD []
  | .match_ l k => (wordOf c (256 + classOf (l - 3))).getD [] ++ (bitsLow (further (l - 3)) (l - 3) ++ ((wordOf d (classOf (k - 1))).getD [] ++ bitsLow (further (k - 1)) (k - 1)))
theorem stepBits_eq {c d : List Nat} (hc : c.length ≤ 265) (hd : d.length ≤ 11) (s : Step) : stepBits (codeTable LETTERS c) (codeTable DISTANCES d) s = bitsOf c d s := by
  cases s with
  | letter x => exact codeTable_get 265 c hc _
  | match_ l k =>
    show (codeTable LETTERS c).getD _ [] ++ (_ ++ ((codeTable DISTANCES d).getD _ [] ++ _)) = _
    rw [codeTable_get LETTERS c hc, codeTable_get DISTANCES d hd]
    rfl
/-- a block's bits -/
def blockBits (t : Bytes) : List Bool :=
  let l := SwSqueeze.parse t
  let c := lengths (often l)
  let d := lengths (oftenD l)
  bitsLow 10 (t.length - 1) ++ told (c ++ d) ++ l.flatMap (bitsOf c d)
theorem coded_eq {t : Bytes} (hb : t.length ≤ 1024) : coded t.length (SwSqueeze.parse t) = (bytesN (blockBits t) (((blockBits t).length + 7) / 8)).map UInt8.ofNat := by
  have hs := (parse_goes t).each
  have h1 := often_eq hb hs
  have h2 := oftenD_eq hb hs
  have hc : (lengths (often (SwSqueeze.parse t))).length = 265 := by rw [lengths_length, h1, tally_length]
  have hd : (lengths (oftenD (SwSqueeze.parse t))).length = 11 := by rw [lengths_length, h2, tally_length]
  have e : blockBits t = bitsLow 10 (t.length - 1) ++ (toldLengths (LETTERS + DISTANCES + 1) (lengths (often (SwSqueeze.parse t)) ++ lengths (oftenD (SwSqueeze.parse t))) ++ (SwSqueeze.parse t).flatMap (stepBits (codeTable LETTERS (lengths (often (SwSqueeze.parse t)))) (codeTable DISTANCES (lengths (oftenD (SwSqueeze.parse t)))))) := by
    unfold blockBits told
    rw [List.append_assoc, List.length_append, hc, hd]
    congr 2
    have : stepBits (codeTable LETTERS (lengths (often (SwSqueeze.parse t)))) (codeTable DISTANCES (lengths (oftenD (SwSqueeze.parse t)))) = bitsOf (lengths (often (SwSqueeze.parse t))) (lengths (oftenD (SwSqueeze.parse t))) := by
      funext s
      exact stepBits_eq (by omega) (by omega) s
    rw [this]
  rw [e, ← toBytes_eq _ _ (Nat.lt_succ_self _)]
  rfl
theorem toBytes_toNat (l : List Bool) (N : Nat) : ((bytesN l N).map UInt8.ofNat).map UInt8.toNat = bytesN l N := by
  rw [List.map_map]
  conv => rhs; rw [← List.map_id (bytesN l N)]
  apply List.map_congr_left
  intro x hx
  unfold bytesN at hx
  obtain ⟨j, _, rfl⟩ := List.mem_map.mp hx
  have := numLow_lt ((l.drop (8 * j)).take 8)
  have h8 : ((l.drop (8 * j)).take 8).length ≤ 8 := List.length_take_le _ _
  have h9 : 2 ^ ((l.drop (8 * j)).take 8).length ≤ 2 ^ 8 := Nat.pow_le_pow_right (by decide) h8
  show (UInt8.ofNat _).toNat = _
  exact toNat_ofNat_lt (by omega)

/-! ### blocks -/
theorem blockOf_eq (t : Bytes) : blockOf t = if (coded t.length (SwSqueeze.parse t)).length < t.length then le 4 ((coded t.length (SwSqueeze.parse t)).length + 1) ++ [1] ++ coded t.length (SwSqueeze.parse t) else le 4 (t.length + 1) ++ [0] ++ t := by
  unfold blockOf
  simp only
  split
  · rw [List.length_cons, List.append_assoc]; rfl
  · rw [List.length_cons, List.append_assoc]; rfl
theorem blockOf_len (t : Bytes) : (blockOf t).length ≤ t.length + 5 := by
  rw [blockOf_eq]
  split
  · rw [List.length_append, List.length_append, le_length, List.length_singleton]; omega
  · rw [List.length_append, List.length_append, le_length, List.length_singleton]; omega
theorem chunks_eq (k : Nat) (hk : 0 < k) : ∀ (n : Nat) (b : Bytes), b.length < n → chunks k n b = (List.range ((b.length + k - 1) / k)).map fun j => part b (k * j) k
  | 0, _, h => by omega
  | n + 1, [], _ => by
    show [] = _
    have : (([] : Bytes).length + k - 1) / k = 0 := by
      rw [List.length_nil, Nat.zero_add]
      exact Nat.div_eq_of_lt (by omega)
    rw [this]
    rfl
  | n + 1, a :: b, h => by
    show (a :: b).take k :: chunks k n ((a :: b).drop k) = _
    rw [chunks_eq k hk n _ (by rw [List.length_drop, List.length_cons]; rw [List.length_cons] at h; omega)]
    have hl : ((a :: b).length + k - 1) / k = (((a :: b).drop k).length + k - 1) / k + 1 := by
      rw [List.length_drop]
      by_cases hlt : (a :: b).length < k
      · rw [show (a :: b).length - k + k - 1 = k - 1 by omega, Nat.div_eq_of_lt (by omega : k - 1 < k)]
        rw [List.length_cons] at hlt ⊢
        rw [show b.length + 1 + k - 1 = b.length + k by omega, Nat.add_div_right _ hk, Nat.div_eq_of_lt (by omega)]
      · rw [show (a :: b).length - k + k - 1 = (a :: b).length - 1 by omega, show (a :: b).length + k - 1 = (a :: b).length - 1 + k by rw [List.length_cons]; omega, Nat.add_div_right _ hk]
    rw [hl, List.range_succ_eq_map, List.map_cons, List.map_map]
    congr 1
    apply List.map_congr_left
    intro j _
    simp only [Function.comp]
    unfold part
    rw [List.drop_drop]
    congr 2
    rw [Nat.mul_succ, Nat.add_comm]
def nBlocks (n : Nat) : Nat := (n + 1023) / 1024
theorem packed_eq (t : Bytes) : packed t = ascii "SWZ1" ++ ((List.range (nBlocks t.length)).flatMap fun j => blockOf (part t (1024 * j) 1024)) ++ (le 4 0 ++ le 8 t.length) := by
  unfold packed pieces cut
  rw [chunks_eq BLOCK (by decide) _ _ (Nat.lt_succ_self _), List.flatMap_map, List.append_assoc]
  rfl
theorem part_len_le (b : Bytes) (i n : Nat) : (part b i n).length ≤ n := List.length_take_le _ _
theorem flatMap_len_le {α β : Type} (f : α → List β) (k : Nat) : ∀ (l : List α), (∀ x ∈ l, (f x).length ≤ k) → (l.flatMap f).length ≤ l.length * k
  | [], _ => by simp
  | a :: l, h => by
    rw [List.flatMap_cons, List.length_append, List.length_cons, Nat.succ_mul]
    have := h a List.mem_cons_self
    have := flatMap_len_le f k l fun x hx => h x (List.mem_cons_of_mem _ hx)
    omega

/-! ### feeds -/
open Squeeze (known fed ended mark)
theorem known_le (n : Nat) : 1024 * known n ≤ n := by
  unfold known
  show 1024 * ((n - 1) / 1024) ≤ n
  omega
theorem known_mono {m n : Nat} (h : m ≤ n) : known m ≤ known n := by
  unfold known
  exact Nat.div_le_div_right (by omega)
theorem known_more (m n j : Nat) : 1024 < n - 1024 * known m - 1024 * j ↔ j < known n - known m := by
  have h1 : ∀ n, known n = (n - 1) / 1024 := fun _ => rfl
  rw [h1 n]
  generalize known m = c
  omega
end Gz
end

/-! ## MRows -/
section
set_option linter.all false
namespace Gz
open Sw SwSqueeze

/-! ### the blocks of a row -/
def overall (b : Bytes) (look : Nat → Nat → Bool) : Except Fault (List Block × Nat) := blocksAt b look (b.length + 1) 4 0 none
def addTo (done : List Block) (r : Except Fault (List Block × Nat)) : Except Fault (List Block × Nat) := r.map fun y => (done ++ y.1, y.2)
/-- a block that's read: its size is its text's length, if it's looked into -/
structure BlkOk (look : Nat → Nat → Bool) (q : Block) : Prop where
  pos : 1 ≤ q.size
  top : q.size ≤ 1024
  len : look q.from_ q.size = true → q.text.length = q.size
def Cont (look : Nat → Nat → Bool) : Nat → List Block → Nat → Prop
  | t0, [], t => t0 = t
  | t0, q :: l, t => q.from_ = t0 ∧ BlkOk look q ∧ Cont look (t0 + q.size) l t
theorem cont_snoc {look : Nat → Nat → Bool} : ∀ {l : List Block} {t0 t : Nat} {q : Block}, Cont look t0 l t → q.from_ = t → BlkOk look q → Cont look t0 (l ++ [q]) (t + q.size)
  | [], t0, t, q, h, e, k => by
    have h : t0 = t := h
    subst h
    exact ⟨e, k, rfl⟩
  | a :: l, t0, t, q, h, e, k => ⟨h.1, h.2.1, cont_snoc h.2.2 e k⟩
theorem cont_le {look : Nat → Nat → Bool} : ∀ {l : List Block} {t0 t : Nat}, Cont look t0 l t → t0 ≤ t
  | [], _, _, h => Nat.le_of_eq h
  | a :: l, _, _, h => Nat.le_trans (Nat.le_add_right _ _) (cont_le h.2.2)
theorem cont_mem {look : Nat → Nat → Bool} : ∀ {l : List Block} {t0 t : Nat} {q : Block}, Cont look t0 l t → q ∈ l → t0 ≤ q.from_ ∧ q.from_ + q.size ≤ t ∧ BlkOk look q
  | [], _, _, _, _, h => by cases h
  | a :: l, t0, t, q, h, hq => by
    rcases List.mem_cons.mp hq with rfl | hq
    · have := cont_le h.2.2
      have := h.1
      exact ⟨by omega, by omega, h.2.1⟩
    · have := cont_mem h.2.2 hq
      exact ⟨by omega, this.2.1, this.2.2⟩
/-- what's walked and what's still to be walked are all -/
structure RowTo (b : Bytes) (look : Nat → Nat → Bool) (p t : Nat) (last : Option Block) (done : List Block) : Prop where
  run : ∃ f, b.length + 5 ≤ f + p ∧ overall b look = addTo done (blocksAt b look f p t last)
  le : p ≤ b.length
  big : t ≤ 1024 * (p - 4)
  cont : Cont look 0 done t
theorem rowTo_start {b : Bytes} {look : Nat → Nat → Bool} (h : 4 ≤ b.length) : RowTo b look 4 0 none [] :=
  ⟨⟨b.length + 1, Nat.le_refl _, by unfold overall addTo; cases blocksAt b look (b.length + 1) 4 0 none <;> rfl⟩, h, Nat.zero_le _, rfl⟩
/-- the odd kind's place of the block before -/
def OddIs (last : Option Block) (odd : Nat) : Prop := match last with
  | none => odd = 0
  | some q => if q.size = 1024 then odd = 0 else odd = q.place ∧ 0 < odd
def cnt (b : Bytes) (p : Nat) : Nat := ofLe (part b p 4)
section
variable {b : Bytes} {look : Nat → Nat → Bool} {p t : Nat} {last : Option Block} {done : List Block}
theorem blocksAt_short (f : Nat) (h : b.length < p + 4) : blocksAt b look (f + 1) p t last = .error ⟨1, b.length⟩ := by
  rw [blocksAt, if_pos h]
theorem blocksAt_end (f : Nat) (h : ¬ b.length < p + 4) (h0 : cnt b p = 0) : blocksAt b look (f + 1) p t last =
    (if b.length < p + 12 then .error ⟨1, b.length⟩ else if ofLe (part b (p + 4) 8) ≠ t then .error ⟨3, p + 4⟩ else if p + 12 < b.length then .error ⟨4, p + 12⟩ else .ok ([], t)) := by
  rw [blocksAt, if_neg h]
  unfold cnt at h0
  simp only [h0]
  rw [if_pos trivial]
theorem blocksAt_odd (f : Nat) (h : ¬ b.length < p + 4) (h0 : cnt b p ≠ 0) {odd : Nat} (ho : OddIs last odd) (hp : 0 < odd) : blocksAt b look (f + 1) p t last = .error ⟨3, odd⟩ := by
  rw [blocksAt, if_neg h]
  unfold cnt at h0
  simp only
  rw [if_neg h0]
  cases last with
  | none =>
    have : odd = 0 := ho
    omega
  | some q =>
    simp only
    unfold OddIs at ho
    simp only at ho
    split at ho
    · omega
    · rename_i hs
      have hs' : q.size ≠ BLOCK := hs
      rw [if_pos hs', ho.1]
theorem blocksAt_body (f : Nat) (h : ¬ b.length < p + 4) (h0 : cnt b p ≠ 0) (ho : OddIs last 0) : blocksAt b look (f + 1) p t last = blocksAt.body b look f p t (cnt b p) := by
  rw [blocksAt, if_neg h]
  unfold cnt at h0
  simp only
  rw [if_neg h0]
  cases last with
  | none => rfl
  | some q =>
    simp only
    unfold OddIs at ho
    simp only at ho
    split at ho
    · rename_i hs
      have hs' : ¬ (q.size ≠ BLOCK) := fun h => h hs
      rw [if_neg hs']
      rfl
    · omega
/-- a block's size by its first bits -/
def sizeAt (b : Bytes) (p n : Nat) : Nat := if (b.getD (p + 4) 0).toNat = 0 then n - 1 else ofLe ((part b (p + 5) (n - 1)).take 2) % 1024 + 1
def blkAt (b : Bytes) (p t n : Nat) : Block := ⟨(b.getD (p + 4) 0).toNat, p + 4, t, sizeAt b p n, part b (p + 5) (n - 1)⟩
theorem body_eq (f n : Nat) : blocksAt.body b look f p t n =
    if n = 1 ∨ 1025 < n then .error ⟨3, p⟩
    else if b.length < p + 4 + n then .error ⟨1, b.length⟩
    else if 1 < (b.getD (p + 4) 0).toNat then .error ⟨2, p + 4⟩
    else if (b.getD (p + 4) 0).toNat = 1 ∧ (n < 3 ∨ (look t (sizeAt b p n) = true ∧ (readCoded (part b (p + 5) (n - 1))).isNone = true)) then .error ⟨5, p + 4⟩
    else addTo [blkAt b p t n] (blocksAt b look f (p + 4 + n) (t + sizeAt b p n) (some (blkAt b p t n))) := by
  rw [blocksAt.body]
  rfl
theorem RowTo.fuel (h : RowTo b look p t last done) : ∃ f, b.length + 4 ≤ f + p ∧ overall b look = addTo done (blocksAt b look (f + 1) p t last) := by
  obtain ⟨f, h1, h2⟩ := h.run
  have := h.le
  obtain ⟨g, rfl⟩ : ∃ g, f = g + 1 := ⟨f - 1, by omega⟩
  exact ⟨g, by omega, h2⟩
theorem RowTo.short (h : RowTo b look p t last done) (hs : b.length < p + 4) : overall b look = .error ⟨1, b.length⟩ := by
  obtain ⟨f, _, e⟩ := h.fuel
  rw [e, blocksAt_short f hs]
  rfl
theorem RowTo.stop (h : RowTo b look p t last done) (hs : ¬ b.length < p + 4) (h0 : cnt b p = 0) : overall b look =
    (if b.length < p + 12 then .error ⟨1, b.length⟩ else if ofLe (part b (p + 4) 8) ≠ t then .error ⟨3, p + 4⟩ else if p + 12 < b.length then .error ⟨4, p + 12⟩ else .ok (done, t)) := by
  obtain ⟨f, _, e⟩ := h.fuel
  rw [e, blocksAt_end f hs h0]
  split
  · rfl
  · split
    · rfl
    · split
      · rfl
      · show Except.ok (done ++ [], t) = _
        rw [List.append_nil]
theorem RowTo.odd (h : RowTo b look p t last done) (hs : ¬ b.length < p + 4) (h0 : cnt b p ≠ 0) {odd : Nat} (ho : OddIs last odd) (hp : 0 < odd) : overall b look = .error ⟨3, odd⟩ := by
  obtain ⟨f, _, e⟩ := h.fuel
  rw [e, blocksAt_odd f hs h0 ho hp]
  rfl
theorem RowTo.bad (h : RowTo b look p t last done) (hs : ¬ b.length < p + 4) (h0 : cnt b p ≠ 0) (ho : OddIs last 0) (hb : cnt b p = 1 ∨ 1025 < cnt b p) : overall b look = .error ⟨3, p⟩ := by
  obtain ⟨f, _, e⟩ := h.fuel
  rw [e, blocksAt_body f hs h0 ho, body_eq, if_pos hb]
  rfl
section
variable (h : RowTo b look p t last done) (hs : ¬ b.length < p + 4) (h0 : cnt b p ≠ 0) (ho : OddIs last 0) (hb : ¬ (cnt b p = 1 ∨ 1025 < cnt b p))
include h hs h0 ho hb
theorem RowTo.cut (hl : b.length < p + 4 + cnt b p) : overall b look = .error ⟨1, b.length⟩ := by
  obtain ⟨f, _, e⟩ := h.fuel
  rw [e, blocksAt_body f hs h0 ho, body_eq, if_neg hb, if_pos hl]
  rfl
theorem RowTo.kind (hl : ¬ b.length < p + 4 + cnt b p) (hk : 1 < (b.getD (p + 4) 0).toNat) : overall b look = .error ⟨2, p + 4⟩ := by
  obtain ⟨f, _, e⟩ := h.fuel
  rw [e, blocksAt_body f hs h0 ho, body_eq, if_neg hb, if_neg hl, if_pos hk]
  rfl
theorem RowTo.coded (hl : ¬ b.length < p + 4 + cnt b p) (hk : (b.getD (p + 4) 0).toNat = 1) (hc : cnt b p < 3 ∨ (look t (sizeAt b p (cnt b p)) = true ∧ (readCoded (part b (p + 5) (cnt b p - 1))).isNone = true)) : overall b look = .error ⟨5, p + 4⟩ := by
  obtain ⟨f, _, e⟩ := h.fuel
  rw [e, blocksAt_body f hs h0 ho, body_eq, if_neg hb, if_neg hl, if_neg (by omega), if_pos ⟨hk, hc⟩]
  rfl
end
/-! the lowest bits of bytes -/
theorem numLow_toBits : ∀ b : Bytes, numLow (toBits b) = ofLe b := by
  intro b
  induction b using list_snoc_ind with
  | h0 => rfl
  | hs b c ih =>
    have e : toBits (b ++ [c]) = toBits b ++ bitsLow 8 c.toNat := by
      unfold toBits
      rw [List.flatMap_append]
      simp
    have key : ∀ (k : Nat) (l : List Bool), numLow (l ++ bitsLow k c.toNat) = numLow l + (c.toNat % 2 ^ k) * 2 ^ l.length := by
      intro k
      induction k with
      | zero => intro l; show numLow (l ++ []) = _; rw [List.append_nil, Nat.pow_zero, Nat.mod_one, Nat.zero_mul, Nat.add_zero]
      | succ k ihk =>
        intro l
        rw [bitsLow_more, ← List.append_assoc, numLow_append, ihk, List.length_append, bitsLow_length, bit_testBit, Nat.pow_succ, Nat.mod_mul (a := 2 ^ k) (b := 2), Nat.add_mul, Nat.pow_add]
        rw [Nat.add_assoc]
        congr 2
        rw [Nat.mul_comm (2 ^ l.length), ← Nat.mul_assoc]
        congr 1
        exact Nat.mul_comm _ _
    rw [e, key 8, ih, toBits_length, ofLe_append, Nat.pow_mul, Nat.mod_eq_of_lt (by have := c.toNat_lt; omega)]
theorem numLow_take : ∀ (l : List Bool) (k : Nat), numLow (l.take k) = numLow l % 2 ^ k := by
  intro l
  induction l using list_snoc_ind with
  | h0 => intro k; simp [numLow_nil]
  | hs l b ih =>
    intro k
    by_cases h : k ≤ l.length
    · rw [List.take_append_of_le_length h, ih, numLow_append, show 2 ^ l.length = 2 ^ k * 2 ^ (l.length - k) by rw [← Nat.pow_add]; congr 1; omega, Nat.mul_left_comm, Nat.add_mul_mod_self_left]
    · rw [List.take_of_length_le (by rw [List.length_append, List.length_singleton]; omega), Nat.mod_eq_of_lt]
      refine Nat.lt_of_lt_of_le (numLow_lt _) (Nat.pow_le_pow_right (by decide) ?_)
      rw [List.length_append, List.length_singleton]
      omega
theorem coded_size {z tx : Bytes} (h : readCoded z = some tx) : tx.length = ofLe (z.take 2) % 1024 + 1 := by
  obtain ⟨x, l, h1, h2⟩ := readCoded_size h
  have h3 := takeBits_lt h1
  rw [h2, h3.2.2.2]
  congr 1
  have : (toBits z).take 10 = (toBits (z.take 2)).take 10 := by
    rw [toBits_take, List.take_take]
    rfl
  rw [this, numLow_take, numLow_toBits]
theorem RowTo.next (h : RowTo b look p t last done) (hs : ¬ b.length < p + 4) (h0 : cnt b p ≠ 0) (ho : OddIs last 0) (hb : ¬ (cnt b p = 1 ∨ 1025 < cnt b p)) (hl : ¬ b.length < p + 4 + cnt b p) (hk : ¬ 1 < (b.getD (p + 4) 0).toNat)
    (hc : ¬ ((b.getD (p + 4) 0).toNat = 1 ∧ (cnt b p < 3 ∨ (look t (sizeAt b p (cnt b p)) = true ∧ (readCoded (part b (p + 5) (cnt b p - 1))).isNone = true)))) :
    RowTo b look (p + 4 + cnt b p) (t + sizeAt b p (cnt b p)) (some (blkAt b p t (cnt b p))) (done ++ [blkAt b p t (cnt b p)]) := by
  obtain ⟨f, hf, e⟩ := h.fuel
  have hsz : 1 ≤ sizeAt b p (cnt b p) ∧ sizeAt b p (cnt b p) ≤ 1024 := by
    unfold sizeAt
    split
    · omega
    · omega
  refine ⟨⟨f, by omega, ?_⟩, by omega, ?_, cont_snoc h.cont rfl ⟨hsz.1, hsz.2, fun hlook => ?_⟩⟩
  · rw [e, blocksAt_body f hs h0 ho, body_eq, if_neg hb, if_neg hl, if_neg hk, if_neg hc]
    unfold addTo
    cases blocksAt b look f (p + 4 + cnt b p) (t + sizeAt b p (cnt b p)) (some (blkAt b p t (cnt b p))) with
    | error e => rfl
    | ok y =>
      show Except.ok (done ++ ([_] ++ y.1), y.2) = Except.ok ((done ++ [_]) ++ y.1, y.2)
      rw [List.append_assoc]
  · have := h.big
    omega
  · show (Block.text (blkAt b p t (cnt b p))).length = sizeAt b p (cnt b p)
    unfold Block.text sizeAt blkAt
    simp only
    by_cases hk0 : (b.getD (p + 4) 0).toNat = 0
    · rw [if_pos hk0, if_pos hk0, part_length (by omega)]
    · rw [if_neg hk0, if_neg hk0]
      have hk1 : (b.getD (p + 4) 0).toNat = 1 := by omega
      cases hr : readCoded (part b (p + 5) (cnt b p - 1)) with
      | none =>
        refine absurd ⟨hk1, .inr ⟨?_, by rw [hr]; rfl⟩⟩ hc
        exact hlook
      | some tx => exact coded_size hr
end

/-! ### the bytes at the places from low on, below high -/
def slice (low high : Nat) (q : Block) : Bytes := part q.text (low - q.from_) (min (high - q.from_) q.text.length - (low - q.from_))
def lookAt (low high t k : Nat) : Bool := decide (max t low < min (t + k) high)
def coll (low high : Nat) (l : List Block) : Bytes := l.flatMap fun q => if lookAt low high q.from_ q.size = true then slice low high q else []
theorem coll_snoc (low high : Nat) (l : List Block) (q : Block) : coll low high (l ++ [q]) = coll low high l ++ (if lookAt low high q.from_ q.size = true then slice low high q else []) := by
  unfold coll
  rw [List.flatMap_append]
  simp
theorem textOf_cons (q : Block) (l : List Block) : Squeeze.textOf (q :: l) = q.text ++ Squeeze.textOf l := rfl
theorem look_true {low high t k : Nat} : lookAt low high t k = true ↔ t < t + k ∧ t < high ∧ low < t + k ∧ low < high := by
  unfold lookAt
  rw [decide_eq_true_eq, Nat.max_lt, Nat.lt_min, Nat.lt_min]
  omega
/-- from a place at or behind low on -/
theorem coll_from {low high : Nat} : ∀ {l : List Block} {t0 t : Nat}, Cont (lookAt low high) t0 l t → low ≤ t0 → high ≤ t → low < high → coll low high l = (Squeeze.textOf (l.filter fun q => lookAt low high q.from_ q.size)).take (high - t0)
  | [], _, _, _, _, _, _ => by simp [coll, Squeeze.textOf]
  | q :: l, t0, t, h, hlo, hhi, hlt => by
    have ih := coll_from (l := l) h.2.2 (by omega) hhi hlt
    have e : coll low high (q :: l) = (if lookAt low high q.from_ q.size = true then slice low high q else []) ++ coll low high l := rfl
    rw [e, ih, List.filter_cons]
    have hp := h.2.1.pos
    have hf := h.1
    by_cases hk : lookAt low high q.from_ q.size = true
    · rw [if_pos hk, if_pos hk, textOf_cons, List.take_append]
      have hlen := h.2.1.len hk
      congr 1
      · unfold slice part
        rw [hf, show low - t0 = 0 by omega, List.drop_zero, Nat.sub_zero, hlen]
        rw [List.take_eq_take_iff]
        omega
      · rw [hlen]
        congr 1
        omega
    · rw [if_neg hk, if_neg hk, List.nil_append]
      have hge : high ≤ t0 := by
        refine Nat.le_of_not_lt fun h2 => hk (look_true.mpr ?_)
        omega
      rw [show high - (t0 + q.size) = 0 by omega, show high - t0 = 0 by omega, List.take_zero]
/-- from a place ahead of low on -/
theorem coll_at {low high : Nat} : ∀ {l : List Block} {t0 t : Nat}, Cont (lookAt low high) t0 l t → t0 ≤ low → high ≤ t → low ≤ high →
    coll low high l = match l.filter fun q => lookAt low high q.from_ q.size with
      | [] => []
      | q :: _ => part (Squeeze.textOf (l.filter fun q => lookAt low high q.from_ q.size)) (low - q.from_) (high - low)
  | [], _, _, _, _, _, _ => rfl
  | q :: l, t0, t, h, hlo, hhi, hle => by
    have e : coll low high (q :: l) = (if lookAt low high q.from_ q.size = true then slice low high q else []) ++ coll low high l := rfl
    rw [e, List.filter_cons]
    have hp := h.2.1.pos
    have hf := h.1
    by_cases hk : lookAt low high q.from_ q.size = true
    · rw [if_pos hk, if_pos hk]
      have hkk := look_true.mp hk
      have hlen := h.2.1.len hk
      rw [coll_from h.2.2 (by omega) hhi (by omega)]
      simp only
      rw [textOf_cons]
      unfold slice part
      rw [hf, hlen, List.drop_append_of_le_length (by rw [hlen]; omega), List.take_append, List.length_drop, hlen]
      congr 1
      · rw [List.take_eq_take_iff, List.length_drop, hlen]
        omega
      · congr 1
        omega
    · rw [if_neg hk, if_neg hk, List.nil_append]
      by_cases h2 : t0 + q.size ≤ low
      · exact coll_at h.2.2 h2 hhi hle
      · -- low = high
        have hEq : low = high := by
          have := mt look_true.mpr hk
          omega
        have hnone : ∀ x : Block, lookAt low high x.from_ x.size = false := fun x => by
          refine Bool.eq_false_iff.mpr fun h3 => ?_
          have := look_true.mp h3
          omega
        have hfil : l.filter (fun q => lookAt low high q.from_ q.size) = [] := by
          rw [List.filter_eq_nil_iff]
          intro x _ h3
          rw [hnone x] at h3
          cases h3
        rw [hfil]
        unfold coll
        rw [List.flatMap_eq_nil_iff]
        intro x _
        rw [hnone x]
        rfl
/-- a high behind the end is the end -/
theorem coll_high {low high t : Nat} {l : List Block} {t0 : Nat} {look : Nat → Nat → Bool} (h : Cont look t0 l t) (hk : ∀ q ∈ l, lookAt low high q.from_ q.size = true → q.text.length = q.size) (hh : t ≤ high) : coll low high l = coll low t l := by
  unfold coll
  have : ∀ q ∈ l, (if lookAt low high q.from_ q.size = true then slice low high q else []) = (if lookAt low t q.from_ q.size = true then slice low t q else []) := by
    intro q hq
    obtain ⟨h1, h2, h3⟩ := cont_mem h hq
    have e : lookAt low high q.from_ q.size = lookAt low t q.from_ q.size := by
      rw [Bool.eq_iff_iff, look_true, look_true]
      have := h3.pos
      omega
    rw [e]
    by_cases hl : lookAt low t q.from_ q.size = true
    · rw [if_pos hl, if_pos hl]
      have hlen := hk q hq (by rw [e]; exact hl)
      unfold slice
      rw [hlen, show min (high - q.from_) q.size = min (t - q.from_) q.size by omega]
    · rw [if_neg hl, if_neg hl]
  induction l generalizing t0 with
  | nil => rfl
  | cons q l ih =>
    rw [List.flatMap_cons, List.flatMap_cons, this q List.mem_cons_self, ih h.2.2 (fun x hx => hk x (List.mem_cons_of_mem _ hx)) fun x hx => this x (List.mem_cons_of_mem _ hx)]
theorem cont_look {look look' : Nat → Nat → Bool} : ∀ {l : List Block} {t0 t : Nat}, Cont look t0 l t → (∀ q ∈ l, look' q.from_ q.size = true → look q.from_ q.size = true) → Cont look' t0 l t
  | [], _, _, h, _ => h
  | q :: l, _, _, h, hl => ⟨h.1, ⟨h.2.1.pos, h.2.1.top, fun hq => h.2.1.len (hl q List.mem_cons_self hq)⟩, cont_look h.2.2 fun x hx => hl x (List.mem_cons_of_mem _ hx)⟩
/-- what at answers -/
theorem at_eq {l : List Block} {t f n : Nat} (h : Cont (lookAt f (f + n)) 0 l t) (hf : f ≤ t) : (match l.filter fun (q : Block) => decide (max q.from_ f < min (q.from_ + q.size) (f + min n (t - f))) with
      | [] => []
      | q :: _ => part (Squeeze.textOf (l.filter fun (q : Block) => decide (max q.from_ f < min (q.from_ + q.size) (f + min n (t - f))))) (f - q.from_) (min n (t - f))) = coll f (f + n) l := by
  have hlen : ∀ q ∈ l, lookAt f (f + n) q.from_ q.size = true → q.text.length = q.size := fun q hq => (cont_mem h hq).2.2.len
  by_cases hb : f + n ≤ t
  · rw [Nat.min_eq_left (by omega : n ≤ t - f)]
    have := coll_at h (Nat.zero_le _) hb (by omega)
    rw [this, show f + n - f = n by omega]
    rfl
  · rw [Nat.min_eq_right (by omega : t - f ≤ n), coll_high h hlen (by omega)]
    have h' : Cont (lookAt f t) 0 l t := cont_look h fun q hq hl => by
      have h1 := look_true.mp hl
      exact look_true.mpr (by omega)
    have := coll_at h' (Nat.zero_le _) (Nat.le_refl _) hf
    rw [this, show f + (t - f) = t by omega]
    rfl
theorem coll_all {l : List Block} {t high : Nat} (h : Cont (lookAt 0 high) 0 l t) (hh : t < high) : coll 0 high l = Squeeze.textOf l := by
  have hlen : ∀ q ∈ l, lookAt 0 high q.from_ q.size = true → q.text.length = q.size := fun q hq => (cont_mem h hq).2.2.len
  unfold coll Squeeze.textOf
  have : ∀ q ∈ l, (if lookAt 0 high q.from_ q.size = true then slice 0 high q else []) = q.text := by
    intro q hq
    obtain ⟨h1, h2, h3⟩ := cont_mem h hq
    have hl : lookAt 0 high q.from_ q.size = true := look_true.mpr (by have := h3.pos; omega)
    rw [if_pos hl]
    unfold slice part
    rw [hlen q hq hl, Nat.zero_sub, List.drop_zero, Nat.sub_zero, List.take_of_length_le (by rw [hlen q hq hl]; omega)]
  induction l generalizing t with
  | nil => rfl
  | cons q l ih =>
    have key : ∀ m : List Block, (∀ q ∈ m, (if lookAt 0 high q.from_ q.size = true then slice 0 high q else []) = q.text) → (m.flatMap fun q => if lookAt 0 high q.from_ q.size = true then slice 0 high q else []) = m.flatMap Block.text := by
      intro m
      induction m with
      | nil => intro _; rfl
      | cons a m ihm =>
        intro hm
        rw [List.flatMap_cons, List.flatMap_cons, hm a List.mem_cons_self, ihm fun x hx => hm x (List.mem_cons_of_mem _ hx)]
    exact key _ this

/-! ### looks that are alike -/
theorem blocksAt_look {b : Bytes} {look look' : Nat → Nat → Bool} (hl : ∀ t k, t < 1024 * b.length → 1 ≤ k → look t k = look' t k) : ∀ (f p t : Nat) (last : Option Block), 4 ≤ p → t ≤ 1024 * (p - 4) → blocksAt b look f p t last = blocksAt b look' f p t last := by
  intro f
  induction f with
  | zero => intro p t last _ _; rw [blocksAt, blocksAt]
  | succ f ih =>
    intro p t last hp ht
    by_cases h : b.length < p + 4
    · rw [blocksAt_short f h, blocksAt_short f h]
    · by_cases h0 : cnt b p = 0
      · rw [blocksAt_end f h h0, blocksAt_end f h h0]
      · have hbody : blocksAt.body b look f p t (cnt b p) = blocksAt.body b look' f p t (cnt b p) := by
          rw [body_eq, body_eq]
          by_cases h1 : cnt b p = 1 ∨ 1025 < cnt b p
          · rw [if_pos h1, if_pos h1]
          · rw [if_neg h1, if_neg h1]
            by_cases h2 : b.length < p + 4 + cnt b p
            · rw [if_pos h2, if_pos h2]
            · rw [if_neg h2, if_neg h2]
              have hsz : 1 ≤ sizeAt b p (cnt b p) ∧ sizeAt b p (cnt b p) ≤ 1024 := by
                unfold sizeAt
                split
                · omega
                · omega
              rw [hl t (sizeAt b p (cnt b p)) (by omega) hsz.1, ih (p + 4 + cnt b p) (t + sizeAt b p (cnt b p)) _ (by omega) (by omega)]
        by_cases ho : ∃ odd, OddIs last odd ∧ 0 < odd
        · obtain ⟨odd, h1, h2⟩ := ho
          rw [blocksAt_odd f h h0 h1 h2, blocksAt_odd f h h0 h1 h2]
        · have hz : OddIs last 0 ∨ ∃ q, last = some q ∧ q.size ≠ BLOCK := by
            cases last with
            | none => exact .inl rfl
            | some q =>
              by_cases hq : q.size = BLOCK
              · have hq' : q.size = 1024 := hq
                exact .inl (by unfold OddIs; simp only; rw [if_pos hq']; trivial)
              · exact .inr ⟨q, rfl, hq⟩
          rcases hz with hz | ⟨q, rfl, hq⟩
          · rw [blocksAt_body f h h0 hz, blocksAt_body f h h0 hz, hbody]
          · rw [blocksAt, blocksAt]
            rw [if_neg h]
            unfold cnt at h0
            simp only
            rw [if_neg h0, if_pos hq]
            rw [if_neg h, if_neg h0, if_pos hq]
theorem overall_look {b : Bytes} {look look' : Nat → Nat → Bool} (hl : ∀ t k, t < 1024 * b.length → 1 ≤ k → look t k = look' t k) : overall b look = overall b look' :=
  blocksAt_look hl _ 4 0 none (Nat.le_refl _) (Nat.zero_le _)
theorem overall_all {b : Bytes} : overall b (lookAt 0 (1024 * b.length)) = overall b (fun _ _ => true) :=
  overall_look fun t k ht hk => look_true.mpr (by omega)
theorem overall_none {b : Bytes} : overall b (lookAt 0 0) = overall b (fun _ _ => false) :=
  overall_look fun t k _ _ => by
    refine Bool.eq_false_iff.mpr fun h => ?_
    have := look_true.mp h
    omega

/-! ### the beginning -/
theorem read_eq (b : Bytes) (look : Nat → Nat → Bool) : SwSqueeze.read b look = match must 0 [83, 87, 90, 49] b with
  | some e => .error e
  | none => overall b look := rfl
end Gz
end

/-! ## MCalls -/
section
set_option linter.all false
namespace Gz
open Sw

/-! ### bytes as whole numbers -/
def zb (l : Bytes) : List Int := l.map fun c => (c.toNat : Int)
def zn (l : List Nat) : List Int := l.map fun (n : Nat) => (n : Int)
theorem text_zb : ∀ {l : List Int}, (∀ z ∈ l, 0 ≤ z ∧ z < 256) → zb (SqueezeNeutral.text l) = l
  | [], _ => rfl
  | a :: l, h => by
    have ih := text_zb (l := l) fun z hz => h z (List.mem_cons_of_mem _ hz)
    have ha := h a List.mem_cons_self
    show ((UInt8.ofNat a.toNat).toNat : Int) :: zb (SqueezeNeutral.text l) = _
    rw [ih, toNat_ofNat_lt (by omega)]
    congr 1
    omega
theorem nats_zn : ∀ {l : List Int}, (∀ z ∈ l, 0 ≤ z) → zn (SqueezeNeutral.nats l) = l
  | [], _ => rfl
  | a :: l, h => by
    have ih := nats_zn (l := l) fun z hz => h z (List.mem_cons_of_mem _ hz)
    have ha := h a List.mem_cons_self
    show ((a.toNat : Nat) : Int) :: zn (SqueezeNeutral.nats l) = _
    rw [ih]
    congr 1
    omega
theorem text_length (l : List Int) : (SqueezeNeutral.text l).length = l.length := by simp [SqueezeNeutral.text, SqueezeNeutral.nats]
theorem natural_iff {z : Int} {k : Nat} : SqueezeNeutral.natural z k = true ↔ 0 ≤ z ∧ z < 2 ^ k := by simp [SqueezeNeutral.natural]

/-! ### a call in the list -/
inductive Turn : List Int → List (List Int) → List Int → Prop where
  | row (p : Int) (x t : List Int) (hp : p = 0 ∨ p = 1 ∨ p = 3 ∨ p = 4 ∨ p = 5 ∨ p = 6) : Turn (p :: (x.length : Int) :: (x ++ t)) [[p], x] t
  | at_ (a n : Int) (x t : List Int) : Turn (2 :: a :: n :: (x.length : Int) :: (x ++ t)) [[2, a, n], x] t
  | one (p a : Int) (t : List Int) (hp : p = 7 ∨ p = 9) : Turn (p :: a :: t) [[p, a]] t
  | feed (a : Int) (x t : List Int) : Turn (8 :: a :: (x.length : Int) :: (x ++ t)) [[8, a], x] t
theorem whole_id (c : List (List Int)) : PyWqaecq.whole c = c := by
  unfold PyWqaecq.whole
  split <;> rfl
theorem row_some {l x t : List Int} (h : PyFlat.row l = some (x, t)) : l = (x.length : Int) :: (x ++ t) := by
  cases l with
  | nil => cases h
  | cons n r =>
    unfold PyFlat.row at h
    simp only at h
    split at h
    · rename_i hc
      cases h
      rw [List.take_append_drop, List.length_take, Nat.min_eq_left hc.2]
      congr 1
      omega
    · cases h
theorem rows_one {l t : List Int} {xs : List (List Int)} (h : PyFlat.rows 1 l = some (xs, t)) : ∃ x, xs = [x] ∧ l = (x.length : Int) :: (x ++ t) := by
  unfold PyFlat.rows at h
  cases hr : PyFlat.row l with
  | none => rw [hr] at h; cases h
  | some y =>
    obtain ⟨x, s⟩ := y
    rw [hr] at h
    simp only [PyFlat.rows] at h
    cases h
    exact ⟨x, rfl, row_some hr⟩
theorem call_turn {l t : List Int} {c : List (List Int)} (h : PyFlat.call PyWqaecq.shape l = some (c, t)) : Turn l c t := by
  cases l with
  | nil => cases h
  | cons p r =>
    unfold PyFlat.call at h
    simp only at h
    have row0 : ∀ p : Int, (p = 0 ∨ p = 1 ∨ p = 3 ∨ p = 4 ∨ p = 5 ∨ p = 6) → PyFlat.rows 1 (r.drop 0) = some (c.tail, t) → c = [p] :: c.tail → Turn (p :: r) c t := by
      intro p hp hr hc
      obtain ⟨x, e1, e2⟩ := rows_one hr
      rw [hc, e1]
      rw [List.drop_zero] at e2
      rw [e2]
      exact .row p x t hp
    by_cases h2 : p = 2
    · subst h2
      have e : PyWqaecq.shape 2 = some (2, 1) := rfl
      rw [e] at h
      simp only at h
      split at h
      · cases h
      · rename_i hl
        cases hr : PyFlat.rows 1 (r.drop 2) with
        | none => rw [hr] at h; cases h
        | some y =>
          obtain ⟨xs, s⟩ := y
          rw [hr] at h
          simp only at h
          cases h
          obtain ⟨x, e1, e2⟩ := rows_one hr
          match r, hl, e2 with
          | a :: n :: r, _, e2 =>
            have e2 : r = (x.length : Int) :: (x ++ t) := e2
            rw [e1, e2]
            exact .at_ a n x t
          | [_], hl, _ => exact absurd (by decide : 1 < 2) hl
          | [], hl, _ => exact absurd (by decide : 0 < 2) hl
    · by_cases h8 : p = 8
      · subst h8
        have e : PyWqaecq.shape 8 = some (1, 1) := rfl
        rw [e] at h
        simp only at h
        split at h
        · cases h
        · rename_i hl
          cases hr : PyFlat.rows 1 (r.drop 1) with
          | none => rw [hr] at h; cases h
          | some y =>
            obtain ⟨xs, s⟩ := y
            rw [hr] at h
            simp only at h
            cases h
            obtain ⟨x, e1, e2⟩ := rows_one hr
            match r, hl, e2 with
            | a :: r, _, e2 =>
              have e2 : r = (x.length : Int) :: (x ++ t) := e2
              rw [e1, e2]
              exact .feed a x t
            | [], hl, _ => exact absurd (by decide : 0 < 1) hl
      · by_cases h79 : p = 7 ∨ p = 9
        · have e : PyWqaecq.shape p = some (1, 0) := by rcases h79 with rfl | rfl <;> rfl
          rw [e] at h
          simp only [PyFlat.rows] at h
          split at h
          · cases h
          · rename_i hl
            cases h
            match r, hl with
            | a :: r, _ => exact .one p a r h79
            | [], hl => exact absurd (by decide : 0 < 1) hl
        · by_cases h0 : p = 0 ∨ p = 1 ∨ p = 3 ∨ p = 4 ∨ p = 5 ∨ p = 6
          · have e : PyWqaecq.shape p = some (0, 1) := by rcases h0 with rfl | rfl | rfl | rfl | rfl | rfl <;> rfl
            rw [e] at h
            simp only at h
            split at h
            · cases h
            · cases hr : PyFlat.rows 1 (r.drop 0) with
              | none => rw [hr] at h; cases h
              | some y =>
                obtain ⟨xs, s⟩ := y
                rw [hr] at h
                simp only at h
                cases h
                exact row0 p h0 hr rfl
          · have e : PyWqaecq.shape p = none := by
              unfold PyWqaecq.shape
              have n7 : p ≠ 7 := fun e => h79 (.inl e)
              have n9 : p ≠ 9 := fun e => h79 (.inr e)
              have n0 : p ≠ 0 := fun e => h0 (by simp [e])
              have n1 : p ≠ 1 := fun e => h0 (by simp [e])
              have n3 : p ≠ 3 := fun e => h0 (by simp [e])
              have n4 : p ≠ 4 := fun e => h0 (by simp [e])
              have n5 : p ≠ 5 := fun e => h0 (by simp [e])
              have n6 : p ≠ 6 := fun e => h0 (by simp [e])
              rw [if_neg n0, if_neg n1, if_neg h2, if_neg n3, if_neg n4, if_neg n5, if_neg n6, if_neg n7, if_neg h8, if_neg n9]
            rw [e] at h
            cases h

/-! ### the calls one behind another -/
/-- from the place i on: the calls left, the state, the answers so far -/
structure Loop (l : List Int) (i : Nat) (s : Squeeze.State) (out : List Int) (cs : List (List (List Int))) : Prop where
  le : i ≤ l.length
  calls : ∃ f, PyFlat.calls PyWqaecq.shape f (l.drop i) = some cs
  ok : ∀ c ∈ cs, SqueezeNeutral.asked1 c = true
  eq : PyWqaecq.answers l = out ++ PyFlat.told (PyFlat.played SqueezeNeutral.step s cs)
theorem answers_some {l : List Int} {raw : List (List (List Int))} (h : PyFlat.calls PyWqaecq.shape l.length l = some raw) : PyWqaecq.answers l = PyFlat.told (PyFlat.played SqueezeNeutral.step SqueezeNeutral.start raw) := by
  unfold PyWqaecq.answers PyWqaecq.calls
  rw [h]
  simp only
  have : raw.map PyWqaecq.whole = raw := by
    conv => rhs; rw [← List.map_id raw]
    exact List.map_congr_left fun c _ => whole_id c
  rw [this]
theorem loop_start {l : List Int} (h : PyWqaecq.answers_asked l = true) : (∃ cs, Loop l 0 SqueezeNeutral.start [] cs) ∧ (PyWqaecq.answers l).length ≤ 10000000 := by
  unfold PyWqaecq.answers_asked at h
  cases hc : PyFlat.calls PyWqaecq.shape l.length l with
  | none => rw [hc] at h; cases h
  | some raw =>
    rw [hc] at h
    simp only [Bool.and_eq_true] at h
    obtain ⟨⟨⟨_, _⟩, h3⟩, h4⟩ := h
    refine ⟨⟨raw, ⟨Nat.zero_le _, ⟨l.length, hc⟩, ?_, ?_⟩⟩, of_decide_eq_true h4⟩
    · have : raw.map PyWqaecq.whole = raw := by
        conv => rhs; rw [← List.map_id raw]
        exact List.map_congr_left fun c _ => whole_id c
      rw [this] at h3
      exact List.all_eq_true.mp h3
    · rw [answers_some hc, List.nil_append]
theorem Loop.stop {l : List Int} {s : Squeeze.State} {out : List Int} {cs : List (List (List Int))} (h : Loop l l.length s out cs) : PyWqaecq.answers l = out := by
  obtain ⟨f, hf⟩ := h.calls
  rw [List.drop_of_length_le (Nat.le_refl _)] at hf
  have : cs = [] := by
    cases f <;> (unfold PyFlat.calls at hf; cases hf; rfl)
  have e := h.eq
  rw [this] at e
  rw [e]
  show out ++ [] = out
  rw [List.append_nil]
theorem Loop.turn {l : List Int} {i : Nat} {s : Squeeze.State} {out : List Int} {cs : List (List (List Int))} (h : Loop l i s out cs) (hi : i < l.length) :
    ∃ c t cs', Turn (l.drop i) c t ∧ SqueezeNeutral.asked1 c = true ∧
      (∀ j, l.drop j = t → j ≤ l.length → Loop l j (SqueezeNeutral.step s c).1 (out ++ (((SqueezeNeutral.step s c).2.length : Int) :: (SqueezeNeutral.step s c).2)) cs') := by
  obtain ⟨f, hf⟩ := h.calls
  rw [List.drop_eq_getElem_cons hi] at hf
  cases f with
  | zero => unfold PyFlat.calls at hf; cases hf
  | succ f =>
    unfold PyFlat.calls at hf
    cases hc : PyFlat.call PyWqaecq.shape (l[i] :: l.drop (i + 1)) with
    | none => simp only [hc] at hf; cases hf
    | some y =>
      obtain ⟨c, t⟩ := y
      simp only [hc] at hf
      cases hr : PyFlat.calls PyWqaecq.shape f t with
      | none => simp only [hr] at hf; cases hf
      | some cs' =>
        simp only [hr] at hf
        have e : cs = c :: cs' := (Option.some.inj hf).symm
        refine ⟨c, t, cs', ?_, h.ok c (by rw [e]; exact List.mem_cons_self), fun j hj hle => ⟨hle, ⟨f, by rw [hj]; exact hr⟩, fun x hx => h.ok x (by rw [e]; exact List.mem_cons_of_mem _ hx), ?_⟩⟩
        · rw [List.drop_eq_getElem_cons hi]
          exact call_turn hc
        · rw [h.eq, e]
          show out ++ (((SqueezeNeutral.step s c).2.length : Int) :: ((SqueezeNeutral.step s c).2 ++ PyFlat.told (PyFlat.played SqueezeNeutral.step (SqueezeNeutral.step s c).1 cs'))) = _
          rw [List.append_assoc]
          rfl
/-- an answer is within the bound -/
theorem Loop.small {l : List Int} {i : Nat} {s : Squeeze.State} {out : List Int} {cs : List (List (List Int))} (h : Loop l i s out cs) (hb : (PyWqaecq.answers l).length ≤ 10000000) : out.length ≤ 10000000 := by
  rw [h.eq, List.length_append] at hb
  omega

/-! ### answers as numbers -/
def numbers (n : Int) (data : Bytes) (nums : List Nat) : List Int := [n, (data.length : Int)] ++ zb data ++ [(nums.length : Int)] ++ zn nums ++ [0, 0]
theorem numbers_eq (n : Int) (data : Bytes) (nums : List Nat) : SqueezeNeutral.numbersOf ⟨n, data, nums, none⟩ = numbers n data nums := by
  unfold SqueezeNeutral.numbersOf numbers zb zn
  simp
theorem numbers_says (n : Int) : SqueezeNeutral.numbersOf (Squeeze.says n) = [n, 0, 0, 0, 0] := rfl
theorem numbers_wrong (e : Fault) : SqueezeNeutral.numbersOf (Squeeze.wrong e) = [-6, 0, 0, (e.kind : Int), (e.place : Int)] := rfl
theorem numbers_length (n : Int) (data : Bytes) (nums : List Nat) : (numbers n data nums).length = data.length + nums.length + 5 := by
  unfold numbers zb zn
  simp
  omega

/-! ### rows read, as the calls ask them -/
/-- a fault, or the blocks -/
def readE (b : Bytes) (low high : Nat) : Except Fault (List SwSqueeze.Block × Nat) := match SwSqueeze.must 0 [83, 87, 90, 49] b with
  | some e => .error e
  | none => overall b (lookAt low high)
theorem unpack_eq (b : Bytes) : Squeeze.ofRow b (fun _ _ => true) (fun x => Squeeze.gives (Squeeze.textOf x.1)) = if 131072 < b.length then Squeeze.says (-2) else match readE b 0 (1024 * b.length) with
    | .error e => Squeeze.wrong e
    | .ok x => Squeeze.gives (Squeeze.textOf x.1) := by
  unfold Squeeze.ofRow readE
  rw [read_eq, overall_all]
  rfl
theorem judge_eq (b : Bytes) : Squeeze.ofRow b (fun _ _ => true) (fun x => if SwSqueeze.packed (Squeeze.textOf x.1) = b then Squeeze.says 0 else Squeeze.says (-9)) = if 131072 < b.length then Squeeze.says (-2) else match readE b 0 (1024 * b.length) with
    | .error e => Squeeze.wrong e
    | .ok x => if SwSqueeze.packed (Squeeze.textOf x.1) = b then Squeeze.says 0 else Squeeze.says (-9) := by
  unfold Squeeze.ofRow readE
  rw [read_eq, overall_all]
  rfl
theorem length_eq (b : Bytes) : Squeeze.ofRow b (fun _ _ => false) (fun x => Squeeze.tells 0 [x.2, x.1.length]) = if 131072 < b.length then Squeeze.says (-2) else match readE b 0 0 with
    | .error e => Squeeze.wrong e
    | .ok x => Squeeze.tells 0 [x.2, x.1.length] := by
  unfold Squeeze.ofRow readE
  rw [read_eq, overall_none]
  rfl
theorem at_call_eq (b : Bytes) (f n : Nat) (s : Squeeze.State) : (Squeeze.step s (.at_ b f n)).2 = if 131072 < b.length then Squeeze.says (-2) else match readE b f (f + n) with
    | .error e => Squeeze.wrong e
    | .ok x => if x.2 < f then Squeeze.says (-1) else
      match x.1.filter fun (q : SwSqueeze.Block) => decide (max q.from_ f < min (q.from_ + q.size) (f + min n (x.2 - f))) with
      | [] => Squeeze.gives []
      | q :: _ => Squeeze.gives (part (Squeeze.textOf (x.1.filter fun (q : SwSqueeze.Block) => decide (max q.from_ f < min (q.from_ + q.size) (f + min n (x.2 - f))))) (f - q.from_) (min n (x.2 - f))) := by
  show Squeeze.ofRow b _ _ = _
  unfold Squeeze.ofRow readE
  rw [read_eq]
  rfl
theorem at_some {l : List SwSqueeze.Block} {t f n : Nat} (h : Cont (lookAt f (f + n)) 0 l t) (hf : f ≤ t) : (match l.filter fun (q : SwSqueeze.Block) => decide (max q.from_ f < min (q.from_ + q.size) (f + min n (t - f))) with
      | [] => Squeeze.gives []
      | q :: _ => Squeeze.gives (part (Squeeze.textOf (l.filter fun (q : SwSqueeze.Block) => decide (max q.from_ f < min (q.from_ + q.size) (f + min n (t - f))))) (f - q.from_) (min n (t - f)))) = Squeeze.gives (coll f (f + n) l) := by
  rw [← at_eq h hf]
  cases l.filter fun (q : SwSqueeze.Block) => decide (max q.from_ f < min (q.from_ + q.size) (f + min n (t - f))) <;> rfl

/-! ### feeds -/
open Squeeze (known fed ended mark)
/-- what waits -/
def waits (x : Squeeze.Feed) : Bytes := x.text.drop (1024 * known x.text.length)
theorem waits_more (x : Squeeze.Feed) (a : Bytes) : waits x ++ a = (x.text ++ a).drop (1024 * known x.text.length) := by
  unfold waits
  rw [List.drop_append_of_le_length (known_le _)]
theorem waits_part (x : Squeeze.Feed) (a : Bytes) (j : Nat) : part (waits x ++ a) (1024 * j) 1024 = part (x.text ++ a) (1024 * (known x.text.length + j)) 1024 := by
  rw [waits_more]
  unfold part
  rw [List.drop_drop, Nat.mul_add]
theorem waits_cond (x : Squeeze.Feed) (a : Bytes) (j : Nat) : 1024 < (waits x ++ a).length - 1024 * j ↔ j < known (x.text ++ a).length - known x.text.length := by
  rw [waits_more, List.length_drop]
  exact known_more _ _ _
theorem waits_end (x : Squeeze.Feed) (a : Bytes) (m : Bool) : (waits x ++ a).drop (1024 * (known (x.text ++ a).length - known x.text.length)) = waits ⟨x.text ++ a, m⟩ := by
  rw [waits_more]
  unfold waits
  rw [List.drop_drop]
  congr 1
  have : known x.text.length ≤ known (x.text ++ a).length := known_mono (by rw [List.length_append]; omega)
  rw [← Nat.mul_add]
  congr 1
  show known x.text.length + (known (x.text ++ a).length - known x.text.length) = known (x.text ++ a).length
  omega
/-- what's given behind j blocks -/
def givenTo (x : Squeeze.Feed) (a : Bytes) (j : Nat) : Bytes := mark x ++ (List.range j).flatMap fun j => SwSqueeze.blockOf (part (x.text ++ a) (1024 * (known x.text.length + j)) 1024)
theorem given_zero (x : Squeeze.Feed) (a : Bytes) : givenTo x a 0 = mark x := by simp [givenTo]
theorem given_more (x : Squeeze.Feed) (a : Bytes) (j : Nat) : givenTo x a (j + 1) = givenTo x a j ++ SwSqueeze.blockOf (part (waits x ++ a) (1024 * j) 1024) := by
  unfold givenTo
  rw [List.range_succ, List.flatMap_append, waits_part]
  simp
theorem given_end (x : Squeeze.Feed) (a : Bytes) : givenTo x a (known (x.text ++ a).length - known x.text.length) = fed x a := rfl
theorem waits_len (x : Squeeze.Feed) : (waits x).length ≤ 1024 := by
  unfold waits known
  rw [List.length_drop]
  show x.text.length - 1024 * ((x.text.length - 1) / 1024) ≤ 1024
  omega
theorem ended_eq (x : Squeeze.Feed) : ended x = mark x ++ ((if waits x = [] then [] else SwSqueeze.blockOf (waits x)) ++ (le 4 0 ++ le 8 x.text.length)) := rfl
end Gz
end

/-! ## MSpell -/
section
set_option linter.all false
namespace Gz
open Sw SwSqueeze

/-! ### bytes as signs, two of each -/
def sp (t : Bytes) : List Nat := t.flatMap fun c => [97 + c.toNat / 16, 65 + c.toNat % 16]
theorem sp_length (t : Bytes) : (sp t).length = 2 * t.length := by
  unfold sp
  induction t with
  | nil => rfl
  | cons c t ih => rw [List.flatMap_cons, List.length_append, ih]; show 2 + 2 * t.length = 2 * (t.length + 1); omega
theorem sp_cons (c : UInt8) (t : Bytes) : sp (c :: t) = (97 + c.toNat / 16) :: (65 + c.toNat % 16) :: sp t := rfl
theorem sp_drop : ∀ (t : Bytes) (k : Nat), (sp t).drop (2 * k) = sp (t.drop k)
  | t, 0 => rfl
  | [], k + 1 => by simp [sp]
  | c :: t, k + 1 => by
    rw [sp_cons, show 2 * (k + 1) = 2 * k + 1 + 1 by omega, List.drop_succ_cons, List.drop_succ_cons, sp_drop t k]
    rfl
theorem sp_take : ∀ (t : Bytes) (k : Nat), (sp t).take (2 * k) = sp (t.take k)
  | t, 0 => rfl
  | [], k + 1 => by simp [sp]
  | c :: t, k + 1 => by
    rw [sp_cons, show 2 * (k + 1) = 2 * k + 1 + 1 by omega, List.take_succ_cons, List.take_succ_cons, sp_take t k]
    rfl
theorem sp_inj : ∀ (a b : Bytes), sp a = sp b → a = b
  | [], [], _ => rfl
  | [], c :: b, h => by cases h
  | c :: a, [], h => by cases h
  | c :: a, d :: b, h => by
    rw [sp_cons, sp_cons] at h
    injection h with h1 h2
    injection h2 with h2 h3
    have e : c = d := UInt8.toNat_inj.mp (by omega)
    rw [e, sp_inj a b h3]
theorem sp_even (t : Bytes) (k : Nat) (h : k < t.length) : 97 ≤ (sp t).getD (2 * k) 0 := by
  have := sp_drop t k
  rw [List.getD_eq_getElem?_getD]
  have e : (sp t)[2 * k]? = ((sp t).drop (2 * k))[0]? := by rw [List.getElem?_drop, Nat.add_zero]
  rw [e, this, List.drop_eq_getElem_cons h, sp_cons]
  show 97 ≤ 97 + _
  omega
theorem sp_odd (t : Bytes) (k : Nat) (h : k < t.length) : (sp t).getD (2 * k + 1) 0 ≤ 80 := by
  have := sp_drop t k
  rw [List.getD_eq_getElem?_getD]
  have e : (sp t)[2 * k + 1]? = ((sp t).drop (2 * k))[1]? := by rw [List.getElem?_drop]
  rw [e, this, List.drop_eq_getElem_cons h, sp_cons]
  show 65 + t[k].toNat % 16 ≤ 80
  omega
/-- the L bytes from at on are the L bytes from j on -/
def Alk (t : Bytes) (i j L : Nat) : Prop := (t.drop j).take L = (t.drop i).take L
theorem alk_mat {t : Bytes} {i j L : Nat} (hi : i + L ≤ t.length) (hj : j < i) : Alk t i j L ↔ Mat t i (i - j) L := by
  unfold Alk
  constructor
  · intro h
    refine ⟨hi, fun k hk => ?_⟩
    have h2 := congrArg (fun l => l[k]?) h
    simp only [List.getElem?_take_of_lt hk, List.getElem?_drop] at h2
    rw [← h2]
    congr 1
    omega
  · intro h
    apply List.ext_getElem?
    intro k
    by_cases hk : k < L
    · rw [List.getElem?_take_of_lt hk, List.getElem?_take_of_lt hk, List.getElem?_drop, List.getElem?_drop, h.2 k hk]
      congr 1
      omega
    · rw [List.getElem?_eq_none (by rw [List.length_take]; omega), List.getElem?_eq_none (by rw [List.length_take]; omega)]
/-- the spelled ones stand within just at even places -/
theorem occ_iff {t : Bytes} {i L p : Nat} (hL : 1 ≤ L) (hi : i + L ≤ t.length) (hp : p + 2 * L ≤ 2 * t.length) :
    ((sp t).drop p).take (2 * L) = ((sp t).drop (2 * i)).take (2 * L) ↔ ∃ j, p = 2 * j ∧ Alk t i j L := by
  constructor
  · intro h
    have h0 := congrArg (fun l => l[0]?) h
    simp only [List.getElem?_take_of_lt (by omega : 0 < 2 * L), List.getElem?_drop, Nat.add_zero] at h0
    have e0 : (sp t).getD p 0 = (sp t).getD (2 * i) 0 := by rw [List.getD_eq_getElem?_getD, List.getD_eq_getElem?_getD, h0]
    have h1 := sp_even t i (by omega)
    rcases Nat.mod_two_eq_zero_or_one p with hm | hm
    · refine ⟨p / 2, by omega, ?_⟩
      rw [show p = 2 * (p / 2) by omega, sp_drop, sp_drop, sp_take, sp_take] at h
      exact sp_inj _ _ h
    · have h2 := sp_odd t (p / 2) (by omega)
      rw [show 2 * (p / 2) + 1 = p by omega] at h2
      omega
  · rintro ⟨j, rfl, h⟩
    rw [sp_drop, sp_drop, sp_take, sp_take, h]
/-- what the last place within says of the distance -/
theorem near_none {t : Bytes} {i L : Nat} (hL : 1 ≤ L) (hi : i + L ≤ t.length) (h : ∀ p, p + 2 * L ≤ 2 * (i - 1 + L) → ¬ ((sp t).drop p).take (2 * L) = ((sp t).drop (2 * i)).take (2 * L)) (h0 : 1 ≤ i) : Near t i L 0 := by
  refine .inl ⟨rfl, fun e h1 h2 hm => ?_⟩
  refine h (2 * (i - e)) (by omega) ((occ_iff hL hi (by omega)).mpr ⟨i - e, rfl, (alk_mat hi (by omega)).mpr ?_⟩)
  rw [show i - (i - e) = e by omega]
  exact hm
theorem near_some {t : Bytes} {i L p : Nat} (hL : 1 ≤ L) (hi : i + L ≤ t.length) (h0 : 1 ≤ i) (hp : p + 2 * L ≤ 2 * (i - 1 + L)) (h1 : ((sp t).drop p).take (2 * L) = ((sp t).drop (2 * i)).take (2 * L))
    (h2 : ∀ q, p < q → q + 2 * L ≤ 2 * (i - 1 + L) → ¬ ((sp t).drop q).take (2 * L) = ((sp t).drop (2 * i)).take (2 * L)) : Near t i L (i - p / 2) ∧ p / 2 < i := by
  obtain ⟨j, rfl, hj⟩ := (occ_iff hL hi (by omega)).mp h1
  rw [Nat.mul_div_cancel_left j (by decide)]
  have hji : j < i := by omega
  refine ⟨.inr ⟨by omega, by omega, (alk_mat hi hji).mp hj, fun e he1 he2 hm => ?_⟩, hji⟩
  refine h2 (2 * (i - e)) (by omega) (by omega) ((occ_iff hL hi (by omega)).mpr ⟨i - e, rfl, (alk_mat hi (by omega)).mpr ?_⟩)
  rw [show i - (i - e) = e by omega]
  exact hm
end Gz
end

/-! ## WBase -/
section
set_option Elab.async false
set_option linter.all false
set_option maxRecDepth 100000
set_option maxHeartbeats 4000000
namespace Gz
open PySem PySem.Spec PyProof.Rows L2 Evl

/-! ### the text -/
def topS (i : Nat) : Stmt := PySem.Challenge.pw_onepacking_s01_answers.main.body.getD i (.Pass ⟨0, 0, 0, 0⟩)

/-! ### names of the module -/
def GV (mg : Str → Option Value) (x : Str) (v : V) : Prop := ∃ u, mg x = some u ∧ RelV v u
theorem pe_k {X : Cx} {x : Str} {v : V} {pos : Pos} (h : GV X.mg x v) (hg : Gl X x := by rfl) (hd : (x == ("__debug__" : Str)) = false := by decide) : PE X (.Name x pos) (tC v) := by
  obtain ⟨u, hm, r⟩ := h
  exact pe_glob hg hm r hd
/-- a def that keeps its promise, by its name -/
structure Def (P : Program) (w : World) (K : PySem.W.Frag) (mg : Str → Option Value) (base : Heap) (CX : CXT) (k : Nat) (x : Str) (ps : List Str) (sp : Sp) : Prop where
  ex : ∃ f fd, mg x = some (.ref f) ∧ PySem.W.keepIn K (.ref f) = true ∧ Binds K fd ps [] ∧ FnOk P w K mg base CX k f fd ps sp
section
variable {X : Cx} {CX : CXT} {k j : Nat} {ps : List Str} {sp : Sp} {E : XK} {x : Str} {p pos : Pos} {e : Expr} {es : List Expr} {t : TA}
theorem pe_callD (D : Def X.prog X.w X.K X.mg X.base CX k x ps sp) (hr : Room j X.A) (hg : Gl X x) (hx : Passes CX X E) (ha : PA X (e :: es) t) (hk : k ≤ j := by decide)
    (hdb : (x == ("__debug__" : Str)) = false := by decide) (he : starEach (e :: es) X.env = (false, eval e X.env) :: starEach es X.env := by rfl) (hpl : (backTo pos (starEach es X.env)).any (·.1) = false := by rfl) :
    PE X (.Call (.Name x p) (e :: es) [] pos) (tCall sp [] E t) := by
  obtain ⟨f, fd, hm, kp, b, F⟩ := D.ex
  exact pe_call F (hr.mono hk) hg hm kp b .nil hx ha hdb he hpl
theorem pe_callD0 (D : Def X.prog X.w X.K X.mg X.base CX k x ps sp) (hr : Room j X.A) (hg : Gl X x) (hx : Passes CX X E) (hk : k ≤ j := by decide) (hdb : (x == ("__debug__" : Str)) = false := by decide) :
    PE X (.Call (.Name x p) [] [] pos) (tCall sp [] E tNil) := by
  obtain ⟨f, fd, hm, kp, b, F⟩ := D.ex
  exact pe_call0 F (hr.mono hk) hg hm kp b .nil hx hdb
end

/-! ### xs[i] op= e -/
section
variable {X : Cx}
/-- a list's item at a place not below 0 -/
def rGetL (K : PySem.W.Frag) : R2 := fun x y H Q => ∃ p xs i v, x = .ref p ∧ y = .int i ∧ SqL K H p xs ∧ 0 ≤ i ∧ xs[i.toNat]? = some v ∧ Q v H
theorem get_list : PGet X (rGetL X.K) := by
  intro pins s σ H o i ov iv Q I ro ri h
  obtain ⟨p, xs, i, z, rfl, rfl, hq, h0, he, q⟩ := h
  cases ro
  obtain ⟨t, rfl⟩ := ri
  obtain ⟨its, r, pl, hz⟩ := I.list hq
  obtain ⟨u, eu, ru⟩ := r.get he
  have hl := r.length
  have hlt := (List.getElem?_eq_some_iff.mp he).1
  have hn := line63
  have fin : EP X pins σ Q u s := ⟨z, H, I, ru, q⟩
  exact wpAny_getItem_list pl.isList h0 (by omega) (by simpa using eu) fin
def tAugL (K : PySem.W.Frag) (to ti te : TE) (tip : TIp) : TS := tAugS to ti te (rGetL K) tip rSetL
theorem ps_augL {o i e : Expr} {to ti te : TE} {tip : TIp} {op : Operator} {tpos pos : Pos} (ho : PE X o to) (hi : PE X i ti) (he : PE X e te) (hp : PIp X op tip)
    (ha : ∀ ov iv new, augStore i ov iv new = (do holding [new, ov, iv] (setItem ov iv new); release [new, ov, iv] []; pure .next) := by intros; rfl) : PS X (.AugAssign (.Subscript o i tpos) op e pos) (tAugL X.K to ti te tip) :=
  ps_augS ho hi get_list he hp set_list ha
end
end Gz
end

/-! ## WScopes -/
section
set_option Elab.async false
set_option linter.all false
set_option maxRecDepth 100000
set_option maxHeartbeats 4000000
namespace Gz
open PySem PySem.Spec PyProof.Rows L2
abbrev s_class_of : Stmt := topS 11
abbrev s_further : Stmt := topS 12
abbrev s_lowest : Stmt := topS 13
abbrev s_told : Stmt := topS 14
abbrev s_heard : Stmt := topS 15
abbrev s_leaves_of : Stmt := topS 17
abbrev s_row_behind : Stmt := topS 18
abbrev s_rows_of : Stmt := topS 19
abbrev s_lengths_of : Stmt := topS 20
abbrev s_codewords : Stmt := topS 21
abbrev s_is_whole : Stmt := topS 22
abbrev s_spelled : Stmt := topS 29
abbrev s_nearest : Stmt := topS 30
abbrev s_stretch : Stmt := topS 31
abbrev s_offers : Stmt := topS 32
abbrev s_best_of : Stmt := topS 33
abbrev s_first_steps : Stmt := topS 34
abbrev s_parse_of : Stmt := topS 35
abbrev s_low_first : Stmt := topS 37
abbrev s_high_first : Stmt := topS 38
abbrev s_in_bytes : Stmt := topS 39
abbrev s_nought_bits : Stmt := topS 40
abbrev s_length_bits : Stmt := topS 41
abbrev s_counted : Stmt := topS 42
abbrev s_words_of : Stmt := topS 43
abbrev s_step_bits : Stmt := topS 44
abbrev s_coded : Stmt := topS 45
abbrev s_block_of : Stmt := topS 46
abbrev s_beginning : Stmt := topS 47
abbrev s_ending : Stmt := topS 48
abbrev s_packed : Stmt := topS 49
abbrev s_Feed_init : Stmt := inClass (topS 51) 0
abbrev s_Feed_front : Stmt := inClass (topS 51) 1
abbrev s_Feed_feed : Stmt := inClass (topS 51) 2
abbrev s_Feed_finish : Stmt := inClass (topS 51) 3
abbrev s_Bits_init : Stmt := inClass (topS 54) 0
abbrev s_Bits_one : Stmt := inClass (topS 54) 1
abbrev s_Bits_number : Stmt := inClass (topS 54) 2
abbrev s_read_lengths : Stmt := topS 55
abbrev s_check_codes : Stmt := topS 56
abbrev s_table_of : Stmt := topS 57
abbrev s_read_symbol : Stmt := topS 58
abbrev s_read_value : Stmt := topS 59
abbrev s_copy_match : Stmt := topS 60
abbrev s_read_steps : Stmt := topS 61
abbrev s_check_rest : Stmt := topS 62
abbrev s_coded_text : Stmt := topS 63
abbrev s_Fault_init : Stmt := inClass (topS 70) 0
abbrev s_need : Stmt := topS 71
abbrev s_check_beginning : Stmt := topS 72
abbrev s_count_at : Stmt := topS 73
abbrev s_check_count : Stmt := topS 74
abbrev s_length_at : Stmt := topS 75
abbrev s_text_at : Stmt := topS 76
abbrev s_check_ending : Stmt := topS 77
abbrev s_part_at : Stmt := topS 78
abbrev s_walked : Stmt := topS 79
abbrev s_unpacked : Stmt := topS 80
abbrev s_answered : Stmt := topS 91
abbrev s_refused : Stmt := topS 92
abbrev s_no_row : Stmt := topS 93
abbrev s_pack : Stmt := topS 94
abbrev s_unpack : Stmt := topS 95
abbrev s_part : Stmt := topS 96
abbrev s_judge : Stmt := topS 97
abbrev s_length : Stmt := topS 98
abbrev s_parse : Stmt := topS 99
abbrev s_lengths : Stmt := topS 100
abbrev s_begin : Stmt := topS 101
abbrev s_feed : Stmt := topS 102
abbrev s_end : Stmt := topS 103
abbrev s_count_of : Stmt := topS 114
abbrev s_of_state : Stmt := topS 115
abbrev s_of_row : Stmt := topS 116
abbrev s_answers : Stmt := topS 117
abbrev class_of_N : List Str := ["number"]
theorem sc_class_of : FnScope class_of_N ["number"] (defScope s_class_of) := ⟨rfl, rfl, rfl, by decide +kernel, rfl, by decide +kernel, by decide +kernel⟩
abbrev further_N : List Str := ["group"]
theorem sc_further : FnScope further_N ["group"] (defScope s_further) := ⟨rfl, rfl, rfl, by decide +kernel, rfl, by decide +kernel, by decide +kernel⟩
abbrev lowest_N : List Str := ["group"]
theorem sc_lowest : FnScope lowest_N ["group"] (defScope s_lowest) := ⟨rfl, rfl, rfl, by decide +kernel, rfl, by decide +kernel, by decide +kernel⟩
abbrev told_N : List Str := ["number", "count", "k"]
theorem sc_told : FnScope told_N ["number", "count"] (defScope s_told) := ⟨rfl, rfl, rfl, by decide +kernel, rfl, by decide +kernel, by decide +kernel⟩
abbrev heard_N : List Str := ["data", "at", "count", "number", "k"]
theorem sc_heard : FnScope heard_N ["data", "at", "count"] (defScope s_heard) := ⟨rfl, rfl, rfl, by decide +kernel, rfl, by decide +kernel, by decide +kernel⟩
abbrev leaves_of_N : List Str := ["often", "symbol"]
theorem sc_leaves_of : FnScope leaves_of_N ["often"] (defScope s_leaves_of) := ⟨rfl, rfl, rfl, by decide +kernel, rfl, by decide +kernel, by decide +kernel⟩
abbrev row_behind_N : List Str := ["leaves", "row", "packages", "k"]
theorem sc_row_behind : FnScope row_behind_N ["leaves", "row"] (defScope s_row_behind) := ⟨rfl, rfl, rfl, by decide +kernel, rfl, by decide +kernel, by decide +kernel⟩
abbrev rows_of_N : List Str := ["leaves", "rows", "k"]
theorem sc_rows_of : FnScope rows_of_N ["leaves"] (defScope s_rows_of) := ⟨rfl, rfl, rfl, by decide +kernel, rfl, by decide +kernel, by decide +kernel⟩
abbrev lengths_of_N : List Str := ["often", "lengths", "leaves", "wanted", "weight", "symbol", "row", "packages", "made"]
theorem sc_lengths_of : FnScope lengths_of_N ["often"] (defScope s_lengths_of) := ⟨rfl, rfl, rfl, by decide +kernel, rfl, by decide +kernel, by decide +kernel⟩
abbrev codewords_N : List Str := ["lengths", "rows", "number", "before", "length", "symbol", "k"]
theorem sc_codewords : FnScope codewords_N ["lengths"] (defScope s_codewords) := ⟨rfl, rfl, rfl, by decide +kernel, rfl, by decide +kernel, by decide +kernel⟩
abbrev is_whole_N : List Str := ["lengths", "there", "length"]
theorem sc_is_whole : FnScope is_whole_N ["lengths"] (defScope s_is_whole) := ⟨rfl, rfl, rfl, by decide +kernel, rfl, by decide +kernel, by decide +kernel⟩
abbrev spelled_N : List Str := ["text", "byte"]
theorem sc_spelled : FnScope spelled_N ["text"] (defScope s_spelled) := ⟨rfl, rfl, rfl, by decide +kernel, rfl, by decide +kernel, by decide +kernel⟩
abbrev nearest_N : List Str := ["spelling", "at", "length", "wanted", "found"]
theorem sc_nearest : FnScope nearest_N ["spelling", "at", "length"] (defScope s_nearest) := ⟨rfl, rfl, rfl, by decide +kernel, rfl, by decide +kernel, by decide +kernel⟩
abbrev stretch_N : List Str := ["text", "at", "distance", "ends", "end"]
theorem sc_stretch : FnScope stretch_N ["text", "at", "distance", "ends"] (defScope s_stretch) := ⟨rfl, rfl, rfl, by decide +kernel, rfl, by decide +kernel, by decide +kernel⟩
abbrev offers_N : List Str := ["text", "spelling", "at", "ends", "most", "rows", "reach", "distance"]
theorem sc_offers : FnScope offers_N ["text", "spelling", "at", "ends"] (defScope s_offers) := ⟨rfl, rfl, rfl, by decide +kernel, rfl, by decide +kernel, by decide +kernel⟩
abbrev best_of_N : List Str := ["keys", "at", "rows", "best", "taken", "length", "reach", "distance", "fixed", "group", "last", "key"]
theorem sc_best_of : FnScope best_of_N ["keys", "at", "rows"] (defScope s_best_of) := ⟨rfl, rfl, rfl, by decide +kernel, rfl, by decide +kernel, by decide +kernel⟩
abbrev first_steps_N : List Str := ["text", "count", "spelling", "ends", "rows", "at", "keys", "steps", "best", "distance"]
theorem sc_first_steps : FnScope first_steps_N ["text"] (defScope s_first_steps) := ⟨rfl, rfl, rfl, by decide +kernel, rfl, by decide +kernel, by decide +kernel⟩
abbrev parse_of_N : List Str := ["text", "steps", "taken", "at", "there", "distance"]
theorem sc_parse_of : FnScope parse_of_N ["text"] (defScope s_parse_of) := ⟨rfl, rfl, rfl, by decide +kernel, rfl, by decide +kernel, by decide +kernel⟩
abbrev low_first_N : List Str := ["number", "count", "k"]
theorem sc_low_first : FnScope low_first_N ["number", "count"] (defScope s_low_first) := ⟨rfl, rfl, rfl, by decide +kernel, rfl, by decide +kernel, by decide +kernel⟩
abbrev high_first_N : List Str := ["number", "count", "k"]
theorem sc_high_first : FnScope high_first_N ["number", "count"] (defScope s_high_first) := ⟨rfl, rfl, rfl, by decide +kernel, rfl, by decide +kernel, by decide +kernel⟩
abbrev in_bytes_N : List Str := ["bits", "data", "k"]
theorem sc_in_bytes : FnScope in_bytes_N ["bits"] (defScope s_in_bytes) := ⟨rfl, rfl, rfl, by decide +kernel, rfl, by decide +kernel, by decide +kernel⟩
abbrev nought_bits_N : List Str := ["count", "bits", "k", "left"]
theorem sc_nought_bits : FnScope nought_bits_N ["count"] (defScope s_nought_bits) := ⟨rfl, rfl, rfl, by decide +kernel, rfl, by decide +kernel, by decide +kernel⟩
abbrev length_bits_N : List Str := ["lengths", "bits", "noughts", "length"]
theorem sc_length_bits : FnScope length_bits_N ["lengths"] (defScope s_length_bits) := ⟨rfl, rfl, rfl, by decide +kernel, rfl, by decide +kernel, by decide +kernel⟩
abbrev counted_N : List Str := ["steps", "symbols", "classes", "length", "value"]
theorem sc_counted : FnScope counted_N ["steps"] (defScope s_counted) := ⟨rfl, rfl, rfl, by decide +kernel, rfl, by decide +kernel, by decide +kernel⟩
abbrev words_of_N : List Str := ["lengths", "words", "symbol", "length", "number"]
theorem sc_words_of : FnScope words_of_N ["lengths"] (defScope s_words_of) := ⟨rfl, rfl, rfl, by decide +kernel, rfl, by decide +kernel, by decide +kernel⟩
abbrev step_bits_N : List Str := ["steps", "symbols", "classes", "bits", "length", "value", "group"]
theorem sc_step_bits : FnScope step_bits_N ["steps", "symbols", "classes"] (defScope s_step_bits) := ⟨rfl, rfl, rfl, by decide +kernel, rfl, by decide +kernel, by decide +kernel⟩
abbrev coded_N : List Str := ["text", "steps", "symbols", "classes", "first", "second", "bits"]
theorem sc_coded : FnScope coded_N ["text"] (defScope s_coded) := ⟨rfl, rfl, rfl, by decide +kernel, rfl, by decide +kernel, by decide +kernel⟩
abbrev block_of_N : List Str := ["text", "inside"]
theorem sc_block_of : FnScope block_of_N ["text"] (defScope s_block_of) := ⟨rfl, rfl, rfl, by decide +kernel, rfl, by decide +kernel, by decide +kernel⟩
abbrev beginning_N : List Str := []
theorem sc_beginning : FnScope beginning_N [] (defScope s_beginning) := ⟨rfl, rfl, rfl, by decide +kernel, rfl, by decide +kernel, by decide +kernel⟩
abbrev ending_N : List Str := ["count"]
theorem sc_ending : FnScope ending_N ["count"] (defScope s_ending) := ⟨rfl, rfl, rfl, by decide +kernel, rfl, by decide +kernel, by decide +kernel⟩
abbrev packed_N : List Str := ["text", "row", "made", "at", "part", "name"]
theorem sc_packed : FnScope packed_N ["text"] (defScope s_packed) := ⟨rfl, rfl, rfl, by decide +kernel, rfl, by decide +kernel, by decide +kernel⟩
abbrev Feed_init_N : List Str := ["self"]
theorem sc_Feed_init : FnScope Feed_init_N ["self"] (defScope s_Feed_init) := ⟨rfl, rfl, rfl, by decide +kernel, rfl, by decide +kernel, by decide +kernel⟩
abbrev Feed_front_N : List Str := ["self"]
theorem sc_Feed_front : FnScope Feed_front_N ["self"] (defScope s_Feed_front) := ⟨rfl, rfl, rfl, by decide +kernel, rfl, by decide +kernel, by decide +kernel⟩
abbrev Feed_feed_N : List Str := ["self", "data", "given", "at"]
theorem sc_Feed_feed : FnScope Feed_feed_N ["self", "data"] (defScope s_Feed_feed) := ⟨rfl, rfl, rfl, by decide +kernel, rfl, by decide +kernel, by decide +kernel⟩
abbrev Feed_finish_N : List Str := ["self", "given"]
theorem sc_Feed_finish : FnScope Feed_finish_N ["self"] (defScope s_Feed_finish) := ⟨rfl, rfl, rfl, by decide +kernel, rfl, by decide +kernel, by decide +kernel⟩
abbrev Bits_init_N : List Str := ["self", "row", "first", "behind"]
theorem sc_Bits_init : FnScope Bits_init_N ["self", "row", "first", "behind"] (defScope s_Bits_init) := ⟨rfl, rfl, rfl, by decide +kernel, rfl, by decide +kernel, by decide +kernel⟩
abbrev Bits_one_N : List Str := ["self", "bit"]
theorem sc_Bits_one : FnScope Bits_one_N ["self"] (defScope s_Bits_one) := ⟨rfl, rfl, rfl, by decide +kernel, rfl, by decide +kernel, by decide +kernel⟩
abbrev Bits_number_N : List Str := ["self", "count", "number", "k"]
theorem sc_Bits_number : FnScope Bits_number_N ["self", "count"] (defScope s_Bits_number) := ⟨rfl, rfl, rfl, by decide +kernel, rfl, by decide +kernel, by decide +kernel⟩
abbrev read_lengths_N : List Str := ["bits", "lengths", "after", "length", "run"]
theorem sc_read_lengths : FnScope read_lengths_N ["bits"] (defScope s_read_lengths) := ⟨rfl, rfl, rfl, by decide +kernel, rfl, by decide +kernel, by decide +kernel⟩
abbrev check_codes_N : List Str := ["first", "second"]
theorem sc_check_codes : FnScope check_codes_N ["first", "second"] (defScope s_check_codes) := ⟨rfl, rfl, rfl, by decide +kernel, rfl, by decide +kernel, by decide +kernel⟩
abbrev table_of_N : List Str := ["lengths", "table", "symbol", "length", "number"]
theorem sc_table_of : FnScope table_of_N ["lengths"] (defScope s_table_of) := ⟨rfl, rfl, rfl, by decide +kernel, rfl, by decide +kernel, by decide +kernel⟩
abbrev read_symbol_N : List Str := ["bits", "table", "key", "k"]
theorem sc_read_symbol : FnScope read_symbol_N ["bits", "table"] (defScope s_read_symbol) := ⟨rfl, rfl, rfl, by decide +kernel, rfl, by decide +kernel, by decide +kernel⟩
abbrev read_value_N : List Str := ["bits", "group"]
theorem sc_read_value : FnScope read_value_N ["bits", "group"] (defScope s_read_value) := ⟨rfl, rfl, rfl, by decide +kernel, rfl, by decide +kernel, by decide +kernel⟩
abbrev copy_match_N : List Str := ["text", "length", "distance", "start", "k"]
theorem sc_copy_match : FnScope copy_match_N ["text", "length", "distance"] (defScope s_copy_match) := ⟨rfl, rfl, rfl, by decide +kernel, rfl, by decide +kernel, by decide +kernel⟩
abbrev read_steps_N : List Str := ["bits", "count", "symbols", "classes", "text", "symbol", "length", "distance"]
theorem sc_read_steps : FnScope read_steps_N ["bits", "count", "symbols", "classes"] (defScope s_read_steps) := ⟨rfl, rfl, rfl, by decide +kernel, rfl, by decide +kernel, by decide +kernel⟩
abbrev check_rest_N : List Str := ["bits", "left"]
theorem sc_check_rest : FnScope check_rest_N ["bits"] (defScope s_check_rest) := ⟨rfl, rfl, rfl, by decide +kernel, rfl, by decide +kernel, by decide +kernel⟩
abbrev coded_text_N : List Str := ["row", "first", "behind", "bits", "count", "lengths", "text"]
theorem sc_coded_text : FnScope coded_text_N ["row", "first", "behind"] (defScope s_coded_text) := ⟨rfl, rfl, rfl, by decide +kernel, rfl, by decide +kernel, by decide +kernel⟩
abbrev Fault_init_N : List Str := ["self", "kind", "place"]
theorem sc_Fault_init : FnScope Fault_init_N ["self", "kind", "place"] (defScope s_Fault_init) := ⟨rfl, rfl, rfl, by decide +kernel, rfl, by decide +kernel, by decide +kernel⟩
abbrev need_N : List Str := ["row", "behind"]
theorem sc_need : FnScope need_N ["row", "behind"] (defScope s_need) := ⟨rfl, rfl, rfl, by decide +kernel, rfl, by decide +kernel, by decide +kernel⟩
abbrev check_beginning_N : List Str := ["row", "k"]
theorem sc_check_beginning : FnScope check_beginning_N ["row"] (defScope s_check_beginning) := ⟨rfl, rfl, rfl, by decide +kernel, rfl, by decide +kernel, by decide +kernel⟩
abbrev count_at_N : List Str := ["row", "at"]
theorem sc_count_at : FnScope count_at_N ["row", "at"] (defScope s_count_at) := ⟨rfl, rfl, rfl, by decide +kernel, rfl, by decide +kernel, by decide +kernel⟩
abbrev check_count_N : List Str := ["at", "count", "odd"]
theorem sc_check_count : FnScope check_count_N ["at", "count", "odd"] (defScope s_check_count) := ⟨rfl, rfl, rfl, by decide +kernel, rfl, by decide +kernel, by decide +kernel⟩
abbrev length_at_N : List Str := ["row", "at", "count"]
theorem sc_length_at : FnScope length_at_N ["row", "at", "count"] (defScope s_length_at) := ⟨rfl, rfl, rfl, by decide +kernel, rfl, by decide +kernel, by decide +kernel⟩
abbrev text_at_N : List Str := ["row", "at", "count"]
theorem sc_text_at : FnScope text_at_N ["row", "at", "count"] (defScope s_text_at) := ⟨rfl, rfl, rfl, by decide +kernel, rfl, by decide +kernel, by decide +kernel⟩
abbrev check_ending_N : List Str := ["row", "at", "total"]
theorem sc_check_ending : FnScope check_ending_N ["row", "at", "total"] (defScope s_check_ending) := ⟨rfl, rfl, rfl, by decide +kernel, rfl, by decide +kernel, by decide +kernel⟩
abbrev part_at_N : List Str := ["row", "at", "count", "start", "low", "high", "text"]
theorem sc_part_at : FnScope part_at_N ["row", "at", "count", "start", "low", "high"] (defScope s_part_at) := ⟨rfl, rfl, rfl, by decide +kernel, rfl, by decide +kernel, by decide +kernel⟩
abbrev walked_N : List Str := ["row", "low", "high", "text", "total", "blocks", "odd", "at", "count", "length"]
theorem sc_walked : FnScope walked_N ["row", "low", "high"] (defScope s_walked) := ⟨rfl, rfl, rfl, by decide +kernel, rfl, by decide +kernel, by decide +kernel⟩
abbrev unpacked_N : List Str := ["row", "total", "blocks", "text"]
theorem sc_unpacked : FnScope unpacked_N ["row"] (defScope s_unpacked) := ⟨rfl, rfl, rfl, by decide +kernel, rfl, by decide +kernel, by decide +kernel⟩
abbrev answered_N : List Str := ["number", "data", "numbers"]
theorem sc_answered : FnScope answered_N ["number", "data", "numbers"] (defScope s_answered) := ⟨rfl, rfl, rfl, by decide +kernel, rfl, by decide +kernel, by decide +kernel⟩
abbrev refused_N : List Str := ["number"]
theorem sc_refused : FnScope refused_N ["number"] (defScope s_refused) := ⟨rfl, rfl, rfl, by decide +kernel, rfl, by decide +kernel, by decide +kernel⟩
abbrev no_row_N : List Str := ["kind", "place"]
theorem sc_no_row : FnScope no_row_N ["kind", "place"] (defScope s_no_row) := ⟨rfl, rfl, rfl, by decide +kernel, rfl, by decide +kernel, by decide +kernel⟩
abbrev pack_N : List Str := ["text", "row"]
theorem sc_pack : FnScope pack_N ["text"] (defScope s_pack) := ⟨rfl, rfl, rfl, by decide +kernel, rfl, by decide +kernel, by decide +kernel⟩
abbrev unpack_N : List Str := ["row", "text", "fault"]
theorem sc_unpack : FnScope unpack_N ["row"] (defScope s_unpack) := ⟨rfl, rfl, rfl, by decide +kernel, rfl, by decide +kernel, by decide +kernel⟩
abbrev part_N : List Str := ["row", "start", "many", "total", "blocks", "text", "fault"]
theorem sc_part : FnScope part_N ["row", "start", "many"] (defScope s_part) := ⟨rfl, rfl, rfl, by decide +kernel, rfl, by decide +kernel, by decide +kernel⟩
abbrev judge_N : List Str := ["row", "text", "fault"]
theorem sc_judge : FnScope judge_N ["row"] (defScope s_judge) := ⟨rfl, rfl, rfl, by decide +kernel, rfl, by decide +kernel, by decide +kernel⟩
abbrev length_N : List Str := ["row", "total", "blocks", "text", "fault"]
theorem sc_length : FnScope length_N ["row"] (defScope s_length) := ⟨rfl, rfl, rfl, by decide +kernel, rfl, by decide +kernel, by decide +kernel⟩
abbrev parse_N : List Str := ["text", "steps", "numbers", "first", "second"]
theorem sc_parse : FnScope parse_N ["text"] (defScope s_parse) := ⟨rfl, rfl, rfl, by decide +kernel, rfl, by decide +kernel, by decide +kernel⟩
abbrev lengths_N : List Str := ["often"]
theorem sc_lengths : FnScope lengths_N ["often"] (defScope s_lengths) := ⟨rfl, rfl, rfl, by decide +kernel, rfl, by decide +kernel, by decide +kernel⟩
abbrev begin_N : List Str := ["states", "state"]
theorem sc_begin : FnScope begin_N ["states", "state"] (defScope s_begin) := ⟨rfl, rfl, rfl, by decide +kernel, rfl, by decide +kernel, by decide +kernel⟩
abbrev feed_N : List Str := ["states", "state", "data", "given"]
theorem sc_feed : FnScope feed_N ["states", "state", "data"] (defScope s_feed) := ⟨rfl, rfl, rfl, by decide +kernel, rfl, by decide +kernel, by decide +kernel⟩
abbrev end_N : List Str := ["states", "state", "given"]
theorem sc_end : FnScope end_N ["states", "state"] (defScope s_end) := ⟨rfl, rfl, rfl, by decide +kernel, rfl, by decide +kernel, by decide +kernel⟩
abbrev count_of_N : List Str := ["call"]
theorem sc_count_of : FnScope count_of_N ["call"] (defScope s_count_of) := ⟨rfl, rfl, rfl, by decide +kernel, rfl, by decide +kernel, by decide +kernel⟩
abbrev of_state_N : List Str := ["call", "states", "state", "row"]
theorem sc_of_state : FnScope of_state_N ["call", "states", "state", "row"] (defScope s_of_state) := ⟨rfl, rfl, rfl, by decide +kernel, rfl, by decide +kernel, by decide +kernel⟩
abbrev of_row_N : List Str := ["call", "own", "row"]
theorem sc_of_row : FnScope of_row_N ["call", "own", "row"] (defScope s_of_row) := ⟨rfl, rfl, rfl, by decide +kernel, rfl, by decide +kernel, by decide +kernel⟩
abbrev answers_N : List Str := ["calls", "told", "states", "at", "call", "own", "row", "answer"]
theorem sc_answers : FnScope answers_N ["calls"] (defScope s_answers) := ⟨rfl, rfl, rfl, by decide +kernel, rfl, by decide +kernel, by decide +kernel⟩
end Gz
end

/-! ## WEv -/
section
set_option Elab.async false
set_option linter.all false
set_option maxRecDepth 100000
set_option maxHeartbeats 4000000
namespace Gz
open PySem PySem.Spec PyProof.Rows L2 Evl

/-! ### numbers as values -/
abbrev nv (n : Nat) : V := .int (n : Int)
def nvs (l : List Nat) : List V := l.map nv
def bs (b : List UInt8) : List Nat := b.map UInt8.toNat
def ts (l : List Bool) : List Nat := l.map bit
theorem nvs_length (l : List Nat) : (nvs l).length = l.length := by simp [nvs]
theorem nvs_append (a b : List Nat) : nvs (a ++ b) = nvs a ++ nvs b := by simp [nvs]
theorem nvs_get {l : List Nat} {i n : Nat} (h : l[i]? = some n) : (nvs l)[i]? = some (nv n) := by simp [nvs, h]
theorem nvs_of {l : List Nat} {i : Nat} {x : V} (h : (nvs l)[i]? = some x) : ∃ n, l[i]? = some n ∧ x = nv n := by
  unfold nvs at h
  rw [List.getElem?_map] at h
  cases e : l[i]? with
  | none => rw [e] at h; cases h
  | some n => rw [e] at h; exact ⟨n, rfl, (Option.some.inj h).symm⟩
theorem nvs_ints (l : List Nat) : nvs l = (zn l).map V.int := by simp [nvs, zn, nv]
theorem bs_get {b : List UInt8} {i : Nat} {c : UInt8} (h : b[i]? = some c) : (bs b)[i]? = some c.toNat := by simp [bs, h]
theorem bs_length (b : List UInt8) : (bs b).length = b.length := by simp [bs]
theorem ts_length (b : List Bool) : (ts b).length = b.length := by simp [ts]
theorem bs_append (a b : List UInt8) : bs (a ++ b) = bs a ++ bs b := by simp [bs]
theorem ts_append (a b : List Bool) : ts (a ++ b) = ts a ++ ts b := by simp [ts]

/-! ### what evaluates to what: more -/
section
variable {K : PySem.W.Frag} {σ : L2.St} {H H' : Hp} {ta tb te tx : TE} {t u : TT} {x y z v : V} {r : R2}
theorem ex_at {o : HO} {p : Addr} (e : Ex H H') (h : H p = some o) : H' p = some o := e p o h
theorem ev_I0 {g : Int → Int → V} {i j : Int} (ha : Ev ta σ H (.int i)) (hb : Ev tb σ H (.int j)) : Ev (tOp (rI0 g) ta tb) σ H (g i j) := ev_op ha hb rv_I0
theorem ev_I {C : Int → Int → Prop} {g : Int → Int → V} {i j : Int} (ha : Ev ta σ H (.int i)) (hb : Ev tb σ H (.int j)) (hc : C i j) : Ev (tOp (rI C g) ta tb) σ H (g i j) := ev_op ha hb (rv_I hc)
theorem ev_ix {p : Addr} {xs : List V} {j : Nat} {i : Int} (ha : Ev ta σ H (.ref p)) (hb : Ev tb σ H (.int i)) (h : SqL K H p xs) (hx : xs[j]? = some v) (e : i = (j : Int)) : Ev (tOp (rIxL K) ta tb) σ H v := by
  subst e
  exact ev_op ha hb (rv_ixL h (atI_nat hx))
theorem ev_ixt {p : Addr} {xs : List V} {j : Nat} {i : Int} (ha : Ev ta σ H (.ref p)) (hb : Ev tb σ H (.int i)) (h : SqT K H p xs) (hx : xs[j]? = some v) (e : i = (j : Int)) : Ev (tOp (rIxT K) ta tb) σ H v := by
  subst e
  exact ev_op ha hb (rv_ixT h (atI_nat hx))
theorem ev_bits {i : Int} (h : Ev te σ H (.int i)) : Ev (tBits te) σ H (.int (Builtin.Int.intBits i : Nat)) := fun H1 e _ q => h H1 e _ fun H2 e2 => ⟨i, rfl, q H2 e2⟩
theorem ev_max {i j : Int} (ha : Ev ta σ H (.int i)) (hb : Ev tb σ H (.int j)) : Ev (tCB (fun xs H Q => ∃ i j, xs = [V.int i, V.int j] ∧ Q (.int (if j > i then j else i)) H) (tCons ta (tCons tb tNil))) σ H (.int (max i j)) := fun H1 e Q q =>
  ha H1 e _ fun H2 e2 => hb H2 (e.trans e2) _ fun H3 e3 => ⟨i, j, rfl, by
    have : (if j > i then j else i) = max i j := by omega
    rw [this]
    exact q H3 (e2.trans e3)⟩
theorem ev_min {i j : Int} (ha : Ev ta σ H (.int i)) (hb : Ev tb σ H (.int j)) : Ev (tCB (fun xs H Q => ∃ i j, xs = [V.int i, V.int j] ∧ Q (.int (if j < i then j else i)) H) (tCons ta (tCons tb tNil))) σ H (.int (min i j)) := fun H1 e Q q =>
  ha H1 e _ fun H2 e2 => hb H2 (e.trans e2) _ fun H3 e3 => ⟨i, j, rfl, by
    have : (if j < i then j else i) = min i j := by omega
    rw [this]
    exact q H3 (e2.trans e3)⟩
/-- len of a list -/
theorem ev_lenL {p : Addr} {xs : List V} (ha : Ev ta σ H (.ref p)) (h : SqL K H p xs) : Ev (tCB (fun xs H Q => ∃ p ys, xs = [V.ref p] ∧ (SqL K H p ys ∨ SqT K H p ys) ∧ Q (.int ys.length) H) (tCons ta tNil)) σ H (nv xs.length) := ev_len ha h
theorem ev_eqI {i j : Int} (ha : Ev ta σ H (.int i)) (hb : Ev tb σ H (.int j)) : Ev (tOp rEq ta tb) σ H (.bl (decide (i = j))) := ev_is (ev_op ha hb (rv_eq rfl)) (by
  congr 1
  by_cases h : i = j
  · subst h; simp
  · rw [decide_eq_false h, decide_eq_false fun e => h (V.int.inj e)])
theorem ev_neI {i j : Int} (ha : Ev ta σ H (.int i)) (hb : Ev tb σ H (.int j)) : Ev (tOp rNe ta tb) σ H (.bl (!decide (i = j))) := ev_is (ev_op ha hb (rv_ne rfl)) (by
  congr 1
  by_cases h : i = j
  · subst h; simp
  · rw [decide_eq_false h, decide_eq_false fun e => h (V.int.inj e)])
theorem et_yes : EvT tYes σ H true := fun H1 _ _ q => q H1 (Ex.refl H1)
/-- a comprehension over range(n), no test, its items ints -/
theorem el_rng {ta : TA} {j : Nat} {vs : List Nat} {n : Nat} (g : Nat → Nat) (h : EvA ta σ H [nv n]) (hn : n ≤ 40000) (hw : ∀ x, wipe ((wipe σ vs).set j (some x)) vs = wipe σ vs)
    (he : ∀ (i : Nat) H1, Ex H H1 → i < n → Ev te ((wipe σ vs).set j (some (nv i))) H1 (nv (g i))) : EvL (tLc (iRng1 ta) (gName j) tYes te vs) σ H (nvs ((List.range n).map g)) := by
  have := el_lcR1 (te := te) (t := tYes) (fun _ => true) (fun i => nv (g i)) h ⟨by omega, by omega⟩ hw (fun i H1 _ _ => et_yes) (fun i H1 e hi _ => he i H1 e (by omega))
  unfold given at this
  rw [List.filter_eq_self.mpr (fun _ _ => rfl)] at this
  unfold nvs
  rw [List.map_map]
  exact this
end
/-- a promise's list is made -/
def RetN (l : List Nat) (H : Hp) (Q : VK) : Prop := RetL (nvs l) H Q
/-! ### numbers -/
theorem and255 (n k : Nat) : Builtin.bitAnd ((n : Int) / 2 ^ k) 255 = ((n / 2 ^ k % 256 : Nat) : Int) := by
  rw [bitAnd_m8]
  rw [Int.natCast_emod, Int.natCast_ediv, Int.natCast_pow]
  rfl
theorem and1 (n k : Nat) : Builtin.bitAnd ((n : Int) / 2 ^ k) 1 = ((n / 2 ^ k % 2 : Nat) : Int) := by
  rw [bitAnd_m1]
  rw [Int.natCast_emod, Int.natCast_ediv, Int.natCast_pow]
  rfl
theorem intBits_nat (n : Nat) : Builtin.Int.intBits (n : Int) = SwSqueeze.classOf n := by
  unfold Builtin.Int.intBits SwSqueeze.classOf
  simp
end Gz
end

/-! ## W1 -/
section
set_option Elab.async false
set_option linter.all false
set_option maxRecDepth 100000
set_option maxHeartbeats 4000000
namespace Gz
open PySem PySem.Spec PyProof.Rows L2 Evl
open SwSqueeze (classOf bitsLow bitsHigh)
/-- what the module's names are -/
structure Gs (K : PySem.W.Frag) (mg : Str → Option Value) (aM : Addr) : Prop where
  b_len : mg "len" = none
  b_max : mg "max" = none
  b_min : mg "min" = none
  b_sum : mg "sum" = none
  b_sorted : mg "sorted" = none
  b_list : mg "list" = none
  b_tuple : mg "tuple" = none
  b_range : mg "range" = none
  b_reversed : mg "reversed" = none
  MAGIC : GV mg "MAGIC" (.ref aM)
  magic : ∀ H : Hp, SqT K H aM [nv 83, nv 87, nv 90, nv 49]
  BLOCK : GV mg "BLOCK" (nv 1024)
  LEAST : GV mg "LEAST" (nv 3)
  MOST : GV mg "MOST" (nv 258)
  LETTERS : GV mg "LETTERS" (nv 256)
  SYMBOLS : GV mg "SYMBOLS" (nv 265)
  CLASSES : GV mg "CLASSES" (nv 11)
  LONGEST : GV mg "LONGEST" (nv 15)
  STORED : GV mg "STORED" (nv 0)
  CODED : GV mg "CODED" (nv 1)
  LETTER_COST : GV mg "LETTER_COST" (nv 8)
  MATCH_COST : GV mg "MATCH_COST" (nv 12)
  SCALE : GV mg "SCALE" (nv 2048)
  HIGH : GV mg "HIGH" (.str "abcdefghijklmnop")
  LOW : GV mg "LOW" (.str "ABCDEFGHIJKLMNOP")
  ENDS : GV mg "ENDS" (nv 1)
  WRONG : GV mg "WRONG" (nv 2)
  COUNTS : GV mg "COUNTS" (nv 3)
  LEFT_OVER : GV mg "LEFT_OVER" (nv 4)
  NO_BLOCK : GV mg "NO_BLOCK" (nv 5)
  TEXT_MOST : GV mg "TEXT_MOST" (nv 65536)
  ROW_MOST : GV mg "ROW_MOST" (nv 131072)
  OFTEN_MOST : GV mg "OFTEN_MOST" (nv 32768)
  STATES : GV mg "STATES" (nv 4)
  OUT_OF_BOUNDS : GV mg "OUT_OF_BOUNDS" (.int (-1))
  TOO_MANY : GV mg "TOO_MANY" (.int (-2))
  NOT_BEGUN : GV mg "NOT_BEGUN" (.int (-3))
  NO_ROW : GV mg "NO_ROW" (.int (-6))
  ANOTHER : GV mg "ANOTHER" (.int (-9))
  PACK : GV mg "PACK" (nv 0)
  UNPACK : GV mg "UNPACK" (nv 1)
  AT : GV mg "AT" (nv 2)
  JUDGE : GV mg "JUDGE" (nv 3)
  LENGTH : GV mg "LENGTH" (nv 4)
  PARSE : GV mg "PARSE" (nv 5)
  BEGIN : GV mg "BEGIN" (nv 7)
  FEED : GV mg "FEED" (nv 8)
  END : GV mg "END" (nv 9)

section
variable {P : Program} {w : World} {K : PySem.W.Frag} {mg : Str → Option Value} {base : Heap} {f : Addr} {fd : FuncData} {aM : Addr}

/-! ### class_of -/
def spClass : Sp := fun vs H Q _ => ∃ n : Nat, vs = [nv n] ∧ RetV (nv (classOf n)) H Q
theorem ok_class_of (F : Fun K "class_of" "class_of" s_class_of f fd) : FnOk P w K mg base CX0 1 f fd ["number"] spClass := by
  refine F.ok sc_class_of (fun vs H Q E h => ?_) (fun cdv A outer s H vs Q E hr h => ?_)
  · obtain ⟨n, rfl, _⟩ := h
    rfl
  obtain ⟨n, rfl, k⟩ := h
  refine ⟨_, (pss_one (ps_ret (pe_bits (pv 0)))), ?_⟩
  refine s_ret (ev_bits (ev_var rfl)) fun H1 e => ?_
  rw [intBits_nat]
  exact k H1 e
/-! ### further -/
def spFurther : Sp := fun vs H Q _ => ∃ n : Nat, vs = [nv n] ∧ RetV (nv (n - 1)) H Q
theorem ok_further (T : Gs K mg aM) (F : Fun K "further" "further" s_further f fd) : FnOk P w K mg base CX0 1 f fd ["group"] spFurther := by
  refine F.ok sc_further (fun vs H Q E h => ?_) (fun cdv A outer s H vs Q E hr h => ?_)
  · obtain ⟨n, rfl, _⟩ := h
    rfl
  obtain ⟨n, rfl, k⟩ := h
  refine ⟨_, (pss_one (ps_ret (pe_callB (call_max2 rfl) (by rfl) T.b_max (by decide +kernel) (pa_cons (pe_op op_sub (pv 0) pe_int) (pa_cons pe_int pa_nil))))), ?_⟩
  refine s_ret (ev_is (ev_max (ev_I0 (ev_var rfl) ev_c) ev_c) ?_) k
  show V.int _ = V.int _
  congr 1
  omega
/-! ### lowest -/
def spLowest : Sp := fun vs H Q _ => ∃ n : Nat, vs = [nv n] ∧ n ≤ 1000 ∧ RetV (nv (if n = 0 then 0 else 2 ^ (n - 1))) H Q
theorem ok_lowest (T : Gs K mg aM) (F : Fun K "lowest" "lowest" s_lowest f fd) : FnOk P w K mg base CX0 1 f fd ["group"] spLowest := by
  refine F.ok sc_lowest (fun vs H Q E h => ?_) (fun cdv A outer s H vs Q E hr h => ?_)
  · obtain ⟨n, rfl, _⟩ := h
    rfl
  obtain ⟨n, rfl, hn, k⟩ := h
  refine ⟨_, (pss_cons (ps_if (pt_cmpR op_eq (pv 0) pe_int (nomark _)) (pss_one (ps_ret pe_int)) pss_nil) (pss_one (ps_ret (pe_op op_shl pe_int (pe_op op_sub (pv 0) pe_int))))), ?_⟩
  refine q_when (et_test (ev_eqI (ev_var rfl) ev_c)) (fun h H1 e => ?_) (fun h H1 e => ?_)
  · have h : n = 0 := by have := of_decide_eq_true h; omega
    subst h
    exact s_ret ev_c fun H2 e2 => k H2 (e.trans e2)
  · have h : n ≠ 0 := by have := of_decide_eq_false h; omega
    rw [if_neg h] at k
    refine s_ret (ev_is (ev_I ev_c (ev_I0 (ev_var rfl) ev_c) ?_) ?_) fun H2 e2 => k H2 (e.trans e2)
    · exact ⟨by omega, by omega, by decide⟩
    · show V.int _ = V.int _
      congr 1
      have : ((n : Int) - 1).toNat = n - 1 := by omega
      rw [this, Int.natCast_pow, Int.one_mul]
      rfl
/-! ### told -/
def spTold : Sp := fun vs H Q _ => ∃ n k : Nat, vs = [nv n, nv k] ∧ k ≤ 1000 ∧ RetN (bs (Sw.le k n)) H Q
theorem bs_le (k n : Nat) : bs (Sw.le k n) = (List.range k).map fun i => n / 2 ^ (8 * i) % 256 := by
  unfold bs Sw.le
  rw [List.map_map]
  apply List.map_congr_left
  intro i _
  show (UInt8.ofNat (n / 256 ^ i % 256)).toNat = _
  rw [toNat_ofNat_lt (Nat.mod_lt _ (by decide)), Nat.pow_mul]
theorem ok_told (T : Gs K mg aM) (F : Fun K "told" "told" s_told f fd) : FnOk P w K mg base CX0 1 f fd ["number", "count"] spTold := by
  refine F.ok sc_told (fun vs H Q E h => ?_) (fun cdv A outer s H vs Q E hr h => ?_)
  · obtain ⟨n, k, rfl, _⟩ := h
    rfl
  obtain ⟨n, k, rfl, hk, q⟩ := h
  refine ⟨_, (pss_one (ps_ret (pe_lc (own := [("k", 2)]) rfl sc_told.nd (pi_range1 (by rfl) T.b_range (pa_cons (pv 1) pa_nil)) (blkOk_by (own := [("k", 2)]) (N := told_N) (sc := defScope s_told) (by decide +kernel)) (fun _ _ _ _ _ => pg_name (i := 2) sc_told.nd rfl (Or.inl rfl)) (fun _ _ _ _ _ => pts_nil) (fun _ _ _ _ _ => (pe_op op_and (pe_op op_shr (pv 0) (pe_op op_mul pe_int (pv 2))) pe_int))))), ?_⟩
  rw [bs_le] at q
  refine s_retL (el_rng (fun i => n / 2 ^ (8 * i) % 256) (ea_cons (ev_var rfl) ea_nil) (by omega) (fun _ => rfl) fun i H1 e hi => ?_) q
  refine ev_is (ev_I0 (ev_I (ev_var rfl) (ev_I ev_c (ev_var rfl) (.inl ⟨by decide, by decide⟩)) (by show (0 : Int) ≤ 8 * (i : Int); omega)) ev_c) ?_
  show V.int _ = V.int _
  have : ((8 : Int) * (i : Int)).toNat = 8 * i := by omega
  rw [this, and255]
/-! ### heard -/
def spHeard (K : PySem.W.Frag) : Sp := fun vs H Q _ => ∃ (a : Addr) (b : List UInt8) (i k : Nat), vs = [.ref a, nv i, nv k] ∧ SqL K H a (nvs (bs b)) ∧ k ≤ 1000 ∧ i + k ≤ b.length ∧ RetV (nv (Sw.ofLe (Sw.part b i k))) H Q
theorem ok_heard (T : Gs K mg aM) (F : Fun K "heard" "heard" s_heard f fd) : FnOk P w K mg base CX0 1 f fd ["data", "at", "count"] (spHeard K) := by
  refine F.ok sc_heard (fun vs H Q E h => ?_) (fun cdv A outer s H vs Q E hr h => ?_)
  · obtain ⟨a, b, i, k, rfl, _⟩ := h
    rfl
  obtain ⟨a, b, i, k, rfl, hS, hk, hl, q⟩ := h
  refine ⟨_, (pss_cons (ps_set (i := 3) sc_heard.nd rfl (Or.inl rfl) pe_int)
    (pss_cons (ps_for PassesOwn.never rfl (pi_range1 (by rfl) T.b_range (pa_cons (pv 2) pa_nil)) (pg_name (i := 4) sc_heard.nd rfl (Or.inl rfl))
      (pss_one (ps_aug (i := 3) sc_heard.nd rfl (Or.inl rfl) (pe_op op_shl (pe_ix ix_list (pv 0) (pe_op op_add (pv 1) (pv 4)) (fun _ _ => rfl)) (pe_op op_mul pe_int (pv 4))) ip_add)))
    (pss_one (ps_ret (pv 3))))), ?_⟩
  refine q_asg ev_c fun H1 e1 => ?_
  refine q_forR1 (ea_cons (ev_var rfl) ea_nil) ⟨by omega, by omega⟩ (fun j σ H' => ∃ v, σ = [some (.ref a), some (nv i), some (nv k), some (nv (Sw.ofLe (Sw.part b i j))), v] ∧ Ex H1 H')
    (fun H2 e2 => ⟨none, rfl, e2⟩) ?_ ?_
  · rintro j σ H' hj ⟨v, rfl, e2⟩
    have hlt : i + j < b.length := by omega
    have hx := nvs_get (bs_get (List.getElem?_eq_getElem hlt))
    refine s_aug rfl (ev_is (w := nv (b[i + j].toNat * 2 ^ (8 * j))) (ev_I (ev_ix (ev_var rfl) (ev_I0 (ev_var rfl) (ev_var rfl)) (ex_l e2 (ex_l e1 hS)) hx (by omega)) (ev_I ev_c (ev_var rfl) (.inl ⟨by decide, by decide⟩)) ?_) ?_) fun H2 e3 => ?_
    · refine ⟨by omega, by omega, ?_⟩
      have := b[i + j].toNat_lt
      omega
    · show V.int _ = V.int _
      have : ((8 : Int) * (j : Int)).toNat = 8 * j := by omega
      rw [this, Int.natCast_mul, Int.natCast_pow]
      rfl
    · refine ⟨some (nv j), ?_, e2.trans e3⟩
      rw [ofLe_more (List.getElem?_eq_getElem hlt)]
      rfl
  · rintro σ H' ⟨v, rfl, e2⟩
    exact s_ret (ev_var rfl) fun H2 e3 => q H2 ((e1.trans e2).trans e3)
end
end Gz
end

/-! ## WTup -/
section
set_option Elab.async false
set_option linter.all false
set_option maxRecDepth 100000
set_option maxHeartbeats 4000000
namespace Gz
open PySem PySem.Spec PyProof.Rows L2 Evl

/-! ### lists of tuples of numbers -/
theorem paired_snoc {α β : Type} {F : α → β → Prop} : ∀ {l : List α} {m : List β} {a : α} {b : β}, Paired F l m → F a b → Paired F (l ++ [a]) (m ++ [b])
  | _, _, _, _, .nil, h => .cons h .nil
  | _, _, _, _, .cons r t, h => .cons r (paired_snoc t h)
theorem paired_get {α β : Type} {F : α → β → Prop} : ∀ {l : List α} {m : List β} {i : Nat} {b : β}, Paired F l m → m[i]? = some b → ∃ a, l[i]? = some a ∧ F a b
  | _, _, _, _, .nil, h => by simp at h
  | _, _, 0, _, .cons r t, h => by
    have e := Option.some.inj h
    subst e
    exact ⟨_, rfl, r⟩
  | _, _, i + 1, _, .cons r t, h => by
    rw [List.getElem?_cons_succ] at h
    obtain ⟨a, e, q⟩ := paired_get t h
    exact ⟨a, by rw [List.getElem?_cons_succ]; exact e, q⟩
theorem paired_getL {α β : Type} {F : α → β → Prop} : ∀ {l : List α} {m : List β} {i : Nat} {a : α}, Paired F l m → l[i]? = some a → ∃ b, m[i]? = some b ∧ F a b
  | _, _, _, _, .nil, h => by simp at h
  | _, _, 0, _, .cons r t, h => by
    have e := Option.some.inj h
    subst e
    exact ⟨_, rfl, r⟩
  | _, _, i + 1, _, .cons r t, h => by
    rw [List.getElem?_cons_succ] at h
    obtain ⟨a, e, q⟩ := paired_getL t h
    exact ⟨a, by rw [List.getElem?_cons_succ]; exact e, q⟩
theorem paired_take {α β : Type} {F : α → β → Prop} : ∀ {l : List α} {m : List β} (n : Nat), Paired F l m → Paired F (l.take n) (m.take n)
  | _, _, 0, _ => .nil
  | _, _, n + 1, .nil => .nil
  | _, _, n + 1, .cons r t => .cons r (paired_take n t)
theorem paired_append {α β : Type} {F : α → β → Prop} : ∀ {l : List α} {m : List β} {l' : List α} {m' : List β}, Paired F l m → Paired F l' m' → Paired F (l ++ l') (m ++ m')
  | _, _, _, _, .nil, h => h
  | _, _, _, _, .cons r t, h => .cons r (paired_append t h)
/-- a tuple of numbers -/
def IsT (H : Hp) (y : V) (r : List Nat) : Prop := ∃ t, y = .ref t ∧ H t = some (.tup (nvs r))
theorem IsT.ex {H H' : Hp} {y : V} {r : List Nat} (e : Ex H H') (h : IsT H y r) : IsT H' y r := by
  obtain ⟨t, ey, ht⟩ := h
  exact ⟨t, ey, e t _ ht⟩
/-- items that are such tuples -/
def Ts (H : Hp) (ys : List V) (rs : List (List Nat)) : Prop := Paired (IsT H) ys rs
theorem Ts.ex {H H' : Hp} {ys : List V} {rs : List (List Nat)} (e : Ex H H') (h : Ts H ys rs) : Ts H' ys rs := Paired.mapP h fun _ _ r => r.ex e
theorem Ts.length {H : Hp} {ys : List V} {rs : List (List Nat)} (h : Ts H ys rs) : ys.length = rs.length := Paired.length h
def TupL (H : Hp) (p : Addr) (rs : List (List Nat)) : Prop := ∃ ys, H p = some (.lst ys) ∧ Ts H ys rs
theorem TupL.ex {H H' : Hp} {p : Addr} {rs : List (List Nat)} (e : Ex H H') (h : TupL H p rs) : TupL H' p rs := by
  obtain ⟨ys, h1, h2⟩ := h
  exact ⟨ys, e p _ h1, h2.ex e⟩
def pr (q : Nat × Nat) : List Nat := [q.1, q.2]
abbrev PairL (H : Hp) (p : Addr) (ps : List (Nat × Nat)) : Prop := TupL H p (ps.map pr)

/-- evaluates to a new list of tuples -/
def EvT2 (te : TE) (σ : L2.St) (H : Hp) (rs : List (List Nat)) : Prop := ∀ H1, Ex H H1 → ∀ Q : VK, (∀ p H2, H1 p = none → Ex H1 H2 → TupL H2 p rs → Q (.ref p) H2) → te σ H1 Q
section
variable {K : PySem.W.Frag} {σ : L2.St} {H H' : Hp} {ta tb te tx : TE} {t u : TT} {x y z v : V} {D : Ends} {tz tu : TS}
theorem EvT2.is {rs rs' : List (List Nat)} (h : EvT2 te σ H rs) (e : rs = rs') : EvT2 te σ H rs' := e ▸ h
theorem s_asgT {i : Nat} {rs : List (List Nat)} (h : EvT2 te σ H rs) (k : ∀ p H1, H p = none → Ex H H1 → TupL H1 p rs → D.nx (σ.set i (some (.ref p))) H1) : tAsg te (gName i) D σ H := h H (Ex.refl H) _ fun p H1 hp e h1 => k p H1 hp e h1
theorem q_asgT {i : Nat} {rs : List (List Nat)} (h : EvT2 te σ H rs) (k : ∀ p H1, H p = none → Ex H H1 → TupL H1 p rs → tz D (σ.set i (some (.ref p))) H1) : tSeq (tAsg te (gName i)) tz D σ H := s_asgT (D := { D with nx := tz D }) h k
theorem s_retT {rs : List (List Nat)} (h : EvT2 te σ H rs) (k : ∀ p H1, H p = none → Ex H H1 → TupL H1 p rs → D.rt (.ref p) H1) : tRet te D σ H := h H (Ex.refl H) _ fun p H1 hp e h1 => k p H1 hp e h1
/-- the new list of a comprehension while it grows -/
def Cg (H : Hp) (rs : List (List Nat)) (Dl : Addr) (H' : Hp) : Prop := H Dl = none ∧ Ex H H' ∧ TupL H' Dl rs
theorem cg_start {Dl : Addr} (h : H Dl = none) : Cg H [] Dl (upd H Dl (.lst [])) := ⟨h, Ex.new h, [], upd_same, .nil⟩
theorem cg_more {H H' : Hp} {rs : List (List Nat)} {Dl : Addr} {σ2 : L2.St} {r : List Nat} (p : Cg H rs Dl H') (hz : rs.length < 50000) (he : EvU te σ2 H (nvs r)) {N : Hp → Prop} (hN : ∀ H2, Cg H (rs ++ [r]) Dl H2 → N H2) :
    te σ2 H' fun y H4 => ∃ acc, H4 Dl = some (.lst acc) ∧ acc.length < sizeLine ∧ N (upd H4 Dl (.lst (acc ++ [y]))) := by
  obtain ⟨p1, p2, ys, p3, p4⟩ := p
  refine he H' p2 _ fun q H2 hq e2 hq2 => ⟨ys, e2 _ _ p3, sz_lt (by have := p4.length; omega), hN _ ?_⟩
  have em : Ex H (upd H2 Dl (.lst (ys ++ [.ref q]))) := Ex.mut (p2.trans e2) p1
  have hqD : q ≠ Dl := fun e => by rw [e, p3] at hq; cases hq
  -- the tuples stand: they're no lists
  have keep : ∀ (y : V) (r : List Nat), IsT H2 y r → IsT (upd H2 Dl (.lst (ys ++ [.ref q]))) y r := fun y r ⟨t, ey, ht⟩ => ⟨t, ey, by
    rw [upd_ne (ne_of ht (e2 _ _ p3) fun z => by cases z)]
    exact ht⟩
  refine ⟨p1, em, ys ++ [.ref q], upd_same, paired_snoc (Paired.mapP (p4.ex e2) keep) (keep _ _ ⟨q, rfl, hq2⟩)⟩
/-- over range(n) -/
theorem el_rngT {ta : TA} {j : Nat} {vs : List Nat} {n : Nat} (f : Nat → Bool) (g : Nat → List Nat) (h : EvA ta σ H [nv n]) (hn : n ≤ 40000) (hw : ∀ x, wipe ((wipe σ vs).set j (some x)) vs = wipe σ vs)
    (ht : ∀ (i : Nat) H1, Ex H H1 → i < n → EvT t ((wipe σ vs).set j (some (nv i))) H1 (f i)) (he : ∀ (i : Nat) H1, Ex H H1 → i < n → f i = true → EvU te ((wipe σ vs).set j (some (nv i))) H1 (nvs (g i))) :
    EvT2 (tLc (iRng1 ta) (gName j) t te vs) σ H (((List.range n).filter f).map g) := fun H0 e Q q => h H0 e _ fun H1 e1 => ⟨(n : Int), rfl, by omega, by omega, fun Dl hD =>
  lc_range (lo := 0) (n := ((n : Int)).toNat) (fun i => Cg H1 (((List.range i).filter f).map g) Dl) (cg_start hD) (fun i H' hi p => by
    have hi' : i < n := by omega
    have e0 : (0 : Int) + (i : Int) = (i : Int) := Int.zero_add _
    show wipe ((wipe σ vs).set j (some (.int ((0 : Int) + (i : Int))))) vs = wipe σ vs ∧ _
    rw [e0]
    refine ⟨hw _, ht i H1 (e.trans e1) hi' H' p.2.1 _ fun H2 e2 => ?_⟩
    have p2 : Cg H1 (((List.range i).filter f).map g) Dl H2 := ⟨p.1, p.2.1.trans e2, p.2.2.ex e2⟩
    have hlen : (((List.range i).filter f).map g).length ≤ i := by
      rw [List.length_map]
      exact Nat.le_trans (List.length_filter_le _ _) (by simp)
    cases hf : f i with
    | true =>
      have hnx : ((List.range (i + 1)).filter f).map g = ((List.range i).filter f).map g ++ [g i] := by
        rw [List.range_succ, List.filter_append, List.map_append, List.filter_cons, if_pos hf]
        rfl
      exact cg_more p2 (by omega) (he i H1 (e.trans e1) hi' hf) (fun H2 c => by rw [hnx]; exact c)
    | false =>
      have hnx : ((List.range (i + 1)).filter f).map g = ((List.range i).filter f).map g := by
        rw [List.range_succ, List.filter_append, List.map_append, List.filter_cons, if_neg (by rw [hf]; decide)]
        exact List.append_nil _
      show Cg H1 (((List.range (i + 1)).filter f).map g) Dl H2
      rw [hnx]
      exact p2) (fun H' p => by
        have hn' : ((n : Int)).toNat = n := by omega
        rw [hn'] at p
        exact q Dl H' (fresh_back e1 p.1) (e1.trans p.2.1) p.2.2)⟩
/-- over range(a, b, c) -/
theorem el_rngT3 {ta : TA} {j : Nat} {vs : List Nat} {a b c : Int} {n : Nat} (g : Nat → List Nat) (h : EvA ta σ H [.int a, .int b, .int c]) (hr : RgC a b c n) (hn : n ≤ 40000) (hw : ∀ x, wipe ((wipe σ vs).set j (some x)) vs = wipe σ vs)
    (he : ∀ (i : Nat) H1, Ex H H1 → i < n → EvU te ((wipe σ vs).set j (some (.int (a + (i : Int) * c)))) H1 (nvs (g i))) :
    EvT2 (tLc (iRng3 ta) (gName j) tYes te vs) σ H ((List.range n).map g) := fun H0 e Q q => h H0 e _ fun H1 e1 => ⟨a, b, c, n, rfl, hr, fun Dl hD => by
  refine ⟨fun i m H => m = n - i ∧ i ≤ n ∧ Cg H1 ((List.range i).map g) Dl H, ⟨n, by simp, Nat.zero_le _, cg_start hD⟩, ?_⟩
  rintro i m H ⟨rfl, hi, p⟩
  by_cases hlt : i < n
  · refine .inr ⟨hlt, fun H' => Cg H1 ((List.range (i + 1)).map g) Dl H', fun H' p' => ⟨n - (i + 1), by omega, rfl, hlt, p'⟩, fun x H' y => ?_⟩
    obtain ⟨e2, y⟩ := y
    subst e2 y
    refine ⟨hw _, ?_⟩
    show te _ _ _
    have hlen : ((List.range i).map g).length ≤ i := by simp
    exact cg_more p (by omega) (he i H1 (e.trans e1) hlt) fun H2 c => by
      rw [List.range_succ, List.map_append]
      exact c
  · have e2 : i = n := by omega
    subst e2
    exact .inl ⟨Nat.le_refl _, q Dl H (fresh_back e1 p.1) (e1.trans p.2.1) p.2.2⟩⟩
/-- the targets a, b of a tuple -/
theorem g_pair {i j : Nat} {r : List Nat} {a b : Nat} {Q : L2.St → Hp → Prop} (h : IsT H x r) (hr : r = [a, b]) (q : Q ((σ.set i (some (nv a))).set j (some (nv b))) H) : gTup K 2 (gCons (gName i) (gCons (gName j) gNil)) x σ H Q := by
  obtain ⟨t, rfl, ht⟩ := h
  subst hr
  exact ⟨t, nvs [a, b], rfl, .inl (.inl ht), rfl, nv a, [nv b], rfl, nv b, [], rfl, rfl, q⟩
theorem g_triple {i j k : Nat} {r : List Nat} {a b c : Nat} {Q : L2.St → Hp → Prop} (h : IsT H x r) (hr : r = [a, b, c]) (q : Q (((σ.set i (some (nv a))).set j (some (nv b))).set k (some (nv c))) H) : gTup K 3 (gCons (gName i) (gCons (gName j) (gCons (gName k) gNil))) x σ H Q := by
  obtain ⟨t, rfl, ht⟩ := h
  subst hr
  exact ⟨t, nvs [a, b, c], rfl, .inl (.inl ht), rfl, nv a, [nv b, nv c], rfl, nv b, [nv c], rfl, nv c, [], rfl, rfl, q⟩
/-- evaluates to a list of tuples that stands or is new -/
def EvS (te : TE) (σ : L2.St) (H : Hp) (rs : List (List Nat)) : Prop := ∀ H1, Ex H H1 → ∀ Q : VK, (∀ p H2, Ex H1 H2 → TupL H2 p rs → Q (.ref p) H2) → te σ H1 Q
theorem EvT2.s {rs : List (List Nat)} (h : EvT2 te σ H rs) : EvS te σ H rs := fun H1 e Q q => h H1 e Q fun p H2 _ e2 h2 => q p H2 e2 h2
theorem evs_var {p : Addr} {rs : List (List Nat)} (h : Ev te σ H (.ref p)) (hp : TupL H p rs) : EvS te σ H rs := fun H1 e Q q => h H1 e Q fun H2 e2 => q p H2 e2 (hp.ex (e.trans e2))
/-- over such a list, the item a pair: ints come -/
theorem el_tupI {tl : TE} {i j : Nat} {vs : List Nat} {ps : List (Nat × Nat)} (g : Nat × Nat → Nat) (h : EvS tl σ H (ps.map pr)) (hz : ps.length ≤ 40000) (hw : ∀ x y, wipe (((wipe σ vs).set i (some x)).set j (some y)) vs = wipe σ vs)
    (he : ∀ (q : Nat × Nat) H1, Ex H H1 → Ev te (((wipe σ vs).set i (some (nv q.1))).set j (some (nv q.2))) H1 (nv (g q))) :
    EvL (tLc (iList K tl) (gTup K 2 (gCons (gName i) (gCons (gName j) gNil))) tYes te vs) σ H (nvs (ps.map g)) := fun H0 e Q q => h H0 e _ fun a H1 e1 ⟨ys, ha, hy⟩ => ⟨a, rfl, ⟨ys, sq_of ha⟩, fun Dl hD => by
  have hlen : ys.length = ps.length := by rw [hy.length, List.length_map]
  refine lc_list (xs := ys) (fun k H' => H1 Dl = none ∧ Ex H1 H' ∧ H' Dl = some (.lst (nvs ((ps.take k).map g)))) ⟨hD, Ex.new hD, upd_same⟩ (fun k H' _ p => sq_of (p.2.1 a _ ha)) (fun k x H' hx p => ?_) (fun H' p => ?_)
  · obtain ⟨r, hr, ht⟩ := paired_getL hy hx
    rw [List.getElem?_map] at hr
    cases hq : ps[k]? with
    | none => rw [hq] at hr; cases hr
    | some q0 =>
      rw [hq] at hr
      have er : r = pr q0 := (Option.some.inj hr).symm
      refine g_pair (ht.ex p.2.1) er ⟨hw _ _, ?_⟩
      show te _ _ _
      refine he q0 H1 (e.trans e1) H' p.2.1 _ fun H2 e2 => ⟨_, e2 _ _ p.2.2, ?_, p.1, Ex.mut (p.2.1.trans e2) p.1, ?_⟩
      · rw [nvs_length, List.length_map]
        exact sz_lt (by have := List.length_take_le k ps; have := (List.getElem?_eq_some_iff.mp hq).1; rw [List.length_take]; omega)
      · rw [upd_same, take_more hq, List.map_append, nvs_append]
        rfl
  · rw [hlen, List.take_length] at p
    exact q Dl H' (fresh_back e1 p.1) (e1.trans p.2.1) p.2.2⟩
/-- the same, tuples come -/
theorem el_tupT {tl : TE} {i j : Nat} {vs : List Nat} {ps : List (Nat × Nat)} (g : Nat × Nat → List Nat) (h : EvS tl σ H (ps.map pr)) (hz : ps.length ≤ 40000) (hw : ∀ x y, wipe (((wipe σ vs).set i (some x)).set j (some y)) vs = wipe σ vs)
    (he : ∀ (q : Nat × Nat) H1, Ex H H1 → EvU te (((wipe σ vs).set i (some (nv q.1))).set j (some (nv q.2))) H1 (nvs (g q))) :
    EvT2 (tLc (iList K tl) (gTup K 2 (gCons (gName i) (gCons (gName j) gNil))) tYes te vs) σ H (ps.map g) := fun H0 e Q q => h H0 e _ fun a H1 e1 ⟨ys, ha, hy⟩ => ⟨a, rfl, ⟨ys, sq_of ha⟩, fun Dl hD => by
  have hlen : ys.length = ps.length := by rw [hy.length, List.length_map]
  refine lc_list (xs := ys) (fun k H' => Cg H1 ((ps.take k).map g) Dl H') (cg_start hD) (fun k H' _ p => sq_of (p.2.1 a _ ha)) (fun k x H' hx p => ?_) (fun H' p => ?_)
  · obtain ⟨r, hr, ht⟩ := paired_getL hy hx
    rw [List.getElem?_map] at hr
    cases hq : ps[k]? with
    | none => rw [hq] at hr; cases hr
    | some q0 =>
      rw [hq] at hr
      have er : r = pr q0 := (Option.some.inj hr).symm
      refine g_pair (ht.ex p.2.1) er ⟨hw _ _, ?_⟩
      show te _ _ _
      refine cg_more p (by have := List.length_take_le k ps; have := (List.getElem?_eq_some_iff.mp hq).1; rw [List.length_map, List.length_take]; omega) (he q0 H1 (e.trans e1)) fun H2 c => ?_
      rw [take_more hq, List.map_append]
      exact c
  · rw [hlen, List.take_length] at p
    exact q Dl H' (fresh_back e1 p.1) (e1.trans p.2.1) p.2.2⟩
/-- a slice from the front -/
theorem evt_take {tl : TE} {th : TO} {p : Addr} {rs : List (List Nat)} {n : Nat} (h : Ev tl σ H (.ref p)) (hp : TupL H p rs) (h2 : EvO th σ H (some (n : Int))) : EvT2 (tSl (rSlL K) tl tNoPart th) σ H (rs.take n) := fun H1 e Q q =>
  h H1 e _ fun H2 e2 => h2 H2 (e.trans e2) _ fun H3 e3 => by
    obtain ⟨ys, h3, h4⟩ := hp.ex ((e.trans e2).trans e3)
    refine ⟨p, ys, rfl, sq_of h3, fun l hl => q l _ (fresh_back (e2.trans e3) hl) ((e2.trans e3).trans (Ex.new hl)) ⟨ys.take n, ?_, Ts.ex (Ex.new hl) (paired_take n h4)⟩⟩
    rw [upd_same]
    congr 2
    unfold cutV
    rw [HT.sIx_none, show HT.sIx ys.length ys.length (some (n : Int)) = min n ys.length from HT.sIx_nat _ _ _, List.drop_zero, Nat.sub_zero, List.take_eq_take_iff]
    omega
theorem evs_take {tl : TE} {th : TO} {p : Addr} {rs : List (List Nat)} {n : Nat} (h : Ev tl σ H (.ref p)) (hp : TupL H p rs) (h2 : EvO th σ H (some (n : Int))) : EvS (tSl (rSlL K) tl tNoPart th) σ H (rs.take n) := (evt_take h hp h2).s
/-- two lists joined -/
theorem evt_cat {p q : Addr} {rs ss : List (List Nat)} (ha : Ev ta σ H (.ref p)) (hb : Ev tb σ H (.ref q)) (hp : TupL H p rs) (hq : TupL H q ss) (hz : rs.length + ss.length ≤ 100000) : EvT2 (tOp rCat ta tb) σ H (rs ++ ss) := fun H1 e Q k =>
  ha H1 e _ fun H2 e2 => hb H2 (e.trans e2) _ fun H3 e3 => by
    obtain ⟨ys, h1, h2⟩ := hp.ex ((e.trans e2).trans e3)
    obtain ⟨zs, h3, h4⟩ := hq.ex ((e.trans e2).trans e3)
    refine ⟨p, q, ys, zs, rfl, rfl, h1, h3, sz_of (by have := h2.length; have := h4.length; omega), fun l hl => k l _ (fresh_back (e2.trans e3) hl) ((e2.trans e3).trans (Ex.new hl)) ⟨ys ++ zs, upd_same, Ts.ex (Ex.new hl) (paired_append h2 h4)⟩⟩
/-- sorted -/
def keyAt (H : Hp) (v : V) : Int × Int := match v with
  | .ref t => match H t with
    | some (.tup [.int i, .int j]) => (i, j)
    | _ => (0, 0)
  | _ => (0, 0)
theorem keyAt_is {q : Nat × Nat} (h : IsT H x (pr q)) : keyAt H x = ((q.1 : Int), (q.2 : Int)) := by
  obtain ⟨t, rfl, ht⟩ := h
  unfold keyAt
  simp only [ht]
  rfl
theorem paired_perm {α β : Type} {F : α → β → Prop} {l : List α} {m : List β} (k : α → β) (hk : ∀ a b, F a b → k a = b) (h : Paired F l m) : m = l.map k := by
  induction h with
  | nil => rfl
  | cons r t ih => rw [List.map_cons, ih, hk _ _ r]
theorem ts_pairs : ∀ {ps : List (Nat × Nat)} {ys : List V}, Ts H ys (ps.map pr) → Paired (fun y q => IsT H y (pr q)) ys ps
  | [], _, h => by
    cases h
    exact .nil
  | q :: ps, _, h => by
    cases h with
    | cons r t => exact .cons r (ts_pairs t)
theorem evt_sorted {ps rs : List (Nat × Nat)} (h : EvS ta σ H (ps.map pr)) (hu : ∀ qs : List (Nat × Nat), qs.Perm ps → qs.Pairwise pLe → qs = rs) : EvT2 (tCB (rSortedPO K) (tCons ta tNil)) σ H (rs.map pr) := fun H1 e Q k =>
  h H1 e _ fun a H2 e2 ⟨ys, h1, h2⟩ => by
    -- each item's pair
    have hit : ∀ y ∈ ys, ∃ q, IsT H2 y (pr q) := fun y hy => by
      obtain ⟨i, hi⟩ := List.mem_iff_getElem?.mp hy
      obtain ⟨r, hr, ht⟩ := paired_getL h2 hi
      rw [List.getElem?_map] at hr
      cases hq : ps[i]? with
      | none => rw [hq] at hr; cases hr
      | some q => rw [hq] at hr; rw [← Option.some.inj hr] at ht; exact ⟨q, ht⟩
    refine ⟨a, ys, keyAt H2, rfl, sq_of h1, fun y hy => ?_, fun zs l hs hst hl => ?_⟩
    · obtain ⟨q, hq⟩ := hit y hy
      rw [keyAt_is hq]
      obtain ⟨t, ey, ht⟩ := hq
      exact ⟨t, ey, ht⟩
    · have hz : ∀ z ∈ zs, ∃ q, IsT H2 z (pr q) := fun z hz => hit z (hst.perm.mem_iff.mp hz)
      let kk : V → Nat × Nat := fun v => ((keyAt H2 v).1.toNat, (keyAt H2 v).2.toNat)
      have hk : ∀ v q, IsT H2 v (pr q) → kk v = q := fun v q hv => by
        show ((keyAt H2 v).1.toNat, (keyAt H2 v).2.toNat) = q
        rw [keyAt_is hv]
        rfl
      have hpsk : ps = ys.map kk := by
        exact paired_perm kk hk (ts_pairs h2)
      have hperm : (zs.map kk).Perm ps := by rw [hpsk]; exact hst.perm.map kk
      have hsort : (zs.map kk).Pairwise pLe := by
        rw [List.pairwise_map]
        refine hs.imp_of_mem fun {x y} hx hy hxy => ?_
        obtain ⟨q1, h3⟩ := hz x hx
        obtain ⟨q2, h4⟩ := hz y hy
        rw [hk _ _ h3, hk _ _ h4]
        have := SrtO.lexB_no.mp hxy
        rw [keyAt_is h3, keyAt_is h4] at this
        unfold pLe
        simp only at this
        omega
      have hrs := hu _ hperm hsort
      refine k l _ (fresh_back e2 hl) (e2.trans (Ex.new hl)) ⟨zs, upd_same, ?_⟩
      have : ∀ (zs : List V), (∀ z ∈ zs, ∃ q, IsT H2 z (pr q)) → Ts H2 zs ((zs.map kk).map pr) := by
        intro zs
        induction zs with
        | nil => intro _; exact .nil
        | cons z zs ih =>
          intro hz
          obtain ⟨q, hq⟩ := hz z List.mem_cons_self
          refine .cons ?_ (ih fun x hx => hz x (List.mem_cons_of_mem _ hx))
          rw [hk _ _ hq]
          exact hq
      have h5 := this zs hz
      rw [hrs] at h5
      exact h5.ex (Ex.new hl)
end
end Gz
end

/-! ## WLoop -/
section
set_option Elab.async false
set_option linter.all false
set_option maxRecDepth 100000
set_option maxHeartbeats 4000000
namespace Gz
open PySem PySem.Spec PyProof.Rows L2 Evl

/-! ### all but one object stands -/
def ExB (a : Addr) (H H' : Hp) : Prop := ∀ b o, b ≠ a → H b = some o → H' b = some o
theorem ExB.refl (a : Addr) (H : Hp) : ExB a H H := fun _ _ _ h => h
theorem ExB.trans {a : Addr} {H H1 H2 : Hp} (h : ExB a H H1) (k : ExB a H1 H2) : ExB a H H2 := fun b o n e => k b o n (h b o n e)
theorem ex_b {a : Addr} {H H' : Hp} (e : Ex H H') : ExB a H H' := fun b o _ h => e b o h
theorem ExB.upd {a : Addr} {H : Hp} {o : HO} : ExB a H (upd H a o) := fun b u n h => by rw [upd_ne n]; exact h
theorem ExB.ex {a : Addr} {H0 H H' : Hp} (k : ExB a H H') (e : Ex H0 H) (h : H0 a = none) : Ex H0 H' := fun b o q => k b o (ne_of_none q h) (e b o q)
theorem ExB.tup {a t : Addr} {H H' : Hp} {xs ys : List V} (k : ExB a H H') (ha : H a = some (.lst xs)) (ht : H t = some (.tup ys)) : H' t = some (.tup ys) := k t _ (ne_of ht ha fun z => by cases z) ht
theorem IsT.exB {a : Addr} {H H' : Hp} {xs : List V} {y : V} {r : List Nat} (k : ExB a H H') (ha : H a = some (.lst xs)) (h : IsT H y r) : IsT H' y r := by
  obtain ⟨t, ey, ht⟩ := h
  exact ⟨t, ey, k.tup ha ht⟩
theorem TupL.exB {a p : Addr} {H H' : Hp} {xs : List V} {rs : List (List Nat)} (k : ExB a H H') (ha : H a = some (.lst xs)) (hp : p ≠ a) (h : TupL H p rs) : TupL H' p rs := by
  obtain ⟨ys, h1, h2⟩ := h
  exact ⟨ys, k p _ hp h1, Paired.mapP h2 fun _ _ r => r.exB k ha⟩
/-- lists of lists of tuples; what's true of the places of these -/
def RowsL (G : Addr → Prop) (H : Hp) (p : Addr) (rows : List (List (List Nat))) : Prop := ∃ ys, H p = some (.lst ys) ∧ Paired (fun y rs => ∃ a, y = V.ref a ∧ G a ∧ TupL H a rs) ys rows
theorem RowsL.ex {G : Addr → Prop} {H H' : Hp} {p : Addr} {rows : List (List (List Nat))} (e : Ex H H') (h : RowsL G H p rows) : RowsL G H' p rows := by
  obtain ⟨ys, h1, h2⟩ := h
  exact ⟨ys, e p _ h1, Paired.mapP h2 fun _ _ ⟨a, ea, g, r⟩ => ⟨a, ea, g, r.ex e⟩⟩

section
variable {K : PySem.W.Frag} {σ : L2.St} {H H' : Hp} {ta tb te tx to ti : TE} {t u : TT} {x y z v : V} {D : Ends} {tz tu : TS} {g : TG}
/-! ### statements -/
/-- xs[i] += e -/
theorem s_augL {l : Addr} {xs : List V} {j : Nat} {i a b : Int} {f : Int → Int → Int} (hl : H l = some (.lst xs)) (ho : Ev to σ H (.ref l)) (hi : Ev ti σ H (.int i)) (ei : i = (j : Int)) (hx : xs[j]? = some (.int a)) (he : Ev te σ H (.int b))
    (k : ∀ H1, Ex H H1 → D.nx σ (upd H1 l (.lst (xs.set j (.int (f a b)))))) : tAugL K to ti te (ipI f) D σ H := by
  subst ei
  refine ho H (Ex.refl H) _ fun H1 e1 => hi H1 e1 _ fun H2 e2 => ⟨l, xs, (j : Int), .int a, rfl, rfl, sq_of (e2 _ _ (e1 _ _ hl)), by omega, by simpa using hx, ?_⟩
  refine he H2 (e1.trans e2) _ fun H3 e3 => ⟨a, b, rfl, rfl, l, xs, (j : Int), j, rfl, rfl, e3 _ _ (e2 _ _ (e1 _ _ hl)), ixN_nat (List.getElem?_eq_some_iff.mp hx).1, k H3 ((e1.trans e2).trans e3)⟩
theorem q_augL {l : Addr} {xs : List V} {j : Nat} {i a b : Int} {f : Int → Int → Int} (hl : H l = some (.lst xs)) (ho : Ev to σ H (.ref l)) (hi : Ev ti σ H (.int i)) (ei : i = (j : Int)) (hx : xs[j]? = some (.int a)) (he : Ev te σ H (.int b))
    (k : ∀ H1, Ex H H1 → tz D σ (upd H1 l (.lst (xs.set j (.int (f a b)))))) : tSeq (tAugL K to ti te (ipI f)) tz D σ H := s_augL (D := { D with nx := tz D }) hl ho hi ei hx he k
/-- xs.append(e), any length -/
theorem s_appB {l : Addr} {xs : List V} (hl : H l = some (.lst xs)) (ha : Ev ta σ H (.ref l)) (h : Ev te σ H v) (hz : xs.length < sizeLine) (k : ∀ H1, Ex H H1 → D.nx σ (upd H1 l (.lst (xs ++ [v])))) :
    tDrop (tBM K "list" rAppend ta (tCons te tNil)) D σ H := ha H (Ex.refl H) _ fun H1 e1 =>
  ⟨Or.inl ⟨rfl, xs, sq_of (e1 l _ hl)⟩, h H1 e1 _ fun H2 e2 => ⟨l, xs, v, rfl, rfl, e2 l _ (e1 l _ hl), hz, k H2 (e1.trans e2)⟩⟩
/-- xs.append of a new list of tuples -/
theorem s_appT {l : Addr} {xs : List V} {rs : List (List Nat)} (hl : H l = some (.lst xs)) (ha : Ev ta σ H (.ref l)) (h : EvT2 te σ H rs) (hz : xs.length < 100000) (k : ∀ p H1, H p = none → Ex H H1 → TupL H1 p rs → D.nx σ (upd H1 l (.lst (xs ++ [.ref p])))) :
    tDrop (tBM K "list" rAppend ta (tCons te tNil)) D σ H := ha H (Ex.refl H) _ fun H1 e1 =>
  ⟨Or.inl ⟨rfl, xs, sq_of (e1 l _ hl)⟩, h H1 e1 _ fun p H2 hp e2 h2 => ⟨l, xs, .ref p, rfl, rfl, e2 l _ (e1 l _ hl), sz_lt hz, k p H2 (fresh_back e1 hp) (e1.trans e2) h2⟩⟩
/-- xs.extend(a new list) -/
theorem s_ext {l : Addr} {xs ys : List V} (hl : H l = some (.lst xs)) (ha : Ev ta σ H (.ref l)) (h : EvL te σ H ys) (hz : xs.length + ys.length ≤ sizeLine) (k : ∀ H1, Ex H H1 → D.nx σ (upd H1 l (.lst (xs ++ ys)))) :
    tDrop (tBM K "list" rExtend ta (tCons te tNil)) D σ H := ha H (Ex.refl H) _ fun H1 e1 =>
  ⟨Or.inl ⟨rfl, xs, sq_of (e1 l _ hl)⟩, h H1 e1 _ fun p H2 hp e2 h2 => ⟨l, p, xs, ys, rfl, rfl, e2 l _ (e1 l _ hl), h2, hz, k H2 (e1.trans e2)⟩⟩
theorem q_ext {l : Addr} {xs ys : List V} (hl : H l = some (.lst xs)) (ha : Ev ta σ H (.ref l)) (h : EvL te σ H ys) (hz : xs.length + ys.length ≤ sizeLine) (k : ∀ H1, Ex H H1 → tz D σ (upd H1 l (.lst (xs ++ ys)))) :
    tSeq (tDrop (tBM K "list" rExtend ta (tCons te tNil))) tz D σ H := s_ext (D := { D with nx := tz D }) hl ha h hz k
/-- xs.extend(ys), ys a list that stands -/
theorem s_extS {l b : Addr} {xs ys : List V} (hl : H l = some (.lst xs)) (ha : Ev ta σ H (.ref l)) (h : Ev te σ H (.ref b)) (hb : H b = some (.lst ys)) (hz : xs.length + ys.length ≤ sizeLine) (k : ∀ H1, Ex H H1 → D.nx σ (upd H1 l (.lst (xs ++ ys)))) :
    tDrop (tBM K "list" rExtend ta (tCons te tNil)) D σ H := ha H (Ex.refl H) _ fun H1 e1 =>
  ⟨Or.inl ⟨rfl, xs, sq_of (e1 l _ hl)⟩, h H1 e1 _ fun H2 e2 => ⟨l, b, xs, ys, rfl, rfl, e2 l _ (e1 l _ hl), e2 _ _ (e1 _ _ hb), hz, k H2 (e1.trans e2)⟩⟩
theorem q_extS {l b : Addr} {xs ys : List V} (hl : H l = some (.lst xs)) (ha : Ev ta σ H (.ref l)) (h : Ev te σ H (.ref b)) (hb : H b = some (.lst ys)) (hz : xs.length + ys.length ≤ sizeLine) (k : ∀ H1, Ex H H1 → tz D σ (upd H1 l (.lst (xs ++ ys)))) :
    tSeq (tDrop (tBM K "list" rExtend ta (tCons te tNil))) tz D σ H := s_extS (D := { D with nx := tz D }) hl ha h hb hz k
/-- sum -/
theorem sum_zn : ∀ l : List Nat, (zn l).sum = (l.sum : Int)
  | [] => rfl
  | a :: l => by
    rw [show zn (a :: l) = (a : Int) :: zn l from rfl, List.sum_cons, List.sum_cons, sum_zn l]
    rfl
theorem rep_flat {α : Type} (x : α) : ∀ k : Nat, (List.replicate k [x]).flatten = List.replicate k x
  | 0 => rfl
  | k + 1 => by rw [List.replicate_succ, List.flatten_cons, rep_flat x k, List.replicate_succ]; rfl
theorem el_is {xs ys : List V} (h : EvL te σ H xs) (e : xs = ys) : EvL te σ H ys := e ▸ h
theorem ev_sum {l : List Nat} (h : EvL ta σ H (nvs l)) : Ev (tCB (rSum K) (tCons ta tNil)) σ H (nv l.sum) := fun H1 e Q q => h H1 e _ fun p H2 _ e2 h2 => ⟨p, zn l, rfl, by rw [← nvs_ints]; exact sq_of h2, by
  rw [sum_zn]
  exact q H2 e2⟩
theorem ev_sumS {p : Addr} {l : List Nat} (h : Ev ta σ H (.ref p)) (hp : SqL K H p (nvs l)) : Ev (tCB (rSum K) (tCons ta tNil)) σ H (nv l.sum) := fun H1 e Q q => h H1 e _ fun H2 e2 => ⟨p, zn l, rfl, by rw [← nvs_ints]; exact ex_l (e.trans e2) hp, by
  rw [sum_zn]
  exact q H2 e2⟩
/-- [x] * n -/
theorem el_rep {k : Nat} (h : EvL ta σ H [x]) (hb : Ev tb σ H (nv k)) (hk : k ≤ sizeLine) : EvL (tOp rRep ta tb) σ H (List.replicate k x) := fun H1 e Q q =>
  h H1 e _ fun p H2 hp e2 h2 => hb H2 (e.trans e2) _ fun H3 e3 => by
    have hs := sizeLine_eq
    refine ⟨p, (k : Int), [x], rfl, rfl, e3 _ _ h2, by omega, by omega, by simpa using hk, fun l hl => ?_⟩
    have := q l _ (fresh_back (e2.trans e3) hl) ((e2.trans e3).trans (Ex.new hl)) upd_same
    rw [Int.toNat_natCast, rep_flat]
    exact this
/-- lists joined -/
theorem el_cat {xs ys : List V} (ha : EvL ta σ H xs) (hb : EvL tb σ H ys) (hz : xs.length + ys.length ≤ sizeLine) : EvL (tOp rCat ta tb) σ H (xs ++ ys) := fun H1 e Q q =>
  ha H1 e _ fun p H2 hp e2 h2 => hb H2 (e.trans e2) _ fun r H3 hr e3 h3 => ⟨p, r, xs, ys, rfl, rfl, e3 _ _ h2, h3, hz, fun l hl => q l _ (fresh_back (e2.trans e3) hl) ((e2.trans e3).trans (Ex.new hl)) upd_same⟩
theorem el_catS {xs ys : List V} {b : Addr} (ha : EvL ta σ H xs) (hb : Ev tb σ H (.ref b)) (h : H b = some (.lst ys)) (hz : xs.length + ys.length ≤ sizeLine) : EvL (tOp rCat ta tb) σ H (xs ++ ys) := fun H1 e Q q =>
  ha H1 e _ fun p H2 hp e2 h2 => hb H2 (e.trans e2) _ fun H3 e3 => ⟨p, b, xs, ys, rfl, rfl, e3 _ _ h2, e3 _ _ (e2 _ _ (e _ _ h)), hz, fun l hl => q l _ (fresh_back (e2.trans e3) hl) ((e2.trans e3).trans (Ex.new hl)) upd_same⟩
theorem el_catSS {xs ys : List V} {a b : Addr} (ha : Ev ta σ H (.ref a)) (hb : Ev tb σ H (.ref b)) (hx : H a = some (.lst xs)) (h : H b = some (.lst ys)) (hz : xs.length + ys.length ≤ sizeLine) : EvL (tOp rCat ta tb) σ H (xs ++ ys) := fun H1 e Q q =>
  ha H1 e _ fun H2 e2 => hb H2 (e.trans e2) _ fun H3 e3 => ⟨a, b, xs, ys, rfl, rfl, e3 _ _ (e2 _ _ (e _ _ hx)), e3 _ _ (e2 _ _ (e _ _ h)), hz, fun l hl => q l _ (fresh_back (e2.trans e3) hl) ((e2.trans e3).trans (Ex.new hl)) upd_same⟩
/-- any list -/
theorem el_slS {tl th : TO} {a : Addr} {xs : List V} {lo n : Nat} {hi : Nat} (h : Ev te σ H (.ref a)) (h1 : EvO tl σ H (some (lo : Int))) (h2 : EvO th σ H (some (hi : Int))) (hs : SqL K H a xs) : EvL (tSl (rSlL K) te tl th) σ H ((xs.drop lo).take (hi - lo)) :=
  el_is (el_sl h h1 h2 hs) (by
    unfold cutV
    rw [show HT.sIx xs.length 0 (some (lo : Int)) = min lo xs.length from HT.sIx_nat _ _ _, show HT.sIx xs.length xs.length (some (hi : Int)) = min hi xs.length from HT.sIx_nat _ _ _]
    by_cases hlo : lo ≤ xs.length
    · rw [Nat.min_eq_left hlo, List.take_eq_take_iff, List.length_drop]
      omega
    · rw [Nat.min_eq_right (by omega : xs.length ≤ lo), List.drop_eq_nil_of_le (Nat.le_refl xs.length), List.drop_eq_nil_of_le (by omega), List.take_nil, List.take_nil])
/-- a for over the pairs of a list that stands or is new -/
theorem s_forP {tl : TE} {i j : Nat} {ps : List (Nat × Nat)} (h : EvS tl σ H (ps.map pr)) (Pv : Addr → List V → Nat → L2.St → Hp → Prop) (h0 : ∀ p ys H1, Ex H H1 → H1 p = some (.lst ys) → Ts H1 ys (ps.map pr) → Pv p ys 0 σ H1)
    (hl : ∀ p ys k σ' H', Pv p ys k σ' H' → H' p = some (.lst ys) ∧ Ts H' ys (ps.map pr))
    (hs : ∀ p ys k q σ' H', ps[k]? = some q → Pv p ys k σ' H' → tu { D with nx := Pv p ys (k + 1), ct := Pv p ys (k + 1), bk := D.nx } ((σ'.set i (some (nv q.1))).set j (some (nv q.2))) H')
    (hd : ∀ p ys σ' H', Pv p ys ps.length σ' H' → D.nx σ' H') : tFor (iList K tl) (gTup K 2 (gCons (gName i) (gCons (gName j) gNil))) tu D σ H :=
  h H (Ex.refl H) _ fun p H1 e1 ⟨ys, h1, h2⟩ => ⟨p, rfl, ⟨ys, sq_of h1⟩, by
    have hlen : ys.length = ps.length := by rw [h2.length, List.length_map]
    refine for_list (xs := ys) (Pv p ys) (h0 p ys H1 e1 h1 h2) (fun k σ' H' _ q => sq_of (hl p ys k σ' H' q).1) (fun k x σ' H' hx q => ?_) (fun σ' H' q => hd p ys σ' H' (hlen ▸ q))
    obtain ⟨r, hr, ht⟩ := paired_getL (hl p ys k σ' H' q).2 hx
    rw [List.getElem?_map] at hr
    cases hq : ps[k]? with
    | none => rw [hq] at hr; cases hr
    | some q0 =>
      rw [hq] at hr
      exact g_pair ht (Option.some.inj hr).symm (hs p ys k q0 σ' H' hq q)⟩
/-- the same over a new list -/
theorem s_forPN {tl : TE} {i j : Nat} {ps : List (Nat × Nat)} (h : EvT2 tl σ H (ps.map pr)) (Pv : Addr → List V → Nat → L2.St → Hp → Prop) (h0 : ∀ p ys H1, H p = none → Ex H H1 → H1 p = some (.lst ys) → Ts H1 ys (ps.map pr) → Pv p ys 0 σ H1)
    (hl : ∀ p ys k σ' H', Pv p ys k σ' H' → H' p = some (.lst ys) ∧ Ts H' ys (ps.map pr))
    (hs : ∀ p ys k q σ' H', ps[k]? = some q → Pv p ys k σ' H' → tu { D with nx := Pv p ys (k + 1), ct := Pv p ys (k + 1), bk := D.nx } ((σ'.set i (some (nv q.1))).set j (some (nv q.2))) H')
    (hd : ∀ p ys σ' H', Pv p ys ps.length σ' H' → D.nx σ' H') : tFor (iList K tl) (gTup K 2 (gCons (gName i) (gCons (gName j) gNil))) tu D σ H :=
  h H (Ex.refl H) _ fun p H1 hp e1 ⟨ys, h1, h2⟩ => ⟨p, rfl, ⟨ys, sq_of h1⟩, by
    have hlen : ys.length = ps.length := by rw [h2.length, List.length_map]
    refine for_list (xs := ys) (Pv p ys) (h0 p ys H1 hp e1 h1 h2) (fun k σ' H' _ q => sq_of (hl p ys k σ' H' q).1) (fun k x σ' H' hx q => ?_) (fun σ' H' q => hd p ys σ' H' (hlen ▸ q))
    obtain ⟨r, hr, ht⟩ := paired_getL (hl p ys k σ' H' q).2 hx
    rw [List.getElem?_map] at hr
    cases hq : ps[k]? with
    | none => rw [hq] at hr; cases hr
    | some q0 =>
      rw [hq] at hr
      exact g_pair ht (Option.some.inj hr).symm (hs p ys k q0 σ' H' hq q)⟩
theorem q_forPN {tl : TE} {i j : Nat} {ps : List (Nat × Nat)} (h : EvT2 tl σ H (ps.map pr)) (Pv : Addr → List V → Nat → L2.St → Hp → Prop) (h0 : ∀ p ys H1, H p = none → Ex H H1 → H1 p = some (.lst ys) → Ts H1 ys (ps.map pr) → Pv p ys 0 σ H1)
    (hl : ∀ p ys k σ' H', Pv p ys k σ' H' → H' p = some (.lst ys) ∧ Ts H' ys (ps.map pr))
    (hs : ∀ p ys k q σ' H', ps[k]? = some q → Pv p ys k σ' H' → tu { D with nx := Pv p ys (k + 1), ct := Pv p ys (k + 1), bk := tz D } ((σ'.set i (some (nv q.1))).set j (some (nv q.2))) H')
    (hd : ∀ p ys σ' H', Pv p ys ps.length σ' H' → tz D σ' H') : tSeq (tFor (iList K tl) (gTup K 2 (gCons (gName i) (gCons (gName j) gNil))) tu) tz D σ H := s_forPN (D := { D with nx := tz D }) h Pv h0 hl hs hd
theorem q_forP {tl : TE} {i j : Nat} {ps : List (Nat × Nat)} (h : EvS tl σ H (ps.map pr)) (Pv : Addr → List V → Nat → L2.St → Hp → Prop) (h0 : ∀ p ys H1, Ex H H1 → H1 p = some (.lst ys) → Ts H1 ys (ps.map pr) → Pv p ys 0 σ H1)
    (hl : ∀ p ys k σ' H', Pv p ys k σ' H' → H' p = some (.lst ys) ∧ Ts H' ys (ps.map pr))
    (hs : ∀ p ys k q σ' H', ps[k]? = some q → Pv p ys k σ' H' → tu { D with nx := Pv p ys (k + 1), ct := Pv p ys (k + 1), bk := tz D } ((σ'.set i (some (nv q.1))).set j (some (nv q.2))) H')
    (hd : ∀ p ys σ' H', Pv p ys ps.length σ' H' → tz D σ' H') : tSeq (tFor (iList K tl) (gTup K 2 (gCons (gName i) (gCons (gName j) gNil))) tu) tz D σ H := s_forP (D := { D with nx := tz D }) h Pv h0 hl hs hd
/-- xs.append(a new tuple) -/
theorem s_appR {l : Addr} {rs : List (List Nat)} {r : List Nat} (hl : TupL H l rs) (ha : Ev ta σ H (.ref l)) (h : EvU te σ H (nvs r)) (hz : rs.length < 100000) (k : ∀ H1, ExB l H H1 → TupL H1 l (rs ++ [r]) → D.nx σ H1) :
    tDrop (tBM K "list" rAppend ta (tCons te tNil)) D σ H := by
  obtain ⟨ys, h1, h2⟩ := hl
  refine s_appU h1 ha h (by have := h2.length; omega) fun p H1 hp e hq => k _ ((ex_b e).trans ExB.upd) ?_
  have hpl : p ≠ l := fun z => by rw [z, h1] at hp; cases hp
  have hl1 := e _ _ h1
  exact ⟨ys ++ [.ref p], upd_same, paired_snoc (Paired.mapP (h2.ex e) fun _ _ q => q.exB ExB.upd hl1) ⟨p, rfl, by rw [upd_ne hpl]; exact hq⟩⟩
theorem q_appR {l : Addr} {rs : List (List Nat)} {r : List Nat} (hl : TupL H l rs) (ha : Ev ta σ H (.ref l)) (h : EvU te σ H (nvs r)) (hz : rs.length < 100000) (k : ∀ H1, ExB l H H1 → TupL H1 l (rs ++ [r]) → tz D σ H1) :
    tSeq (tDrop (tBM K "list" rAppend ta (tCons te tNil))) tz D σ H := s_appR (D := { D with nx := tz D }) hl ha h hz k
/-- a comprehension over a list of numbers, with a test -/
theorem el_lstF {tl : TE} {j : Nat} {vs : List Nat} {a : Addr} {l : List Nat} (f : Nat → Bool) (g : Nat → Nat) (h : Ev tl σ H (.ref a)) (hx : SqL K H a (nvs l)) (hz : l.length ≤ 40000) (hw : ∀ x, wipe ((wipe σ vs).set j (some x)) vs = wipe σ vs)
    (ht : ∀ (n : Nat) H1, Ex H H1 → n ∈ l → EvT t ((wipe σ vs).set j (some (nv n))) H1 (f n)) (he : ∀ (n : Nat) H1, Ex H H1 → n ∈ l → f n = true → Ev te ((wipe σ vs).set j (some (nv n))) H1 (nv (g n))) :
    EvL (tLc (iList K tl) (gName j) t te vs) σ H (nvs ((l.filter f).map g)) := fun H0 e Q q => h H0 e _ fun H1 e1 => ⟨a, rfl, ⟨nvs l, ex_l (e.trans e1) hx⟩, fun Dl hD => by
  refine lc_list (xs := nvs l) (fun k H' => H1 Dl = none ∧ Ex H1 H' ∧ H' Dl = some (.lst (nvs (((l.take k).filter f).map g)))) ⟨hD, Ex.new hD, upd_same⟩ (fun k H' _ p => ex_l ((e.trans e1).trans p.2.1) hx) (fun k x H' hx' p => ?_) (fun H' p => ?_)
  · obtain ⟨n, hn, rfl⟩ := nvs_of hx'
    have hmem := List.mem_of_getElem? hn
    refine ⟨hw _, ht n H1 (e.trans e1) hmem H' p.2.1 _ fun H2 e2 => ?_⟩
    have hsz : (nvs (((l.take k).filter f).map g)).length < sizeLine := by
      rw [nvs_length, List.length_map]
      refine sz_lt ?_
      have h1 := List.length_filter_le f (l.take k)
      have h2 := List.length_take_le k l
      have h3 := (List.getElem?_eq_some_iff.mp hn).1
      omega
    rw [take_more hn, List.filter_append, List.map_append, List.filter_cons]
    cases hf : f n with
    | true =>
      show te _ _ _
      refine he n H1 (e.trans e1) hmem hf H2 (p.2.1.trans e2) _ fun H3 e3 => ⟨_, e3 _ _ (e2 _ _ p.2.2), hsz, p.1, Ex.mut ((p.2.1.trans e2).trans e3) p.1, ?_⟩
      rw [upd_same, if_pos rfl, nvs_append]
      rfl
    | false =>
      show _ ∧ _ ∧ _
      rw [if_neg Bool.false_ne_true]
      refine ⟨p.1, p.2.1.trans e2, ?_⟩
      show _ = some (HO.lst (nvs (_ ++ [])))
      rw [List.append_nil]
      exact e2 _ _ p.2.2
  · rw [nvs_length, List.take_length] at p
    exact q Dl H' (fresh_back e1 p.1) (e1.trans p.2.1) p.2.2⟩
/-- a for over reversed(list) -/
theorem for_rev {a : Addr} {xs : List V} {σ0 : L2.St} {H0 : Hp} (Pv : Nat → L2.St → Hp → Prop) (h0 : Pv 0 σ0 H0) (hl : ∀ i σ H, i ≤ xs.length → Pv i σ H → SqL K H a xs)
    (hs : ∀ i x σ H, i < xs.length → xs[xs.length - 1 - i]? = some x → Pv i σ H → g x σ H fun σ2 H2 => tu { D with nx := Pv (i + 1), ct := Pv (i + 1), bk := D.nx } σ2 H2) (hd : ∀ σ H, Pv xs.length σ H → D.nx σ H) :
    ∃ W : Nat → Nat → L2.St → Hp → Prop, (∃ m, W 0 m σ0 H0) ∧ ∀ i m σ H, W i m σ H →
      ((Itv K a xs.length).stop i H ∧ D.nx σ H) ∨ ((Itv K a xs.length).go i H ∧ ∃ N : L2.St → Hp → Prop, (∀ σ' H', N σ' H' → ∃ m', m' < m ∧ W (i + 1) m' σ' H') ∧ ∀ x H', (Itv K a xs.length).yld i H x H' → g x σ H' fun σ2 H2 => tu { D with nx := N, ct := N, bk := D.nx } σ2 H2) := by
  refine ⟨fun i m σ H => m = xs.length - i ∧ i ≤ xs.length ∧ Pv i σ H, ⟨xs.length, by simp, Nat.zero_le _, h0⟩, ?_⟩
  rintro i m σ H ⟨rfl, hi, p⟩
  have q := hl i σ H hi p
  by_cases hlt : i < xs.length
  · have hx : xs[xs.length - 1 - i]? = some (xs[xs.length - 1 - i]'(by omega)) := List.getElem?_eq_getElem (by omega)
    refine .inr ⟨⟨hlt, xs, _, q, hx⟩, Pv (i + 1), fun σ' H' p' => ⟨xs.length - (i + 1), by omega, rfl, hlt, p'⟩, fun x H' y => ?_⟩
    obtain ⟨e, y⟩ := y
    subst e
    exact hs i x σ _ hlt (y xs q) p
  · have e : i = xs.length := by omega
    subst e
    exact .inl ⟨Nat.le_refl _, hd σ H p⟩
theorem rgc_up {b c : Int} {n : Nat} (hc : 0 < c) (hc2 : c < 1000000) (hb : 0 ≤ b) (hb2 : b < 2 ^ 40) (hn : (n : Int) = (b + c - 1) / c) : RgC 0 b c n := by
  have hsz : Builtin.Range.rangeSize 0 b c = (n : Int) := by rw [rangeSize_pos (by omega) hb, hn]
  refine ⟨by omega, by omega, ?_, hsz⟩
  have hle : (n : Int) ≤ b := by
    rw [hn]
    refine Int.le_of_lt_add_one ?_
    refine Int.ediv_lt_of_lt_mul hc ?_
    have : b + 1 ≤ (b + 1) * c := by
      have h1 : (b + 1) * 1 ≤ (b + 1) * c := Int.mul_le_mul_of_nonneg_left (by omega) (by omega)
      omega
    have h2 : (b + 1) * c = b * c + c := by rw [Int.add_mul, Int.one_mul]
    have h3 : b ≤ b * c := by
      have h4 : b * 1 ≤ b * c := Int.mul_le_mul_of_nonneg_left (by omega) hb
      omega
    omega
  unfold Builtin.Range.small
  rw [hsz]
  simp only [Builtin.Range.rangeFitsLong, Bool.and_eq_true, Bool.or_eq_true, decide_eq_true_eq, beq_iff_eq]
  refine ⟨by omega, .inr ?_⟩
  rw [if_pos hc]
  simp only [Bool.and_eq_true, decide_eq_true_eq]
  omega
end
end Gz
end

/-! ## W2 -/
section
set_option Elab.async false
set_option linter.all false
set_option maxRecDepth 100000
set_option maxHeartbeats 4000000
namespace Gz
open PySem PySem.Spec PyProof.Rows L2 Evl
open SwSqueeze (classOf bitsLow bitsHigh leavesOf rowAfter)
section
variable {P : Program} {w : World} {K : PySem.W.Frag} {mg : Str → Option Value} {base : Heap} {f : Addr} {fd : FuncData} {aM : Addr}

/-! ### leaves_of -/
/-- a promise's list of tuples is made -/
def RetT (rs : List (List Nat)) (H : Hp) (Q : VK) : Prop := ∀ p H2, H p = none → Ex H H2 → TupL H2 p rs → Q (.ref p) H2
theorem getD_of {l : List Nat} {i : Nat} (h : i < l.length) : l[i]? = some (l.getD i 0) := by
  rw [List.getD_eq_getElem?_getD, List.getElem?_eq_getElem h]
  rfl
theorem raw_map (often : List Nat) : ((List.range often.length).filter fun i => decide (0 < often.getD i 0)).map (fun i => [often.getD i 0, i]) = (raw often).map pr := by
  unfold raw
  rw [List.map_map]
  rfl
def spLeaves (K : PySem.W.Frag) : Sp := fun vs H Q _ => ∃ (a : Addr) (l : List Nat), vs = [.ref a] ∧ SqL K H a (nvs l) ∧ l.length ≤ 300 ∧ RetT ((leavesP l).map pr) H Q
theorem ok_leaves_of (T : Gs K mg aM) (F : Fun K "leaves_of" "leaves_of" s_leaves_of f fd) : FnOk P w K mg base CX0 1 f fd ["often"] (spLeaves K) := by
  refine F.ok sc_leaves_of (fun vs H Q E h => ?_) (fun cdv A outer s H vs Q E hr h => ?_)
  · obtain ⟨a, l, rfl, _⟩ := h
    rfl
  obtain ⟨a, l, rfl, hS, hl, q⟩ := h
  refine ⟨_, (pss_one (ps_ret (pe_callB cr_sortedPO (by rfl) T.b_sorted (by decide +kernel) (pa_cons (pe_lc (own := [("symbol", 1)]) rfl sc_leaves_of.nd (pi_range1 (by rfl) T.b_range (pa_cons (pe_callB call_len_seq (by rfl) T.b_len (by decide +kernel) (pa_cons (pv 0) pa_nil)) pa_nil)) (blkOk_by (own := [("symbol", 1)]) (N := leaves_of_N) (sc := defScope s_leaves_of) (by decide +kernel)) (fun _ _ _ _ _ => pg_name (i := 1) sc_leaves_of.nd rfl (Or.inl rfl)) (fun _ _ _ _ _ => pts_one (pt_cmpR op_gt (pe_ix (r := rIxL K) ix_list (pv 0) (pv 1) (fun _ _ => rfl)) pe_int (nomark _))) (fun _ _ _ _ _ => (pe_tup (pa_cons (pe_ix (r := rIxL K) ix_list (pv 0) (pv 1) (fun _ _ => rfl)) (pa_cons (pv 1) pa_nil))))) pa_nil)))), ?_⟩
  refine s_retT (evt_sorted (ps := raw l) (rs := leavesP l) (EvT2.s ?_) fun qs hp hs => sorted_uniq hs (leavesP_sorted l) (hp.trans (leavesP_perm l).symm)) q
  have hlen : Ev (tCB (rLenS K) (tCons (tVar 0) tNil)) (start leaves_of_N [.ref a]) H (nv l.length) := by
    have := ev_lenL (K := K) (ta := tVar 0) (σ := start leaves_of_N [.ref a]) (ev_var rfl) hS
    rw [nvs_length] at this
    exact this
  refine EvT2.is (el_rngT (fun i => decide (0 < l.getD i 0)) (fun i => [l.getD i 0, i]) (ea_cons hlen ea_nil) (by omega) (fun _ => rfl) (fun i H1 e hi => ?_) (fun i H1 e hi hf => ?_)) (raw_map l)
  · have hx := nvs_get (getD_of hi)
    refine et_is (et_test (ev_I0 (ev_ix (ev_var rfl) (ev_var rfl) (ex_l e hS) hx rfl) ev_c)) ?_
    show decide ((0 : Int) < ((l.getD i 0 : Nat) : Int)) = decide (0 < l.getD i 0)
    rw [decide_eq_decide]
    omega
  · have hx := nvs_get (getD_of hi)
    exact eu_tup (ea_cons (ev_ix (ev_var rfl) (ev_var rfl) (ex_l e hS) hx rfl) (ea_cons (ev_var rfl) ea_nil)) (Nat.le_of_ble_eq_true rfl)

/-! ### row_behind -/
theorem row0_map (often : List Nat) : (rowP (leavesOf often) 0) = (leavesP often).map fun q => (q.1, 0) := by
  unfold rowP leavesP
  show (tF _).map tagP = _
  unfold tF
  rw [List.map_map, List.map_map]
  rfl
theorem rowP_length (often : List Nat) (n : Nat) : (rowP (leavesOf often) n).length ≤ 2 * often.length := by
  unfold rowP
  rw [List.length_map, rowT_length]
  have hle : (leavesP often).length ≤ often.length := by
    rw [(leavesP_perm often).length_eq]
    unfold raw
    rw [List.length_map]
    exact Nat.le_trans (List.length_filter_le _ _) (by simp)
  rw [← leavesOf_length] at hle
  by_cases h : 1 ≤ (leavesOf often).length
  · have := row_short often h n
    omega
  · have h0 : (leavesOf often).length = 0 := by omega
    have : ∀ n, (rowAfter (leavesOf often) n).length = 0 := by
      intro n
      induction n with
      | zero => exact h0
      | succ n ih => rw [row_length, ih, h0]
    rw [this]
    omega
theorem packsP_range (l : List (Nat × Nat)) : packsP l = (List.range (l.length / 2)).map fun k => ((l.getD (2 * k) (0, 0)).1 + (l.getD (2 * k + 1) (0, 0)).1, 1) := by
  apply List.ext_getElem?
  intro k
  by_cases hk : k < l.length / 2
  · have h1 : 2 * k < l.length := by omega
    have h2 : 2 * k + 1 < l.length := by omega
    rw [packsP_get l k _ _ (List.getElem?_eq_getElem h1) (List.getElem?_eq_getElem h2), List.getElem?_map, List.getElem?_range hk]
    simp [List.getD_eq_getElem?_getD, h1, h2]
  · rw [List.getElem?_eq_none (by rw [packsP_length]; omega), List.getElem?_eq_none (by simp; omega)]
def spRowBehind : Sp := fun vs H Q _ => ∃ (a b : Addr) (often : List Nat) (n : Nat), vs = [.ref a, .ref b] ∧ PairL H a (rowP (leavesOf often) 0) ∧ PairL H b (rowP (leavesOf often) n) ∧ often.length ≤ 300 ∧ RetT ((rowP (leavesOf often) (n + 1)).map pr) H Q
theorem ok_row_behind (T : Gs K mg aM) (F : Fun K "row_behind" "row_behind" s_row_behind f fd) : FnOk P w K mg base CX0 1 f fd ["leaves", "row"] spRowBehind := by
  refine F.ok sc_row_behind (fun vs H Q E h => ?_) (fun cdv A outer s H vs Q E hr h => ?_)
  · obtain ⟨a, b, l, n, rfl, _⟩ := h
    rfl
  obtain ⟨a, b, l, n, rfl, hA, hB, hl, q⟩ := h
  refine ⟨_, (pss_cons (ps_setLc (i := 2) (own := [("k", 3)]) rfl sc_row_behind.nd rfl rfl (sw_true rfl rfl rfl (by decide +kernel)) (pi_range3 (by rfl) T.b_range (pa_cons pe_int (pa_cons (pe_op op_sub (pe_callB call_len_seq (by rfl) T.b_len (by decide +kernel) (pa_cons (pv 1) pa_nil)) pe_int) (pa_cons pe_int pa_nil)))) (blkOk_by (own := [("k", 3)]) (N := row_behind_N) (sc := defScope s_row_behind) (by decide +kernel)) (fun _ _ _ _ _ => pg_name (i := 3) sc_row_behind.nd rfl (Or.inl rfl)) (fun _ _ _ _ _ => pts_nil) (fun _ _ _ _ _ => (pe_tup (pa_cons (pe_op op_add (pe_ix (r := rIxT K) ix_tup (pe_ix (r := rIxL K) ix_list (pv 1) (pv 3) (fun _ _ => rfl)) pe_int (fun _ _ => rfl)) (pe_ix (r := rIxT K) ix_tup (pe_ix (r := rIxL K) ix_list (pv 1) (pe_op op_add (pv 3) pe_int) (fun _ _ => rfl)) pe_int (fun _ _ => rfl))) (pa_cons pe_int pa_nil)))))
    (pss_one (ps_ret (pe_callB cr_sortedPO (by rfl) T.b_sorted (by decide +kernel) (pa_cons (pe_op op_cat (pv 0) (pv 2)) pa_nil))))), ?_⟩
  have hlenR := rowP_length l n
  generalize hrow : rowP (leavesOf l) n = row at hB hlenR
  obtain ⟨ys, hb, hys⟩ := id hB
  have hylen : ys.length = row.length := by rw [hys.length, List.length_map]
  have hlen : Ev (tCB (rLenS K) (tCons (tVar 1) tNil)) (start row_behind_N [.ref a, .ref b]) H (nv row.length) := by
    have := ev_lenL (K := K) (ta := tVar 1) (σ := start row_behind_N [.ref a, .ref b]) (ev_var rfl) (sq_of hb)
    rw [hylen] at this
    exact this
  have hrg : RgC 0 ((row.length : Int) - 1) 2 (row.length / 2) := by
    by_cases h0 : row.length = 0
    · rw [h0]
      exact ⟨by decide, by decide, by decide +kernel, by decide +kernel⟩
    · exact rgc_up (by decide) (by decide) (by omega) (by omega) (by omega)
  refine q_asgT (rs := (packsP row).map pr) (EvT2.is (el_rngT3 (fun k => [(row.getD (2 * k) (0, 0)).1 + (row.getD (2 * k + 1) (0, 0)).1, 1]) (ea_cons ev_c (ea_cons (ev_I0 hlen ev_c) (ea_cons ev_c ea_nil))) hrg (by omega) (fun _ => rfl) (fun i H1 e hi => ?_)) ?_) fun p H1 hp e1 h1 => ?_
  · -- the turn: both items of the row are tuples
    have i0 : 2 * i < row.length := by omega
    have i1 : 2 * i + 1 < row.length := by omega
    have get : ∀ k (hk : k < row.length), ∃ t, ys[k]? = some (.ref t) ∧ H t = some (.tup (nvs (pr (row.getD k (0, 0))))) := by
      intro k hk
      have hm : (row.map pr)[k]? = some (pr (row.getD k (0, 0))) := by
        rw [List.getElem?_map, List.getD_eq_getElem?_getD, List.getElem?_eq_getElem hk]
        rfl
      obtain ⟨y, hy, t, ey, ht⟩ := paired_get hys hm
      exact ⟨t, by rw [hy, ey], ht⟩
    obtain ⟨t0, hy0, ht0⟩ := get (2 * i) i0
    obtain ⟨t1, hy1, ht1⟩ := get (2 * i + 1) i1
    refine eu_tup (ea_cons (ev_is (w := nv ((row.getD (2 * i) (0, 0)).1 + (row.getD (2 * i + 1) (0, 0)).1)) (ev_I0 (ev_ixt (j := 0) (ev_ix (ev_var rfl) (ev_var rfl) (ex_l e (sq_of hb)) hy0 (by omega)) ev_c (st_of (e _ _ ht0)) rfl rfl)
      (ev_ixt (j := 0) (ev_ix (ev_var rfl) (ev_I0 (ev_var rfl) ev_c) (ex_l e (sq_of hb)) hy1 (by omega)) ev_c (st_of (e _ _ ht1)) rfl rfl)) rfl) (ea_cons ev_c ea_nil)) (Nat.le_of_ble_eq_true rfl)
  · rw [packsP_range, List.map_map]
    rfl
  · refine s_retT (evt_sorted (ps := rowP (leavesOf l) 0 ++ packsP row) (rs := rowP (leavesOf l) (n + 1)) ?_ fun qs hp hs => ?_) fun p2 H2 hp2 e2 h2 => q p2 H2 (fresh_back e1 hp2) (e1.trans e2) h2
    · rw [List.map_append]
      refine (evt_cat (ev_var rfl) (ev_var rfl) (hA.ex e1) h1 ?_).s
      have h0 := rowP_length l 0
      rw [List.length_map, List.length_map, packsP_length]
      omega
    · rw [← hrow] at hp
      exact rowP_uniq (leavesOf l) (leaves_up l) hp hs

/-! ### rows_of -/
def RetRows (a : Addr) (rows : List (List (List Nat))) (H : Hp) (Q : VK) : Prop := ∀ p H2, H p = none → Ex H H2 → RowsL (fun b => b = a ∨ H b = none) H2 p rows → Q (.ref p) H2
def rowsTo (often : List Nat) (n : Nat) : List (List (List Nat)) := (List.range n).map fun k => (rowP (leavesOf often) k).map pr
theorem rowsTo_more (often : List Nat) (n : Nat) : rowsTo often (n + 1) = rowsTo often n ++ [(rowP (leavesOf often) n).map pr] := by
  unfold rowsTo
  rw [List.range_succ, List.map_append]
  rfl
def spRowsOf : Sp := fun vs H Q _ => ∃ (a : Addr) (often : List Nat), vs = [.ref a] ∧ PairL H a (rowP (leavesOf often) 0) ∧ often.length ≤ 300 ∧ RetRows a (rowsTo often 15) H Q
theorem ok_rows_of (T : Gs K mg aM) (D_row_behind : Def P w K mg base CX0 1 "row_behind" ["leaves", "row"] spRowBehind) (F : Fun K "rows_of" "rows_of" s_rows_of f fd) : FnOk P w K mg base CX0 2 f fd ["leaves"] spRowsOf := by
  refine F.ok sc_rows_of (fun vs H Q E h => ?_) (fun cdv A outer s H vs Q E hr h => ?_)
  · obtain ⟨a, l, rfl, _⟩ := h
    rfl
  obtain ⟨a, l, rfl, hA, hl, q⟩ := h
  refine ⟨_, (pss_cons (ps_set (i := 1) sc_rows_of.nd rfl (Or.inl rfl) (pe_lst (pa_cons (pv 0) pa_nil)))
    (pss_cons (ps_for PassesOwn.never rfl (pi_range1 (by rfl) T.b_range (pa_cons (pe_op op_sub (pe_k T.LONGEST) pe_int) pa_nil)) (pg_name (i := 2) sc_rows_of.nd rfl (Or.inl rfl))
      (pss_one (ps_expr (pe_bm PySem.F.plainAttrs_list PySem.F.slot_list_append PySem.F.type_list_append mt_append (pv 1) (pa_cons (pe_callD D_row_behind hr rfl pass0 (pa_cons (pv 0) (pa_cons (pe_ix ix_list (pv 1) (pv 2) (fun _ _ => rfl)) pa_nil))) pa_nil)))))
    (pss_one (ps_ret (pv 1))))), ?_⟩
  refine q_asgL (el_lst (ea_cons (ev_var rfl) ea_nil) (Nat.le_of_ble_eq_true rfl)) fun p H1 hp e1 h1 => ?_
  refine q_forR1 (n := 14) (ea_cons (ev_is (ev_I0 ev_c ev_c) rfl) ea_nil) ⟨by decide, by decide⟩ (fun i σ H' => ∃ v ys, σ = [some (.ref a), some (.ref p), v] ∧ Ex H H' ∧ H' p = some (.lst ys) ∧ Paired (fun y rs => ∃ b, y = V.ref b ∧ (b ≠ p ∧ (b = a ∨ H b = none)) ∧ TupL H' b rs) ys (rowsTo l (i + 1)))
    (fun H2 e2 => ⟨none, [.ref a], rfl, e1.trans e2, e2 _ _ h1, ?_⟩) ?_ ?_
  · refine .cons ⟨a, rfl, ⟨?_, .inl rfl⟩, hA.ex (e1.trans e2)⟩ .nil
    obtain ⟨ys, h, _⟩ := hA
    exact ne_of_none h hp
  · rintro i σ H' hi ⟨v, ys, rfl, e2, h2, hys⟩
    have hi' : i < 14 := by omega
    have hm : (rowsTo l (i + 1))[i]? = some ((rowP (leavesOf l) i).map pr) := by
      unfold rowsTo
      rw [List.getElem?_map, List.getElem?_range (by omega)]
      rfl
    obtain ⟨y, hy, b, rfl, hbp, hb⟩ := paired_get hys hm
    have hzl : ys.length = i + 1 := by
      have := Paired.length hys
      rw [this]
      simp [rowsTo]
    refine s_appT h2 (ev_var rfl) (rs := (rowP (leavesOf l) (i + 1)).map pr) (fun H3 e3 Q' k' => ?_) (by omega) fun c H3 hc e3 h3 => ?_
    · refine (ea_cons (ev_var rfl) (ea_cons (ev_ix (ev_var rfl) (ev_var rfl) (ex_l (Ex.refl _) (sq_of h2)) hy rfl) ea_nil)) H3 e3 _ fun H4 e4 => ?_
      exact ⟨a, b, l, i, rfl, hA.ex (e2.trans (e3.trans e4)), hb.ex (e3.trans e4), hl, fun r H5 hr5 e5 h5 => k' r H5 (fresh_back e4 hr5) (e4.trans e5) h5⟩
    · have hcp : c ≠ p := fun e => by rw [e, h2] at hc; cases hc
      have hp3 : H3 p = some (.lst ys) := e3 _ _ h2
      refine ⟨some (nv i), ys ++ [.ref c], rfl, Ex.mut (e2.trans e3) hp, upd_same, ?_⟩
      rw [rowsTo_more]
      refine paired_snoc (Paired.mapP hys fun y rs ⟨b, ey, hbp, hb⟩ => ⟨b, ey, hbp, ?_⟩) ⟨c, rfl, ⟨hcp, .inr (fresh_back e2 hc)⟩, ?_⟩
      · exact TupL.exB ExB.upd hp3 hbp.1 (hb.ex e3)
      · exact TupL.exB ExB.upd hp3 hcp h3
  · rintro σ H' ⟨v, ys, rfl, e2, h2, hys⟩
    exact s_ret (ev_var rfl) fun H3 e3 => q p H3 hp (e2.trans e3) ⟨ys, e3 _ _ h2, Paired.mapP hys fun y rs ⟨b, ey, hg, hb⟩ => ⟨b, ey, hg.2, hb.ex e3⟩⟩
end
end Gz
end

/-! ## W3 -/
section
set_option Elab.async false
set_option linter.all false
set_option maxRecDepth 100000
set_option maxHeartbeats 4000000
namespace Gz
open PySem PySem.Spec PyProof.Rows L2 Evl
open SwSqueeze (classOf bitsLow bitsHigh leavesOf rowAfter)
section
variable {P : Program} {w : World} {K : PySem.W.Frag} {mg : Str → Option Value} {base : Heap} {f : Addr} {fd : FuncData} {aM : Addr}
/-! ### lengths_of -/
def spLengthsOf (K : PySem.W.Frag) : Sp := fun vs H Q _ => ∃ (a : Addr) (l : List Nat), vs = [.ref a] ∧ SqL K H a (nvs l) ∧ l.length ≤ 300 ∧ RetN (SwSqueeze.lengths l) H Q
theorem nvs_set (l : List Nat) (i n : Nat) : (nvs l).set i (nv n) = nvs (l.set i n) := by
  unfold nvs
  rw [List.map_set]
theorem nvs_rep (k n : Nat) : List.replicate k (nv n) = nvs (List.replicate k n) := by
  unfold nvs
  rw [List.map_replicate]
theorem ok_lengths_of (T : Gs K mg aM) (D_leaves_of : Def P w K mg base CX0 1 "leaves_of" ["often"] (spLeaves K)) (D_rows_of : Def P w K mg base CX0 2 "rows_of" ["leaves"] spRowsOf) (F : Fun K "lengths_of" "lengths_of" s_lengths_of f fd) :
    FnOk P w K mg base CX0 3 f fd ["often"] (spLengthsOf K) := by
  refine F.ok sc_lengths_of (fun vs H Q E h => ?_) (fun cdv A outer s H vs Q E hr h => ?_)
  · obtain ⟨a, l, rfl, _⟩ := h
    rfl
  obtain ⟨a, l, rfl, hS, hl, q⟩ := h
  refine ⟨_, (pss_cons (ps_set (i := 1) sc_lengths_of.nd rfl (Or.inl rfl) (pe_op op_rep (pe_lst (pa_cons pe_int pa_nil)) (pe_callB call_len_seq (by rfl) T.b_len (by decide +kernel) (pa_cons (pv 0) pa_nil))))
    (pss_cons (ps_set (i := 2) sc_lengths_of.nd rfl (Or.inl rfl) (pe_callD D_leaves_of hr rfl pass0 (pa_cons (pv 0) pa_nil)))
    (pss_cons (ps_if (pt_cmpR op_eq (pe_callB call_len_seq (by rfl) T.b_len (by decide +kernel) (pa_cons (pv 2) pa_nil)) pe_int (nomark _))
      (pss_one (ps_asg pe_int (pg_sub (pv 1) (pe_ix ix_tup (pe_ix ix_list (pv 2) pe_int (fun _ _ => rfl)) pe_int (fun _ _ => rfl)) set_list)))
      pss_nil)
    (pss_cons (ps_if (pt_cmpR op_lt (pe_callB call_len_seq (by rfl) T.b_len (by decide +kernel) (pa_cons (pv 2) pa_nil)) pe_int (nomark _))
      (pss_one (ps_ret (pv 1)))
      pss_nil)
    (pss_cons (ps_set (i := 3) sc_lengths_of.nd rfl (Or.inl rfl) (pe_op op_sub (pe_op op_mul pe_int (pe_callB call_len_seq (by rfl) T.b_len (by decide +kernel) (pa_cons (pv 2) pa_nil))) pe_int))
    (pss_cons (ps_for PassesOwn.never rfl (pi_reversed (by rfl) T.b_reversed (pa_cons (pe_callD D_rows_of hr rfl pass0 (pa_cons (pe_lc (own := [("weight", 4), ("symbol", 5)]) (g := gTup K 2 (gCons (gName 4) (gCons (gName 5) gNil))) rfl sc_lengths_of.nd (pi_list (pv 2)) (blkOk_by (own := [("weight", 4), ("symbol", 5)]) (N := lengths_of_N) (sc := defScope s_lengths_of) (by decide +kernel)) (fun _ _ _ _ _ => pg_tup rfl (pgs_cons (pg_name (i := 4) sc_lengths_of.nd rfl (Or.inl rfl) (Or.inr rfl)) (pgs_cons (pg_name (i := 5) sc_lengths_of.nd rfl (Or.inl rfl) (Or.inr rfl)) pgs_nil))) (fun _ _ _ _ _ => pts_nil) (fun _ _ _ _ _ => (pe_tup (pa_cons (pv 4) (pa_cons pe_int pa_nil))))) pa_nil)) pa_nil)) (pg_name (i := 6) sc_lengths_of.nd rfl (Or.inl rfl) (Or.inl rfl))
      (pss_cons (ps_set (i := 7) sc_lengths_of.nd rfl (Or.inl rfl) (pe_callB (cr_sum rfl) (by rfl) T.b_sum (by decide +kernel) (pa_cons (pe_lc (own := [("weight", 4), ("made", 8)]) (g := gTup K 2 (gCons (gName 4) (gCons (gName 8) gNil))) rfl sc_lengths_of.nd (pi_list (pe_slice sl_list (pv 6) po_none (po_some (pv 3)))) (blkOk_by (own := [("weight", 4), ("made", 8)]) (N := lengths_of_N) (sc := defScope s_lengths_of) (by decide +kernel)) (fun _ _ _ _ _ => pg_tup rfl (pgs_cons (pg_name (i := 4) sc_lengths_of.nd rfl (Or.inl rfl) (Or.inr rfl)) (pgs_cons (pg_name (i := 8) sc_lengths_of.nd rfl (Or.inl rfl) (Or.inr rfl)) pgs_nil))) (fun _ _ _ _ _ => pts_nil) (fun _ _ _ _ _ => (pv 8))) pa_nil)))
    (pss_cons (ps_for PassesOwn.never rfl (pi_list (pe_slice sl_list (pv 2) po_none (po_some (pe_op op_sub (pv 3) (pv 7))))) (pg_tup rfl (pgs_cons (pg_name (i := 4) sc_lengths_of.nd rfl (Or.inl rfl) (Or.inl rfl)) (pgs_cons (pg_name (i := 5) sc_lengths_of.nd rfl (Or.inl rfl) (Or.inl rfl)) pgs_nil)))
      (pss_one (ps_augL (pv 1) (pv 5) pe_int ip_add)))
    (pss_one (ps_set (i := 3) sc_lengths_of.nd rfl (Or.inl rfl) (pe_op op_mul pe_int (pv 7)))))))
    (pss_one (ps_ret (pv 1))))))))), ?_⟩
  -- lengths = [0] * len(often)
  have hlen : Ev (tCB (rLenS K) (tCons (tVar 0) tNil)) (start lengths_of_N [.ref a]) H (nv l.length) := by
    have := ev_lenL (K := K) (ta := tVar 0) (σ := start lengths_of_N [.ref a]) (ev_var rfl) hS
    rw [nvs_length] at this
    exact this
  refine q_asgL (el_is (el_rep (x := nv 0) (el_lst (ea_cons ev_c ea_nil) (Nat.le_of_ble_eq_true rfl)) hlen (by rw [sizeLine_eq]; omega)) (nvs_rep _ _)) fun pl H1 hpl e1 h1 => ?_
  -- leaves = leaves_of(often)
  refine q_asgT (rs := (leavesP l).map pr) (fun H3 e3 Q' k' => ?_) fun pv H2 hpv e2 h2 => ?_
  · refine (ea_cons (ev_var rfl) ea_nil) H3 e3 _ fun H4 e4 => ?_
    exact ⟨a, l, rfl, ex_l (e1.trans (e3.trans e4)) hS, hl, fun r H5 hr5 e5 h5 => k' r H5 (fresh_back e4 hr5) (e4.trans e5) h5⟩
  have hplv : pv ≠ pl := fun e => by rw [e, h1] at hpv; cases hpv
  have hlens : ∀ {H' : Hp} {ys : List V} (i : Nat) (σ : L2.St), H' pv = some (.lst ys) → Ts H' ys ((leavesP l).map pr) → σ[2]? = some (some (.ref pv)) → Ev (tCB (rLenS K) (tCons (tVar 2) tNil)) σ H' (nv (leavesP l).length) := by
    intro H' ys i σ hy hts hσ
    have := ev_lenL (K := K) (ta := tVar 2) (σ := σ) (ev_var hσ) (sq_of hy)
    rw [hts.length, List.length_map] at this
    exact this
  obtain ⟨ys, hv2, hts2⟩ := id h2
  have hpl2 := e2 _ _ h1
  -- if len(leaves) == 1
  refine q_when (et_test (ev_eqI (hlens 0 _ hv2 hts2 rfl) ev_c)) (fun hb H3 e3 => ?_) (fun hb H3 e3 => ?_)
  · have hb : (leavesP l).length = 1 := by have := of_decide_eq_true hb; omega
    -- lengths[leaves[0][1]] = 1
    have hq0 : (leavesP l)[0]? = some ((leavesP l)[0]'(by omega)) := List.getElem?_eq_getElem (by omega)
    generalize (leavesP l)[0]'(by omega) = q0 at hq0
    have hmem := leavesP_mem.mp (List.mem_of_getElem? hq0)
    obtain ⟨y, hy, t, rfl, ht⟩ := paired_get hts2 (show ((leavesP l).map pr)[0]? = some (pr q0) by rw [List.getElem?_map, hq0]; rfl)
    have hlenl : (nvs (List.replicate l.length 0)).length = l.length := by rw [nvs_length, List.length_replicate]
    refine s_setL (j := q0.2) (e3 _ _ hpl2) (v := nv 1) ev_c (ev_var rfl) (ev_ixt (j := 1) (ev_ix (j := 0) (ev_var rfl) ev_c (sq_of (e3 _ _ hv2)) hy rfl) ev_c (st_of (e3 _ _ ht)) rfl rfl) (by rw [hlenl]; exact hmem.1) fun H4 e4 => ?_
    rw [nvs_set, ← lengths_one l hb hq0]
    -- if len(leaves) < 2: return lengths
    have e34 := e3.trans e4
    have hv4 : (upd H4 pl (.lst (nvs (SwSqueeze.lengths l)))) pv = some (.lst ys) := by rw [upd_ne hplv]; exact e34 _ _ hv2
    have hts4 : Ts (upd H4 pl (.lst (nvs (SwSqueeze.lengths l)))) ys ((leavesP l).map pr) := Paired.mapP (hts2.ex e34) fun _ _ r => r.exB ExB.upd (e34 _ _ hpl2)
    show tSeq (tIfS (tTest (tOp (rI0 _) (tCB (rLenS K) (tCons (tVar 2) tNil)) _)) (tRet (tVar 1)) tNext) _ _ _ _
    refine q_when (b := true) (et_is (et_test (ev_I0 (hlens 0 _ hv4 hts4 rfl) ev_c)) (by rw [hb]; rfl)) (fun _ H5 e5 => ?_) (fun h => by cases h)
    refine s_ret (ev_var rfl) fun H6 e6 => ?_
    refine q pl H6 hpl ?_ (e6 _ _ (e5 _ _ upd_same))
    exact ((Ex.mut ((e1.trans e2).trans e34) hpl).trans e5).trans e6
  · have hb : (leavesP l).length ≠ 1 := by have := of_decide_eq_false hb; omega
    by_cases h0 : (leavesP l).length = 0
    · refine q_when (b := true) (et_is (et_test (ev_I0 (hlens 0 _ (e3 _ _ hv2) (hts2.ex e3) rfl) ev_c)) (by rw [h0]; rfl)) (fun _ H5 e5 => ?_) (fun h => by cases h)
      refine s_ret (ev_var rfl) fun H6 e6 => ?_
      refine q pl H6 hpl ?_ ?_
      · exact (((e1.trans e2).trans e3).trans e5).trans e6
      · rw [lengths_none l h0]
        exact e6 _ _ (e5 _ _ (e3 _ _ hpl2))
    have hm : 2 ≤ (leavesP l).length := by omega
    refine q_when (b := false) (et_is (et_test (ev_I0 (hlens 0 _ (e3 _ _ hv2) (hts2.ex e3) rfl) ev_c)) (by rw [decide_eq_false_iff_not]; omega)) (fun h => by cases h) (fun _ H4 e4 => ?_)
    have e24 := e3.trans e4
    -- wanted = 2 * len(leaves) - 2
    refine q_asg (v := nv (2 * (leavesP l).length - 2)) (ev_is (ev_I0 (ev_I ev_c (hlens 0 _ (e24 _ _ hv2) (hts2.ex e24) rfl) (.inl ⟨by decide, by decide⟩)) ev_c) (by show V.int _ = V.int _; congr 1; omega)) fun H5 e5 => ?_
    have e25 := e24.trans e5
    have hN : (leavesP l).length ≤ 300 := by
      rw [(leavesP_perm l).length_eq]
      unfold raw
      rw [List.length_map]
      exact Nat.le_trans (List.length_filter_le _ _) (by simpa using hl)
    -- rows_of([(weight, 0) ..])
    have hrows : ∀ Q' : VK, (∀ p H2, H5 p = none → Ex H5 H2 → RowsL (fun b => H5 b = none) H2 p (rowsTo l 15) → Q' (.ref p) H2) → tCall spRowsOf [] E0 (tCons (tLc (iList K (tVar 2)) (gTup K 2 (gCons (gName 4) (gCons (gName 5) gNil))) tYes (tTup (tCons (tVar 4) (tCons (tC (.int 0)) tNil))) [4, 5]) tNil)
        (List.set (List.set (List.set (start lengths_of_N [.ref a]) 1 (some (.ref pl))) 2 (some (.ref pv))) 3 (some (nv (2 * (leavesP l).length - 2)))) H5 Q' := by
      intro Q' k'
      have hlc := el_tupT (K := K) (tl := tVar 2) (te := tTup (tCons (tVar 4) (tCons (tC (.int 0)) tNil))) (i := 4) (j := 5) (vs := [4, 5]) (ps := leavesP l) (fun q => [q.1, 0]) (σ := List.set (List.set (List.set (start lengths_of_N [.ref a]) 1 (some (.ref pl))) 2 (some (.ref pv))) 3 (some (nv (2 * (leavesP l).length - 2))))
        (H := H5) (evs_var (ev_var rfl) (h2.ex e25)) (by omega) (fun _ _ => rfl) fun q H1 e => eu_tup (ea_cons (ev_var rfl) (ea_cons ev_c ea_nil)) (Nat.le_of_ble_eq_true rfl)
      show tLc (iList K (tVar 2)) _ tYes _ [4, 5] _ H5 (fun x H1 => spRowsOf [x] H1 Q' E0)
      refine hlc H5 (Ex.refl _) _ fun c H6 hc e6 h6 => ?_
      refine ⟨c, l, rfl, ?_, hl, fun r H7 hr7 e7 ⟨zs, h7, h8⟩ => k' r H7 (fresh_back e6 hr7) (e6.trans e7) ⟨zs, h7, Paired.mapP h8 fun _ _ ⟨b, eb, g, hb⟩ => ⟨b, eb, g.elim (fun z => z ▸ hc) fun z => fresh_back e6 z, hb⟩⟩⟩
      have : (rowP (leavesOf l) 0).map pr = (leavesP l).map fun q => [q.1, 0] := by
        rw [row0_map, List.map_map]
        rfl
      show TupL H6 c ((rowP (leavesOf l) 0).map pr)
      rw [this]
      exact h6
    refine hrows _ fun pr_ H6 hpr e6 ⟨rs, hr1, hr2⟩ => ⟨pr_, rs, rfl, sq_of hr1, ?_⟩
    have hrl : rs.length = 15 := by
      rw [Paired.length hr2]
      simp [rowsTo]
    have e26 := e25.trans e6
    have hprl : pr_ ≠ pl := fun e => by rw [e, e25 _ _ hpl2] at hpr; cases hpr
    -- the loop over the rows, the last first
    have hR : ∀ {H' : Hp}, ExB pl H6 H' → H' pr_ = some (.lst rs) := fun k => k _ _ hprl hr1
    refine for_rev (fun i σ H' => ∃ (v4 v5 v6 v7 : Option V) (Tt : List Nat) (wt : Nat), σ = [some (.ref a), some (.ref pl), some (.ref pv), some (nv wt), v4, v5, v6, v7, none] ∧ ExB pl H6 H' ∧ H' pl = some (.lst (nvs (tally l.length Tt))) ∧
        (Tt ++ still l i wt).Perm (syms (leavesOf l) 14 (2 * (leavesP l).length - 2)) ∧ wt ≤ 100000 * 2 ^ i) ?_ ?_ ?_ ?_
    · refine ⟨none, none, none, none, [], _, rfl, ExB.refl _ _, ?_, .refl _, by omega⟩
      rw [tally_nil]
      exact e6 _ _ (e25 _ _ hpl2)
    · rintro i σ H' _ ⟨v4, v5, v6, v7, Tt, wt, rfl, k, h, hp, hw⟩
      exact sq_of (hR k)
    · rintro i x σ H' hi hx ⟨v4, v5, v6, v7, Tt, wt, rfl, k, h, hp, hw⟩
      rw [hrl] at hi hx
      -- the row's number
      obtain ⟨row, hrow, b, rfl, hb5, hb6⟩ := paired_getL hr2 hx
      have er : row = (rowP (leavesOf l) (14 - i)).map pr := by
        unfold rowsTo at hrow
        rw [List.getElem?_map, List.getElem?_range (by omega), show 15 - 1 - i = 14 - i by omega] at hrow
        exact (Option.some.inj hrow).symm
      subst er
      have hbl : b ≠ pl := fun e => by rw [e, e25 _ _ hpl2] at hb5; cases hb5
      have hb : TupL H' b ((rowP (leavesOf l) (14 - i)).map pr) := hb6.exB k (e6 _ _ (e25 _ _ hpl2)) hbl
      have hv : TupL H' pv ((leavesP l).map pr) := (h2.ex e26).exB k (e6 _ _ (e25 _ _ hpl2)) hplv
      show tSeq _ _ _ _ _
      -- packages
      refine q_asg (v := nv (madeAt l i wt)) (ev_is (ev_sum (l := ((rowP (leavesOf l) (14 - i)).take wt).map fun q : Nat × Nat => q.2) (el_tupI (K := K) (te := tVar 8) (i := 4) (j := 8) (vs := [4, 8]) (fun q : Nat × Nat => q.2) ?_ ?_ (fun _ _ => rfl) fun q H1 e => ev_var (i := 8) rfl)) rfl) fun H7 e7 => ?_
      · rw [List.map_take]
        exact evs_take (ev_var rfl) hb (eo_some (ev_var rfl))
      · have := rowP_length l (14 - i)
        rw [List.length_take]
        omega
      have hle := madeAt_le l i wt
      -- the leaves taken
      have hv7 : TupL H7 pv ((leavesP l).map pr) := hv.ex e7
      have hm7 : H7 pl = some (.lst (nvs (tally l.length Tt))) := e7 _ _ h
      refine q_forPN (ps := (leavesP l).take (wt - madeAt l i wt)) ?_ (fun p ys k0 σ8 H8 => ∃ (u4 u5 : Option V), σ8 = [some (.ref a), some (.ref pl), some (.ref pv), some (nv wt), u4, u5, some (.ref b), some (nv (madeAt l i wt)), none] ∧ ExB pl H7 H8 ∧
          H8 pl = some (.lst (nvs (tally l.length (Tt ++ (((leavesP l).take (wt - madeAt l i wt)).take k0).map (·.2))))) ∧ H8 p = some (.lst ys) ∧ Ts H8 ys (((leavesP l).take (wt - madeAt l i wt)).map pr) ∧ p ≠ pl) ?_ ?_ ?_ ?_
      · rw [List.map_take]
        refine evt_take (ev_var rfl) hv7 (eo_some (ev_is (ev_I0 (ev_var rfl) (ev_var rfl)) ?_))
        show V.int _ = V.int _
        congr 1
        omega
      · intro p ys H8 hp8 e8 h8 hts8
        refine ⟨v4, v5, rfl, ex_b e8, ?_, h8, hts8, fun e => ?_⟩
        · rw [List.take_zero, List.map_nil, List.append_nil]
          exact e8 _ _ hm7
        · rw [e, hm7] at hp8
          cases hp8
      · rintro p ys k0 σ8 H8 ⟨u4, u5, rfl, k8, h8, hp8, hts8, hne⟩
        exact ⟨hp8, hts8⟩
      · rintro p ys k0 q0 σ8 H8 hq0 ⟨u4, u5, rfl, k8, h8, hp8, hts8, hne⟩
        have hmem := (leavesP_mem.mp (List.mem_of_mem_take (List.mem_of_getElem? hq0))).1
        refine s_augL (j := q0.2) h8 (ev_var rfl) (ev_var rfl) rfl (nvs_get (tally_get hmem)) ev_c fun H9 e9 => ?_
        have h9 : H9 pl = _ := e9 _ _ h8
        refine ⟨some (nv q0.1), some (nv q0.2), rfl, (k8.trans (ex_b e9)).trans ExB.upd, ?_, ?_, ?_, hne⟩
        · rw [upd_same, take_more hq0, List.map_append, ← List.append_assoc]
          show some (HO.lst ((nvs _).set q0.2 (nv _))) = _
          rw [nvs_set, tally_more hmem]
          rfl
        · rw [upd_ne hne]
          exact e9 _ _ hp8
        · exact Paired.mapP (hts8.ex e9) fun _ _ r => r.exB ExB.upd h9
      · rintro p ys σ8 H8 ⟨u4, u5, rfl, k8, h8, hp8, hts8, hne⟩
        rw [List.take_length] at h8
        -- wanted = 2 * packages
        refine s_asg (v := nv (2 * madeAt l i wt)) (ev_is (ev_I ev_c (ev_var rfl) (.inl ⟨by decide, by decide⟩)) rfl) fun H9 e9 => ?_
        refine ⟨u4, u5, _, _, _, _, rfl, (k.trans (ex_b e7)).trans (k8.trans (ex_b e9)), e9 _ _ h8, ?_, ?_⟩
        · rw [List.append_assoc]
          exact ((still_step l hi).symm.append_left Tt).trans hp
        · rw [Nat.pow_succ]
          omega
    · rintro σ H' ⟨v4, v5, v6, v7, Tt, wt, rfl, k, h, hp, hw⟩
      rw [hrl] at hp
      refine s_ret (ev_var rfl) fun H7 e7 => q pl H7 hpl ?_ ?_
      · exact (k.ex (((e1.trans e2).trans e25).trans e6) hpl).trans e7
      · rw [lengths_two l hm]
        have : still l 15 wt = [] := rfl
        rw [this, List.append_nil] at hp
        rw [← tally_perm hp]
        exact e7 _ _ h
end
end Gz
end

/-! ## W4 -/
section
set_option Elab.async false
set_option linter.all false
set_option maxRecDepth 100000
set_option maxHeartbeats 4000000
namespace Gz
open PySem PySem.Spec PyProof.Rows L2 Evl
open SwSqueeze (classOf bitsLow bitsHigh leavesOf rowAfter)
section
variable {P : Program} {w : World} {K : PySem.W.Frag} {mg : Str → Option Value} {base : Heap} {f : Addr} {fd : FuncData} {aM : Addr}
/-! ### codewords -/
def tr (t : Nat × Nat × Nat) : List Nat := [t.1, t.2.1, t.2.2]
def spCodewords (K : PySem.W.Frag) : Sp := fun vs H Q _ => ∃ (a : Addr) (l : List Nat), vs = [.ref a] ∧ SqL K H a (nvs l) ∧ l.length ≤ 300 ∧ (∀ n ∈ l, n ≤ 15) ∧ RetT ((SwSqueeze.codewords l).map tr) H Q
def cwTo (l : List Nat) (k : Nat) : CW := ((lenP l).take k).foldl cwStep ([], 0, 0)
theorem cwTo_more {l : List Nat} {k : Nat} {q : Nat × Nat} (h : (lenP l)[k]? = some q) : cwTo l (k + 1) = cwStep (cwTo l k) q := foldl_more h
theorem cwTo_before {l : List Nat} {k : Nat} {q : Nat × Nat} (h : (lenP l)[k]? = some q) : (cwTo l k).2.2 ≤ q.1 := by
  have hi := cw_part_inv l k
  cases hl : ((lenP l).take k).getLast? with
  | none =>
    have h0 : (lenP l).take k = [] := by simpa using hl
    have := hi.at0 h0
    unfold cwTo
    rw [this]
    exact Nat.zero_le _
  | some r =>
    have h1 := hi.len r hl
    unfold cwTo
    rw [h1.1]
    have hr := List.mem_of_getLast? hl
    obtain ⟨i, hi2⟩ := List.mem_iff_getElem?.mp hr
    rw [List.getElem?_take] at hi2
    split at hi2
    · rename_i hik
      obtain ⟨hlt, rfl⟩ := List.getElem?_eq_some_iff.mp h
      obtain ⟨hlt2, rfl⟩ := List.getElem?_eq_some_iff.mp hi2
      exact List.pairwise_iff_getElem.mp (lenP_rise l) i k hlt2 hlt hik
    · cases hi2
theorem cwTo_len (l : List Nat) (k : Nat) : (cwTo l k).1.length ≤ k := by
  have hi := cw_part_inv l k
  have : (cwTo l k).1.length = ((lenP l).take k).length := by
    conv => rhs; rw [← hi.all]
    rw [List.length_map]
    rfl
  rw [this, List.length_take]
  omega
theorem lenP_length {l : List Nat} (h : ∀ n ∈ l, n ≤ 15) : (lenP l).length ≤ l.length := by
  rw [← (lenP_perm h).length_eq]
  unfold raw
  rw [List.length_map]
  exact Nat.le_trans (List.length_filter_le _ _) (by simp)
theorem ok_codewords (T : Gs K mg aM) (F : Fun K "codewords" "codewords" s_codewords f fd) : FnOk P w K mg base CX0 1 f fd ["lengths"] (spCodewords K) := by
  refine F.ok sc_codewords (fun vs H Q E h => ?_) (fun cdv A outer s H vs Q E hr h => ?_)
  · obtain ⟨a, l, rfl, _⟩ := h
    rfl
  obtain ⟨a, l, rfl, hS, hl, h15, q⟩ := h
  refine ⟨_, (pss_cons (ps_set (i := 1) sc_codewords.nd rfl (Or.inl rfl) (pe_lst pa_nil))
    (pss_cons (ps_set (i := 2) sc_codewords.nd rfl (Or.inl rfl) pe_int)
    (pss_cons (ps_set (i := 3) sc_codewords.nd rfl (Or.inl rfl) pe_int)
    (pss_cons (ps_for PassesOwn.never rfl (pi_list (pe_callB cr_sortedPO (by rfl) T.b_sorted (by decide +kernel) (pa_cons (pe_lc (own := [("k", 6)]) rfl sc_codewords.nd (pi_range1 (by rfl) T.b_range (pa_cons (pe_callB call_len_seq (by rfl) T.b_len (by decide +kernel) (pa_cons (pv 0) pa_nil)) pa_nil)) (blkOk_by (own := [("k", 6)]) (N := codewords_N) (sc := defScope s_codewords) (by decide +kernel)) (fun _ _ _ _ _ => pg_name (i := 6) sc_codewords.nd rfl (Or.inl rfl) (Or.inr rfl)) (fun _ _ _ _ _ => pts_one (pt_cmpR op_gt (pe_ix (r := rIxL K) ix_list (pv 0) (pv 6) (fun _ _ => rfl)) pe_int (nomark _))) (fun _ _ _ _ _ => (pe_tup (pa_cons (pe_ix (r := rIxL K) ix_list (pv 0) (pv 6) (fun _ _ => rfl)) (pa_cons (pv 6) pa_nil))))) pa_nil))) (pg_tup rfl (pgs_cons (pg_name (i := 4) sc_codewords.nd rfl (Or.inl rfl) (Or.inl rfl)) (pgs_cons (pg_name (i := 5) sc_codewords.nd rfl (Or.inl rfl) (Or.inl rfl)) pgs_nil)))
      (pss_cons (ps_if (pt_cmpR op_gt (pv 3) pe_int (nomark _))
      (pss_one (ps_set (i := 2) sc_codewords.nd rfl (Or.inl rfl) (pe_op op_shl (pe_op op_add (pv 2) pe_int) (pe_op op_sub (pv 4) (pv 3)))))
      pss_nil)
    (pss_cons (ps_expr (pe_bm PySem.F.plainAttrs_list PySem.F.slot_list_append PySem.F.type_list_append mt_append (pv 1) (pa_cons (pe_tup (pa_cons (pv 5) (pa_cons (pv 4) (pa_cons (pv 2) pa_nil)))) pa_nil)))
    (pss_one (ps_set (i := 3) sc_codewords.nd rfl (Or.inl rfl) (pv 4))))))
    (pss_one (ps_ret (pv 1))))))), ?_⟩
  refine q_asgL (el_lst ea_nil (by decide)) fun p H1 hp e1 h1 => ?_
  refine q_asg (v := nv 0) ev_c fun H2 e2 => ?_
  refine q_asg (v := nv 0) ev_c fun H3 e3 => ?_
  have e13 := (e1.trans e2).trans e3
  have hlen : ∀ {σ : L2.St}, σ[0]? = some (some (.ref a)) → Ev (tCB (rLenS K) (tCons (tVar 0) tNil)) σ H3 (nv l.length) := fun {σ} hσ => by
    have := ev_lenL (K := K) (ta := tVar 0) (σ := σ) (ev_var hσ) (ex_l e13 hS)
    rw [nvs_length] at this
    exact this
  have hp3 := e3 _ _ (e2 _ _ h1)
  refine q_forPN (ps := lenP l) ?_ (fun r ys k σ H' => ∃ (v4 v5 : Option V), σ = [some (.ref a), some (.ref p), some (nv (cwTo l k).2.1), some (nv (cwTo l k).2.2), v4, v5, none] ∧ ExB p H3 H' ∧ TupL H' p ((cwTo l k).1.map tr) ∧ H' r = some (.lst ys) ∧ Ts H' ys ((lenP l).map pr) ∧ r ≠ p) ?_ ?_ ?_ ?_
  · refine evt_sorted (ps := raw l) (rs := lenP l) (EvT2.s ?_) fun qs hp hs => lenP_uniq h15 hp hs
    refine EvT2.is (el_rngT (fun i => decide (0 < l.getD i 0)) (fun i => [l.getD i 0, i]) (ea_cons (hlen rfl) ea_nil) (by omega) (fun _ => rfl) (fun i H1 e hi => ?_) (fun i H1 e hi hf => ?_)) (raw_map l)
    · have hx := nvs_get (getD_of hi)
      refine et_is (et_test (ev_I0 (ev_ix (ev_var rfl) (ev_var rfl) (ex_l (e13.trans e) hS) hx rfl) ev_c)) ?_
      show decide ((0 : Int) < ((l.getD i 0 : Nat) : Int)) = decide (0 < l.getD i 0)
      rw [decide_eq_decide]
      omega
    · have hx := nvs_get (getD_of hi)
      exact eu_tup (ea_cons (ev_ix (ev_var rfl) (ev_var rfl) (ex_l (e13.trans e) hS) hx rfl) (ea_cons (ev_var rfl) ea_nil)) (Nat.le_of_ble_eq_true rfl)
  · intro r ys H4 hr e4 h4 hts
    refine ⟨none, none, rfl, ex_b e4, ⟨[], e4 _ _ hp3, .nil⟩, h4, hts, fun e => ?_⟩
    rw [e, hp3] at hr
    cases hr
  · rintro r ys k σ H' ⟨v4, v5, rfl, _, _, h5, h6, _⟩
    exact ⟨h5, h6⟩
  · rintro r ys k q0 σ H' hq ⟨v4, v5, rfl, hB, hT, h5, h6, hne⟩
    have hb := cwTo_before hq
    have hsm : (cwTo l k).2.1 ≤ l.length * 2 ^ 14 := cw_small l k
    have hq15 := lenP_bounds q0 (List.mem_of_getElem? hq)
    -- number
    show tSeq (tIfS _ (tAsg _ (gName 2)) tNext) _ _ _ _
    refine q_ifAsg (v := nv (cwTo l (k + 1)).2.1) (b := decide (0 < (cwTo l k).2.2)) (et_is (et_test (ev_I0 (ev_var rfl) ev_c)) ?_) (fun hb1 => ?_) (fun hb1 => ?_) fun H5 e5 => ?_
    · rw [decide_eq_decide]
      omega
    · have hb1 : 0 < (cwTo l k).2.2 := of_decide_eq_true hb1
      refine ev_is (ev_I (ev_I0 (ev_var rfl) ev_c) (ev_I0 (ev_var rfl) (ev_var rfl)) ⟨by omega, by omega, by omega⟩) ?_
      rw [cwTo_more hq]
      unfold cwStep
      simp only
      rw [if_pos hb1]
      show V.int _ = V.int _
      have : (((q0.1 : Nat) : Int) - (((cwTo l k).2.2 : Nat) : Int)).toNat = q0.1 - (cwTo l k).2.2 := by omega
      rw [this, Int.natCast_mul, Int.natCast_pow]
      rfl
    · have hb1 : ¬ 0 < (cwTo l k).2.2 := of_decide_eq_false hb1
      have : (cwTo l (k + 1)).2.1 = (cwTo l k).2.1 := by
        rw [cwTo_more hq]
        unfold cwStep
        simp only
        rw [if_neg hb1]
      rw [this]
      rfl
    -- rows.append((symbol, length, number))
    refine q_appR (r := tr (q0.2, q0.1, (cwTo l (k + 1)).2.1)) (hT.ex e5) (ev_var rfl) (eu_tup (ea_cons (ev_var rfl) (ea_cons (ev_var rfl) (ea_cons (ev_var rfl) ea_nil))) (Nat.le_of_ble_eq_true rfl)) ?_ fun H6 e6 h6' => ?_
    · have := cwTo_len l k
      have h3 := lenP_length h15
      have h4 := (List.getElem?_eq_some_iff.mp hq).1
      rw [List.length_map]
      omega
    -- before = length
    obtain ⟨zs, hz1, hz2⟩ := id (hT.ex e5)
    refine s_asg (v := nv q0.1) (ev_var rfl) fun H7 e7 => ⟨some (nv q0.1), some (nv q0.2), ?_, ?_, ?_, ?_, ?_, hne⟩
    · have : (cwTo l (k + 1)).2.2 = q0.1 := by rw [cwTo_more hq]; rfl
      rw [this]
      rfl
    · exact ((hB.trans (ex_b e5)).trans e6).trans (ex_b e7)
    · have : (cwTo l (k + 1)).1.map tr = (cwTo l k).1.map tr ++ [tr (q0.2, q0.1, (cwTo l (k + 1)).2.1)] := by
        rw [cwTo_more hq]
        unfold cwStep
        simp only [List.map_append, List.map_cons, List.map_nil]
      rw [this]
      exact h6'.ex e7
    · exact e7 _ _ (e6 _ _ hne (e5 _ _ h5))
    · exact Ts.ex e7 (Paired.mapP (h6.ex e5) fun _ _ r => r.exB e6 hz1)
  · rintro r ys σ H' ⟨v4, v5, rfl, hB, hT, h5, h6, hne⟩
    refine s_ret (ev_var rfl) fun H4 e4 => q p H4 hp ((hB.ex e13 hp).trans e4) ?_
    have : cwTo l (lenP l).length = cwRun l := by
      unfold cwTo cwRun
      rw [List.take_length]
    rw [this, ← codewords_eq] at hT
    exact hT.ex e4

/-! ### is_whole -/
def spWhole (K : PySem.W.Frag) : Sp := fun vs H Q _ => ∃ (a : Addr) (l : List Nat), vs = [.ref a] ∧ SqL K H a (nvs l) ∧ l.length ≤ 300 ∧ (∀ n ∈ l, n ≤ 15) ∧ RetV (.bl (SwSqueeze.wholeCode l)) H Q
theorem filter_map_id (l : List Nat) : ((l.filter fun n => decide (0 < n)).map fun n => n) = l.filter fun (n : Nat) => n != 0 := by
  rw [List.map_id']
  apply List.filter_congr
  intro n _
  by_cases h : n = 0
  · subst h; rfl
  · rw [decide_eq_true (by omega), bne_iff_ne.mpr h]
theorem ok_is_whole (T : Gs K mg aM) (F : Fun K "is_whole" "is_whole" s_is_whole f fd) : FnOk P w K mg base CX0 1 f fd ["lengths"] (spWhole K) := by
  refine F.ok sc_is_whole (fun vs H Q E h => ?_) (fun cdv A outer s H vs Q E hr h => ?_)
  · obtain ⟨a, l, rfl, _⟩ := h
    rfl
  obtain ⟨a, l, rfl, hS, hl, h15, q⟩ := h
  refine ⟨_, (pss_cons (ps_setLc (i := 1) (own := [("length", 2)]) rfl sc_is_whole.nd rfl rfl (sw_true rfl rfl rfl (by decide +kernel)) (pi_list (pv 0)) (blkOk_by (own := [("length", 2)]) (N := is_whole_N) (sc := defScope s_is_whole) (by decide +kernel)) (fun _ _ _ _ _ => pg_name (i := 2) sc_is_whole.nd rfl (Or.inl rfl) (Or.inr rfl)) (fun _ _ _ _ _ => pts_one (pt_cmpR op_gt (pv 2) pe_int (nomark _))) (fun _ _ _ _ _ => (pv 2)))
    (pss_cons (ps_if (pt_cmpR op_eq (pe_callB call_len_seq (by rfl) T.b_len (by decide +kernel) (pa_cons (pv 1) pa_nil)) pe_int (nomark _))
      (pss_one (ps_ret pe_bl))
      pss_nil)
    (pss_cons (ps_if (pt_cmpR op_eq (pe_callB call_len_seq (by rfl) T.b_len (by decide +kernel) (pa_cons (pv 1) pa_nil)) pe_int (nomark _))
      (pss_one (ps_ret (pe_cmpR op_eq (pe_ix ix_list (pv 1) pe_int (fun _ _ => rfl)) pe_int (nomark _))))
      pss_nil)
    (pss_one (ps_ret (pe_cmpR op_eq (pe_callB (cr_sum rfl) (by rfl) T.b_sum (by decide +kernel) (pa_cons (pe_lc (own := [("length", 2)]) rfl sc_is_whole.nd (pi_list (pv 1)) (blkOk_by (own := [("length", 2)]) (N := is_whole_N) (sc := defScope s_is_whole) (by decide +kernel)) (fun _ _ _ _ _ => pg_name (i := 2) sc_is_whole.nd rfl (Or.inl rfl) (Or.inr rfl)) (fun _ _ _ _ _ => pts_nil) (fun _ _ _ _ _ => (pe_op op_shl pe_int (pe_op op_sub (pe_k T.LONGEST) (pv 2))))) pa_nil)) (pe_op op_shl pe_int (pe_k T.LONGEST)) (nomark _))))))), ?_⟩
  have hfl : EvL (tLc (iList K (tVar 0)) (gName 2) (tTest (tOp (rI0 fun i j => .bl (decide (j < i))) (tVar 2) (tC (.int 0)))) (tVar 2) [2]) (start is_whole_N [.ref a]) H (nvs (l.filter fun (n : Nat) => n != 0)) := by
    rw [← filter_map_id]
    refine el_lstF (fun n => decide (0 < n)) (fun n => n) (ev_var rfl) hS (by omega) (fun _ => rfl) (fun n H1 e _ => ?_) (fun n H1 e _ _ => ev_var rfl)
    refine et_is (et_test (ev_I0 (ev_var rfl) ev_c)) ?_
    rw [decide_eq_decide]
    omega
  refine q_asgL hfl fun p H1 hp e1 h1 => ?_
  have hm : ∀ n ∈ l.filter (fun (n : Nat) => n != 0), n ≤ 15 := fun n hn => h15 n (List.mem_filter.mp hn).1
  have hln : (l.filter fun (n : Nat) => n != 0).length ≤ 300 := Nat.le_trans (List.length_filter_le _ _) hl
  unfold SwSqueeze.wholeCode at q
  simp only at q
  generalize l.filter (fun (n : Nat) => n != 0) = m at h1 hm hln q
  have hlen : ∀ {σ : L2.St} {H' : Hp}, Ex H1 H' → σ[1]? = some (some (.ref p)) → Ev (tCB (rLenS K) (tCons (tVar 1) tNil)) σ H' (nv m.length) := fun {σ H'} e hσ => by
    have := ev_lenL (K := K) (ta := tVar 1) (σ := σ) (ev_var hσ) (sq_of (e _ _ h1))
    rw [nvs_length] at this
    exact this
  refine q_when (et_test (ev_eqI (hlen (Ex.refl _) rfl) ev_c)) (fun hb H2 e2 => ?_) (fun hb H2 e2 => ?_)
  · have h0 : m = [] := List.length_eq_zero_iff.mp (by have := of_decide_eq_true hb; omega)
    subst h0
    exact s_ret ev_c fun H3 e3 => q H3 ((e1.trans e2).trans e3)
  have hb : m.length ≠ 0 := by have := of_decide_eq_false hb; omega
  refine q_when (et_test (ev_eqI (hlen e2 rfl) ev_c)) (fun hb2 H3 e3 => ?_) (fun hb2 H3 e3 => ?_)
  · have hb2 : m.length = 1 := by have := of_decide_eq_true hb2; omega
    obtain ⟨n, rfl⟩ := List.length_eq_one_iff.mp hb2
    refine s_ret (ev_is (ev_eqI (ev_ix (j := 0) (ev_var rfl) ev_c (sq_of (e3 _ _ (e2 _ _ h1))) rfl rfl) ev_c) ?_) fun H4 e4 => q H4 (((e1.trans e2).trans e3).trans e4)
    congr 1
    rw [if_pos (by simp)]
    simp only [List.all_cons, List.all_nil, Bool.and_true]
    by_cases h : n = 1
    · subst h; rfl
    · rw [decide_eq_false (by omega), beq_eq_false_iff_ne.mpr h]
  · have hb2 : m.length ≠ 1 := by have := of_decide_eq_false hb2; omega
    rw [if_neg (by omega)] at q
    refine s_ret (ev_is (ev_eqI (ev_sum (l := m.map fun n => 2 ^ (15 - n)) ?_) (ev_I ev_c ev_c ⟨by decide, by decide, by decide⟩)) ?_) fun H4 e4 => q H4 (((e1.trans e2).trans e3).trans e4)
    · have := el_lstF (K := K) (tl := tVar 1) (j := 2) (vs := [2]) (t := tYes) (te := tOp (rI CPow fun i j => .int (i * 2 ^ j.toNat)) (tC (.int 1)) (tOp (rI0 fun i j => .int (i - j)) (tC (nv 15)) (tVar 2))) (σ := List.set (start is_whole_N [.ref a]) 1 (some (.ref p))) (H := H3)
        (fun _ => true) (fun n => 2 ^ (15 - n)) (ev_var rfl) (sq_of (e3 _ _ (e2 _ _ h1))) (by omega) (fun _ => rfl) (fun n H4 _ _ => et_yes) (fun n H4 e4 hn _ => ?_)
      · rw [List.filter_eq_self.mpr (fun _ _ => rfl)] at this
        exact this
      · have := hm n hn
        refine ev_is (ev_I ev_c (ev_I0 ev_c (ev_var rfl)) ⟨by omega, by omega, by decide⟩) ?_
        show V.int _ = V.int _
        have h2 : ((15 : Nat) : Int) - (n : Int) = ((15 - n : Nat) : Int) := by omega
        rw [h2, Int.toNat_natCast, Int.one_mul, Int.natCast_pow]
        rfl
    · congr 1
      generalize (m.map fun n => 2 ^ (15 - n)).sum = u
      by_cases h : u = 2 ^ 15
      · subst h
        rfl
      · rw [beq_eq_false_iff_ne.mpr h, decide_eq_false]
        intro h2
        have h3 : ((u : Nat) : Int) = 32768 := h2
        omega
end
end Gz
end

/-! ## W5 -/
section
set_option Elab.async false
set_option linter.all false
set_option maxRecDepth 100000
set_option maxHeartbeats 4000000
namespace Gz
open PySem PySem.Spec PyProof.Rows L2 Evl
open SwSqueeze (classOf bitsLow bitsHigh leavesOf rowAfter)
open PySem.StrLaws (At lastBody last_eq last_run LastOk subAt_eq)
section
variable {P : Program} {w : World} {K : PySem.W.Frag} {mg : Str → Option Value} {base : Heap} {f : Addr} {fd : FuncData} {aM : Addr}
/-! ### spelled -/
def spS (t : List UInt8) : Str := ⟨(sp t).toArray⟩
theorem spS_tl (t : List UInt8) : (spS t).cps.toList = sp t := rfl
theorem spS_length (t : List UInt8) : (spS t).length = 2 * t.length := by
  show (sp t).toArray.size = _
  rw [List.size_toArray, sp_length]
def one (c : UInt8) : Str := ⟨#[97 + c.toNat / 16, 65 + c.toNat % 16]⟩
theorem join_flat : ∀ l : List (List Nat), TL.joinL [] l = l.flatten
  | [] => rfl
  | [p] => by simp [TL.joinL]
  | p :: q :: r => by
    show p ++ ([] ++ TL.joinL [] (q :: r)) = _
    rw [join_flat (q :: r)]
    rfl
theorem join_sp (t : List UInt8) : Txt.join "" (t.map one) = spS t := by
  rw [TL.join_eq]
  have h := TL.tl_join "" (t.map one)
  have e : TL.tl ("" : Str) = [] := rfl
  rw [e, join_flat] at h
  refine TL.ext_tl (h.trans ?_)
  rw [List.map_map]
  show _ = sp t
  unfold sp
  rw [List.flatMap_def]
  rfl
theorem high_at : ∀ i, i < 16 → ("abcdefghijklmnop" : Str).cps.toList[i]? = some (97 + i) := by decide +kernel
theorem low_at : ∀ i, i < 16 → ("ABCDEFGHIJKLMNOP" : Str).cps.toList[i]? = some (65 + i) := by decide +kernel
/-- a comprehension over a list of numbers, its items any -/
theorem el_lstV {σ : L2.St} {H : Hp} {te tl : TE} {j : Nat} {vs : List Nat} {a : Addr} {l : List Nat} (g : Nat → V) (h : Ev tl σ H (.ref a)) (hx : SqL K H a (nvs l)) (hz : l.length ≤ 40000) (hw : ∀ x, wipe ((wipe σ vs).set j (some x)) vs = wipe σ vs)
    (he : ∀ (n : Nat) H1, Ex H H1 → n ∈ l → Ev te ((wipe σ vs).set j (some (nv n))) H1 (g n)) :
    EvL (tLc (iList K tl) (gName j) tYes te vs) σ H (l.map g) := fun H0 e Q q => h H0 e _ fun H1 e1 => ⟨a, rfl, ⟨nvs l, ex_l (e.trans e1) hx⟩, fun Dl hD => by
  refine lc_list (xs := nvs l) (fun k H' => H1 Dl = none ∧ Ex H1 H' ∧ H' Dl = some (.lst ((l.take k).map g))) ⟨hD, Ex.new hD, upd_same⟩ (fun k H' _ p => ex_l ((e.trans e1).trans p.2.1) hx) (fun k x H' hx' p => ?_) (fun H' p => ?_)
  · obtain ⟨n, hn, rfl⟩ := nvs_of hx'
    have hmem := List.mem_of_getElem? hn
    refine ⟨hw _, ?_⟩
    show te _ _ _
    have hsz : ((l.take k).map g).length < sizeLine := by
      rw [List.length_map]
      refine sz_lt ?_
      have h2 := List.length_take_le k l
      have h3 := (List.getElem?_eq_some_iff.mp hn).1
      rw [List.length_take]
      omega
    refine he n H1 (e.trans e1) hmem H' p.2.1 _ fun H3 e3 => ⟨_, e3 _ _ p.2.2, hsz, p.1, Ex.mut (p.2.1.trans e3) p.1, ?_⟩
    rw [upd_same, take_more hn, List.map_append]
    rfl
  · rw [nvs_length, List.take_length] at p
    exact q Dl H' (fresh_back e1 p.1) (e1.trans p.2.1) p.2.2⟩
theorem ev_ixs {σ : L2.St} {H : Hp} {ta tb : TE} {z : Str} {j c : Nat} {i : Int} (ha : Ev ta σ H (.str z)) (hb : Ev tb σ H (.int i)) (hz : z.length ≤ 100000) (hx : z.cps.toList[j]? = some c) (e : i = (j : Int)) : Ev (tOp rIxS ta tb) σ H (.str ⟨#[c]⟩) := by
  subst e
  exact ev_op ha hb (rv_ixS hz (atI_nat hx))
abbrev rAddStr : R2 := fun x y H Q => ∃ i j, x = V.str i ∧ y = V.str j ∧ i.length + j.length ≤ sizeLine ∧ Q (.str (i ++ j)) H
theorem ev_adds {σ : L2.St} {H : Hp} {ta tb : TE} {x y : Str} (ha : Ev ta σ H (.str x)) (hb : Ev tb σ H (.str y)) (hz : x.length + y.length ≤ 100000) : Ev (tOp rAddStr ta tb) σ H (.str (x ++ y)) :=
  ev_op (r := rAddStr) (z := .str (x ++ y)) ha hb fun H1 _ Q q => ⟨x, y, rfl, rfl, sz_of hz, q H1 (Ex.refl H1)⟩
def spSpelled (K : PySem.W.Frag) : Sp := fun vs H Q _ => ∃ (a : Addr) (t : List UInt8), vs = [.ref a] ∧ SqL K H a (nvs (bs t)) ∧ t.length ≤ 1024 ∧ RetV (.str (spS t)) H Q
theorem ok_spelled (T : Gs K mg aM) (F : Fun K "spelled" "spelled" s_spelled f fd) : FnOk P w K mg base CX0 1 f fd ["text"] (spSpelled K) := by
  refine F.ok sc_spelled (fun vs H Q E h => ?_) (fun cdv A outer s H vs Q E hr h => ?_)
  · obtain ⟨a, l, rfl, _⟩ := h
    rfl
  obtain ⟨a, t, rfl, hS, hl, q⟩ := h
  refine ⟨_, (pss_one (ps_ret (pe_join pe_str (pe_lc (own := [("byte", 1)]) rfl sc_spelled.nd (pi_list (pv 0)) (blkOk_by (own := [("byte", 1)]) (N := spelled_N) (sc := defScope s_spelled) (by decide +kernel)) (fun _ _ _ _ _ => pg_name (i := 1) sc_spelled.nd rfl (Or.inl rfl) (Or.inr rfl)) (fun _ _ _ _ _ => pts_nil) (fun _ _ _ _ _ => (pe_op op_add_str (pe_ix ix_str (pe_k T.HIGH) (pe_op op_fdiv (pv 1) pe_int) (fun _ _ => rfl)) (pe_ix ix_str (pe_k T.LOW) (pe_op op_mod (pv 1) pe_int) (fun _ _ => rfl)))))))), ?_⟩
  have hlc : EvL (tLc (iList K (tVar 0)) (gName 1) tYes (tOp (fun x y H Q => ∃ i j, x = V.str i ∧ y = V.str j ∧ i.length + j.length ≤ sizeLine ∧ Q (.str (i ++ j)) H) (tOp rIxS (tC (.str "abcdefghijklmnop")) (tOp (rI CDiv fun i j => .int (i / j)) (tVar 1) (tC (.int 16)))) (tOp rIxS (tC (.str "ABCDEFGHIJKLMNOP")) (tOp (rI (fun _ j => 0 < j) fun i j => .int (i % j)) (tVar 1) (tC (.int 16))))) [1]) (start spelled_N [.ref a]) H ((t.map one).map V.str) := by
    have := el_lstV (K := K) (te := tOp (fun x y H Q => ∃ i j, x = V.str i ∧ y = V.str j ∧ i.length + j.length ≤ sizeLine ∧ Q (.str (i ++ j)) H) (tOp rIxS (tC (.str "abcdefghijklmnop")) (tOp (rI CDiv fun i j => .int (i / j)) (tVar 1) (tC (.int 16)))) (tOp rIxS (tC (.str "ABCDEFGHIJKLMNOP")) (tOp (rI (fun _ j => 0 < j) fun i j => .int (i % j)) (tVar 1) (tC (.int 16)))))
      (tl := tVar 0) (j := 1) (vs := [1]) (σ := start spelled_N [.ref a]) (H := H) (l := bs t) (fun n => .str ⟨#[97 + n / 16, 65 + n % 16]⟩) (ev_var rfl) hS (by rw [bs_length]; omega) (fun _ => rfl) (fun n H1 e hn => ?_)
    · have e2 : (bs t).map (fun n => V.str ⟨#[97 + n / 16, 65 + n % 16]⟩) = (t.map one).map V.str := by
        unfold bs
        rw [List.map_map, List.map_map]
        rfl
      rw [e2] at this
      exact this
    · obtain ⟨c, _, rfl⟩ := List.mem_map.mp hn
      have hc := c.toNat_lt
      refine ev_is (ev_adds (x := ⟨#[97 + c.toNat / 16]⟩) (y := ⟨#[65 + c.toNat % 16]⟩) (ev_ixs ev_c (ev_I (ev_var rfl) ev_c ?_) ?_ (high_at (c.toNat / 16) (by omega)) rfl) (ev_ixs ev_c (ev_I (ev_var rfl) ev_c ?_) ?_ (low_at (c.toNat % 16) (by omega)) rfl) ?_) rfl
      · exact ⟨by decide, by decide⟩
      · decide +kernel
      · show (0 : Int) < 16
        decide
      · decide +kernel
      · exact (by decide : 1 + 1 ≤ 100000)
  refine s_ret (te := tM1 _ (tC (.str "")) (tLc (iList K (tVar 0)) (gName 1) tYes _ [1])) (v := .str (spS t)) ?_ q
  intro H1 e Q' q'
  refine ⟨⟨_, rfl⟩, ?_⟩
  refine hlc H1 e _ fun p H2 hp e2 h2 => ?_
  refine ⟨"", p, t.map one, rfl, rfl, .inl (sq_of h2), ?_, ?_⟩
  · have : ∀ l : List UInt8, ((l.map one).map (·.length)).sum = 2 * l.length := by
      intro l
      induction l with
      | nil => rfl
      | cons c l ih => rw [List.map_cons, List.map_cons, List.sum_cons, ih, List.length_cons]; show 2 + _ = _; omega
    rw [this]
    have e0 : ("" : Str).length = 0 := rfl
    rw [e0]
    omega
  · rw [← join_sp] at q'
    exact q' H2 e2
end
end Gz
end

/-! ## W6 -/
section
set_option Elab.async false
set_option linter.all false
set_option maxRecDepth 100000
set_option maxHeartbeats 4000000
namespace Gz
open PySem PySem.Spec PyProof.Rows L2 Evl
open PySem.StrLaws (At lastBody last_eq last_run LastOk subAt_eq)
section
variable {P : Program} {w : World} {K : PySem.W.Frag} {mg : Str → Option Value} {base : Heap} {f : Addr} {fd : FuncData} {aM : Addr}
/-! ### taken apart -/
section
variable {σ : L2.St} {H : Hp} {ta tb te : TE} {tr : TA} {D : Ends} {tz : TS}
theorem q_raw {i : Nat} (h : te σ H fun v H1 => tz D (σ.set i (some v)) H1) : tSeq (tAsg te (gName i)) tz D σ H := h
theorem s_raw {i : Nat} (h : te σ H fun v H1 => D.nx (σ.set i (some v)) H1) : tAsg te (gName i) D σ H := h
theorem r_raw (h : te σ H D.rt) : tRet te D σ H := h
theorem d_raw (h : te σ H fun _ H1 => D.nx σ H1) : tDrop te D σ H := h
theorem qd_raw (h : te σ H fun _ H1 => tz D σ H1) : tSeq (tDrop te) tz D σ H := h
theorem cb_raw {r : List V → Hp → VK → Prop} {Q : VK} (h : tr σ H fun vs H1 => r vs H1 Q) : tCB r tr σ H Q := h
theorem cons_raw {Q : List V → Hp → Prop} (h : ta σ H fun v H1 => tr σ H1 fun vs H2 => Q (v :: vs) H2) : tCons ta tr σ H Q := h
theorem call_raw {sp : Sp} {dvs : List V} {E : XK} {Q : VK} (h : tr σ H fun vs H1 => sp (vs ++ dvs) H1 Q E) : tCall sp dvs E tr σ H Q := h
end
/-! ### nearest -/
theorem last_of (x y : Str) (hi : Nat) : (Builtin.Str.lastOccurrence x y 0 hi = none ∧ ∀ i, ¬ At x y hi i) ∨ ∃ i, Builtin.Str.lastOccurrence x y 0 hi = some i ∧ At x y hi i ∧ ∀ k, i < k → ¬ At x y hi k := by
  rw [last_eq]
  have key := last_run x y hi (List.range' 0 (hi + 1 - 0)) [] none (fun _ h => nomatch h) (fun _ h => nomatch h) (by simpa using List.pairwise_lt_range' (s := 0) (n := hi + 1 - 0))
  have mem : ∀ i, At x y hi i → i ∈ [] ++ List.range' 0 (hi + 1 - 0) := fun i h => by have := h.1; simp [List.mem_range'] <;> omega
  cases hr : (forIn (List.range' 0 (hi + 1 - 0)) none (lastBody x y hi)).run with
  | none => rw [hr] at key; exact .inl ⟨rfl, fun i h => key i (mem i h) h⟩
  | some a => rw [hr] at key; exact .inr ⟨a, rfl, key.1, fun k hk hA => key.2 k (mem k hA) hk hA⟩
def wantS (t : List UInt8) (i L : Nat) : Str := ⟨(((sp t).drop (2 * i)).take (2 * L)).toArray⟩
theorem wantS_length {t : List UInt8} {i L : Nat} (h : i + L ≤ t.length) : (wantS t i L).length = 2 * L := by
  show (((sp t).drop (2 * i)).take (2 * L)).toArray.size = _
  rw [List.size_toArray, List.length_take, List.length_drop, sp_length]
  omega
theorem at_iff {t : List UInt8} {i L hi p : Nat} (h : i + L ≤ t.length) : At (spS t) (wantS t i L) hi p ↔ p + 2 * L ≤ hi ∧ ((sp t).drop p).take (2 * L) = ((sp t).drop (2 * i)).take (2 * L) := by
  unfold At
  rw [subAt_eq, wantS_length h]
  show _ ∧ ((List.take (2 * L) (List.drop p (sp t))) == ((sp t).drop (2 * i)).take (2 * L)) = true ↔ _
  rw [beq_iff_eq]
/-- where the last one stands -/
def foundAt (t : List UInt8) (i L : Nat) : Int := Txt.rfindIn (spS t) (wantS t i L) 0 (2 * ((i : Int) - 1 + L))
theorem found_is {t : List UInt8} {i L : Nat} (h1 : 1 ≤ L) (h : i + L ≤ t.length) (h258 : L ≤ 258) :
    (foundAt t i L < 0 ∧ D t i L = 0) ∨ ∃ p : Nat, foundAt t i L = p ∧ D t i L = i - p / 2 ∧ p / 2 ≤ i := by
  have hlen := spS_length t
  have hhi : toIndexW (spS t).length (2 * ((i : Int) - 1 + L)) = 2 * (i + L - 1) := by
    unfold toIndexW
    rw [if_neg (by omega), hlen]
    omega
  have hlo : fromIndex (spS t).length 0 = 0 := rfl
  unfold foundAt Txt.rfindIn
  rw [hlo, hhi]
  rcases last_of (spS t) (wantS t i L) (2 * (i + L - 1)) with ⟨e, hno⟩ | ⟨p, e, hp, hno⟩
  · rw [e]
    refine .inl ⟨by show (-1 : Int) < 0; decide, (near_eq (by omega) h258 ?_).symm⟩
    by_cases h0 : i = 0
    · subst h0
      exact .inl ⟨rfl, fun e h1 h2 => by omega⟩
    · refine near_none h1 h (fun p hp he => hno p ((at_iff h).mpr ⟨?_, he⟩)) (by omega)
      omega
  · rw [e]
    have hp2 := (at_iff h).mp hp
    by_cases h0 : i = 0
    · omega
    · have := near_some h1 h (by omega) (by omega) hp2.2 (fun q hq hq2 he => hno q hq ((at_iff h).mpr ⟨by omega, he⟩))
      exact .inr ⟨p, rfl, (near_eq (by omega) h258 this.1).symm, by omega⟩
theorem cut_want {t : List UInt8} {i L : Nat} (h : i + L ≤ t.length) : cutS (spS t) (some ((2 * i : Nat) : Int)) (some ((2 * (i + L) : Nat) : Int)) = wantS t i L := by
  unfold cutS wantS
  rw [HT.sIx_nat, HT.sIx_nat, spS_length, Nat.min_eq_left (by omega), Nat.min_eq_left (by omega), show 2 * (i + L) - 2 * i = 2 * L by omega]
  rfl
def spNearest : Sp := fun vs H Q _ => ∃ (t : List UInt8) (i L : Nat), vs = [.str (spS t), nv i, nv L] ∧ 1 ≤ L ∧ L ≤ 258 ∧ i + L ≤ t.length ∧ t.length ≤ 1024 ∧ RetV (nv (D t i L)) H Q
theorem ok_nearest (F : Fun K "nearest" "nearest" s_nearest f fd) : FnOk P w K mg base CX0 1 f fd ["spelling", "at", "length"] spNearest := by
  refine F.ok sc_nearest (fun vs H Q E h => ?_) (fun cdv A outer s H vs Q E hr h => ?_)
  · obtain ⟨t, i, L, rfl, _⟩ := h
    rfl
  obtain ⟨t, i, L, rfl, h1, h258, hL, ht, q⟩ := h
  refine ⟨_, (pss_cons (ps_set (i := 3) sc_nearest.nd rfl (Or.inl rfl) (pe_slice sl_str (pv 0) (po_some (pe_op op_mul pe_int (pv 1))) (po_some (pe_op op_mul pe_int (pe_op op_add (pv 1) (pv 2))))))
    (pss_cons (ps_set (i := 4) sc_nearest.nd rfl (Or.inl rfl) (pe_bm PySem.F.plainAttrs_str PySem.F.slot_str_rfind PySem.F.type_str_rfind mt_rfind4 (pv 0) (pa_cons (pv 3) (pa_cons pe_int (pa_cons (pe_op op_mul pe_int (pe_op op_add (pe_op op_sub (pv 1) pe_int) (pv 2))) pa_nil)))))
    (pss_cons (ps_if (pt_cmpR op_lt (pv 4) pe_int (nomark _))
      (pss_one (ps_ret pe_int))
      pss_nil)
    (pss_one (ps_ret (pe_op op_sub (pv 1) (pe_op op_fdiv (pv 4) pe_int))))))), ?_⟩
  have hz : (spS t).length ≤ sizeLine := by rw [spS_length]; exact sz_of (by omega)
  refine q_asg (v := .str (wantS t i L)) (fun H1 e Q' q' => ?_) fun H1 e1 => ?_
  · refine (ev_var (v := .str (spS t)) rfl) H1 e _ fun H2 e2 => ?_
    refine (eo_some (ev_is (w := nv (2 * i)) (ev_I ev_c (ev_var rfl) (.inl ⟨by decide, by decide⟩)) (by show V.int _ = V.int _; congr 1))) H2 (e.trans e2) _ fun H3 e3 => ?_
    refine (eo_some (ev_is (w := nv (2 * (i + L))) (ev_I ev_c (ev_I0 (ev_var rfl) (ev_var rfl)) (.inl ⟨by decide, by decide⟩)) (by show V.int _ = V.int _; congr 1))) H3 ((e.trans e2).trans e3) _ fun H4 e4 => ?_
    refine ⟨spS t, rfl, hz, ?_⟩
    rw [cut_want hL]
    exact q' H4 ((e2.trans e3).trans e4)
  refine q_asg (v := .int (foundAt t i L)) (fun H2 e Q' q' => ?_) fun H2 e2 => ?_
  · refine (ev_var (v := .str (spS t)) rfl) H2 e _ fun H3 e3 => ⟨?_, ?_⟩
    · exact rfl
    refine (ea_cons (ev_var (v := .str (wantS t i L)) rfl) (ea_cons (x := .int 0) ev_c (ea_cons (x := .int (2 * ((i : Int) - 1 + L))) (ev_is (ev_I ev_c (ev_I0 (ev_I0 (ev_var rfl) ev_c) (ev_var rfl)) (Or.inl ⟨by decide, by decide⟩)) rfl) ea_nil))) H3 (e.trans e3) _ fun H4 e4 => ?_
    exact ⟨spS t, wantS t i L, 0, 2 * ((i : Int) - 1 + L), rfl, rfl, q' H4 (e3.trans e4)⟩
  have hf := found_is h1 hL h258
  refine q_when (et_test (ev_I0 (ev_var rfl) ev_c)) (fun hb H3 e3 => ?_) (fun hb H3 e3 => ?_)
  · have hb : foundAt t i L < 0 := of_decide_eq_true hb
    rcases hf with ⟨_, h0⟩ | ⟨p, hp, _⟩
    · rw [h0] at q
      exact s_ret ev_c fun H4 e4 => q H4 (((e1.trans e2).trans e3).trans e4)
    · omega
  · have hb : ¬ foundAt t i L < 0 := of_decide_eq_false hb
    rcases hf with ⟨h0, _⟩ | ⟨p, hp, hD, hle⟩
    · exact absurd h0 hb
    · rw [hD] at q
      refine s_ret (ev_is (ev_I0 (ev_var rfl) (ev_I (ev_var rfl) ev_c ⟨by decide, by decide⟩)) ?_) fun H4 e4 => q H4 (((e1.trans e2).trans e3).trans e4)
      rw [hp]
      show V.int _ = V.int _
      congr 1
      omega
/-! ### stretch -/
def spStretch (K : PySem.W.Frag) : Sp := fun vs H Q _ => ∃ (a : Addr) (t : List UInt8) (i d : Nat) (b : Addr) (ends : List Nat), vs = [.ref a, nv i, nv d, .ref b] ∧ SqL K H a (nvs (bs t)) ∧ H b = some (.lst (nvs ends)) ∧ a ≠ b ∧ t.length ≤ 1024 ∧ 1 ≤ d ∧ d ≤ i ∧ i < t.length ∧ EndsOk t i ends ∧
  ∀ S ends', Strc t i d S → EndsOk t i ends' → ∀ H2, ExB b H H2 → H2 b = some (.lst (nvs ends')) → Q (nv S) H2
theorem sql_b {a b : Addr} {H H' : Hp} {xs : List V} (k : ExB b H H') (hab : a ≠ b) (h : SqL K H a xs) : SqL K H' a xs := by
  rcases h with (h | ⟨o, h⟩) | h
  · exact .inl (.inl (k a _ hab h))
  · exact .inl (.inr ⟨o, k a _ hab h⟩)
  · exact .inr h
theorem text_get {t : List UInt8} {i : Nat} (h : i < t.length) : (nvs (bs t))[i]? = some (nv (t[i].toNat)) := nvs_get (bs_get (List.getElem?_eq_getElem h))
theorem ev_lenT {σ : L2.St} {H : Hp} {ta : TE} {a : Addr} {t : List UInt8} (h : Ev ta σ H (.ref a)) (hS : SqL K H a (nvs (bs t))) : Ev (tCB (rLenS K) (tCons ta tNil)) σ H (nv t.length) := by
  have := ev_lenL (K := K) h hS
  rw [nvs_length, bs_length] at this
  exact this
theorem ev_lenN {σ : L2.St} {H : Hp} {ta : TE} {a : Addr} {l : List Nat} (h : Ev ta σ H (.ref a)) (hS : SqL K H a (nvs l)) : Ev (tCB (rLenS K) (tCons ta tNil)) σ H (nv l.length) := by
  have := ev_lenL (K := K) h hS
  rw [nvs_length] at this
  exact this
theorem ok_stretch (T : Gs K mg aM) (F : Fun K "stretch" "stretch" s_stretch f fd) : FnOk P w K mg base CX0 1 f fd ["text", "at", "distance", "ends"] (spStretch K) := by
  refine F.ok sc_stretch (fun vs H Q E h => ?_) (fun cdv A outer s H vs Q E hr h => ?_)
  · obtain ⟨a, t, i, d, b, ends, rfl, _⟩ := h
    rfl
  obtain ⟨a, t, i, d, b, ends, rfl, hS, hb, hab, ht, h1, h2, hi, hE, q⟩ := h
  refine ⟨_, (pss_cons (ps_set (i := 4) sc_stretch.nd rfl (Or.inl rfl) (pe_callB (call_max2 rfl) (by rfl) T.b_max (by decide +kernel) (pa_cons (pe_ix ix_list (pv 3) (pv 2) (fun _ _ => rfl)) (pa_cons (pv 1) pa_nil))))
    (pss_cons (ps_while PassesOwn.never (PW.pt (pw_and (pt_cmpR op_lt (pv 4) (pe_callB call_len_seq (by rfl) T.b_len (by decide +kernel) (pa_cons (pv 0) pa_nil)) (nomark _)) (pw_and1 (pt_cmpR op_eq (pe_ix ix_list (pv 0) (pv 4) (fun _ _ => rfl)) (pe_ix ix_list (pv 0) (pe_op op_sub (pv 4) (pv 2)) (fun _ _ => rfl)) (nomark _)))))
      (pss_one (ps_aug (i := 4) sc_stretch.nd rfl (Or.inl rfl) pe_int ip_add)))
    (pss_cons (ps_asg (pv 4) (pg_sub (pv 3) (pv 2) set_list))
    (pss_one (ps_ret (pe_op op_sub (pv 4) (pv 1))))))), ?_⟩
  have hd : d < ends.length := by rw [hE.len]; omega
  have he : ends[d]? = some ends[d] := List.getElem?_eq_getElem hd
  generalize ends[d] = e0 at he
  refine q_asg (v := nv (max e0 i)) (ev_is (ev_max (ev_ix (j := d) (ev_var rfl) (ev_var rfl) (sq_of hb) (nvs_get he) rfl) (ev_var rfl)) (by show V.int _ = V.int _; congr 1; omega)) fun H1 e1 => ?_
  refine q_while (fun m σ H' => ∃ e, σ = [some (.ref a), some (nv i), some (nv d), some (.ref b), some (nv e)] ∧ Ex H H' ∧ Alike t i d e ∧ m = t.length - e) _ ⟨_, rfl, e1, alike_start hE he (by omega), rfl⟩ ?_
  rintro m σ H' ⟨e, rfl, e2, hA, rfl⟩
  have hlo := hA.1
  have hhi := hA.2.1
  refine ⟨decide (e < t.length) && decide (t[e]? = t[e - d]?), et_and (et_is (et_test (ev_I0 (ev_var rfl) (ev_lenT (ev_var rfl) (ex_l e2 hS)))) ?_) (fun hlt => ?_), fun hc H2 e3 => ?_, fun hc H2 e3 => ?_⟩
  · rw [decide_eq_decide]
    omega
  · have hlt := of_decide_eq_true hlt
    refine et_is (et_test (ev_eqI (ev_ix (j := e) (ev_var rfl) (ev_var rfl) (ex_l e2 hS) (text_get hlt) rfl) (ev_ix (j := e - d) (ev_var rfl) (ev_I0 (ev_var rfl) (ev_var rfl)) (ex_l e2 hS) (text_get (show e - d < t.length by omega)) (by omega)))) ?_
    rw [decide_eq_decide, List.getElem?_eq_getElem hlt, List.getElem?_eq_getElem (show e - d < t.length by omega)]
    constructor
    · intro h
      congr 1
      exact UInt8.toNat_inj.mp (by omega)
    · intro h
      rw [Option.some.inj h]
  · rw [Bool.and_eq_true, decide_eq_true_eq, decide_eq_true_eq] at hc
    refine ⟨fun σ2 H3 => σ2 = [some (.ref a), some (nv i), some (nv d), some (.ref b), some (nv (e + 1))] ∧ Ex H H3, fun σ2 H3 ⟨h3, h4⟩ => ⟨t.length - (e + 1), by omega, e + 1, h3, h4, hA.more hc.1 hc.2, rfl⟩, ?_⟩
    exact s_aug (a := (e : Int)) (b := 1) rfl ev_c fun H3 e4 => ⟨rfl, (e2.trans e3).trans e4⟩
  · have hstop : e = t.length ∨ t[e]? ≠ t[e - d]? := by
      rw [Bool.and_eq_false_iff, decide_eq_false_iff_not, decide_eq_false_iff_not] at hc
      rcases hc with hc | hc
      · exact .inl (by omega)
      · exact .inr hc
    have e23 := e2.trans e3
    refine q_setL (j := d) (e23 _ _ hb) (v := nv e) (ev_var rfl) (ev_var rfl) (ev_var rfl) (by rw [nvs_length]; exact hd) fun H3 e4 => ?_
    rw [nvs_set]
    refine s_ret (ev_is (w := nv (e - i)) (ev_I0 (ev_var rfl) (ev_var rfl)) (by show V.int _ = V.int _; congr 1; omega)) fun H4 e5 => ?_
    exact q (e - i) (ends.set d e) (hA.str hstop) (hA.ends hE hd) H4 ((ex_b (e23.trans e4)).trans (ExB.upd.trans (ex_b e5))) (e5 _ _ upd_same)
/-! ### offers -/
def spOffers (K : PySem.W.Frag) : Sp := fun vs H Q _ => ∃ (a : Addr) (t : List UInt8) (i : Nat) (b : Addr) (ends : List Nat), vs = [.ref a, .str (spS t), nv i, .ref b] ∧ SqL K H a (nvs (bs t)) ∧ H b = some (.lst (nvs ends)) ∧ a ≠ b ∧ t.length ≤ 1024 ∧ i < t.length ∧ EndsOk t i ends ∧
  ∀ rows ends', flat 2 rows = cands t i → Chain 2 rows → (∀ q ∈ rows, 1 ≤ q.2 ∧ q.2 ≤ i ∧ q.1 ≤ 258) → EndsOk t i ends' → ∀ p H2, H p = none → ExB b H H2 → H2 b = some (.lst (nvs ends')) → PairL H2 p rows → Q (.ref p) H2
theorem chain_len : ∀ (l : List (Nat × Nat)) (prev : Nat), Chain prev l → l.length + prev ≤ lastOf prev l
  | [], _, _ => by simp [lastOf]
  | a :: l, prev, h => by
    have := chain_len l a.1 h.2
    have h1 := h.1
    show l.length + 1 + prev ≤ lastOf a.1 l
    omega
theorem ok_offers (T : Gs K mg aM) (D_nearest : Def P w K mg base CX0 1 "nearest" ["spelling", "at", "length"] spNearest) (D_stretch : Def P w K mg base CX0 1 "stretch" ["text", "at", "distance", "ends"] (spStretch K)) (F : Fun K "offers" "offers" s_offers f fd) :
    FnOk P w K mg base CX0 2 f fd ["text", "spelling", "at", "ends"] (spOffers K) := by
  refine F.ok sc_offers (fun vs H Q E h => ?_) (fun cdv A outer s H vs Q E hr h => ?_)
  · obtain ⟨a, t, i, b, ends, rfl, _⟩ := h
    rfl
  obtain ⟨a, t, i, b, ends, rfl, hS, hb, hab, ht, hi, hE, q⟩ := h
  refine ⟨_, (pss_cons (ps_set (i := 4) sc_offers.nd rfl (Or.inl rfl) (pe_callB (call_min2 rfl) (by rfl) T.b_min (by decide +kernel) (pa_cons (pe_k T.MOST) (pa_cons (pe_op op_sub (pe_callB call_len_seq (by rfl) T.b_len (by decide +kernel) (pa_cons (pv 0) pa_nil)) (pv 2)) pa_nil))))
    (pss_cons (ps_set (i := 5) sc_offers.nd rfl (Or.inl rfl) (pe_lst pa_nil))
    (pss_cons (ps_set (i := 6) sc_offers.nd rfl (Or.inl rfl) (pe_op op_sub (pe_k T.LEAST) pe_int))
    (pss_cons (ps_while PassesOwn.never (pt_cmpR op_lt (pv 6) (pv 4) (nomark _))
      (pss_cons (ps_set (i := 7) sc_offers.nd rfl (Or.inl rfl) (pe_callD D_nearest hr rfl pass0 (pa_cons (pv 1) (pa_cons (pv 2) (pa_cons (pe_op op_add (pv 6) pe_int) pa_nil)))))
    (pss_cons (ps_if (pt_cmpR op_eq (pv 7) pe_int (nomark _))
      (pss_one (ps_ret (pv 5)))
      pss_nil)
    (pss_cons (ps_set (i := 6) sc_offers.nd rfl (Or.inl rfl) (pe_callB (call_min2 rfl) (by rfl) T.b_min (by decide +kernel) (pa_cons (pe_callD D_stretch hr rfl pass0 (pa_cons (pv 0) (pa_cons (pv 2) (pa_cons (pv 7) (pa_cons (pv 3) pa_nil))))) (pa_cons (pv 4) pa_nil))))
    (pss_one (ps_expr (pe_bm PySem.F.plainAttrs_list PySem.F.slot_list_append PySem.F.type_list_append mt_append (pv 5) (pa_cons (pe_tup (pa_cons (pv 6) (pa_cons (pv 7) pa_nil))) pa_nil))))))))
    (pss_one (ps_ret (pv 5))))))), ?_⟩
  have hmost : ∃ most, most = min 258 (t.length - i) := ⟨_, rfl⟩
  obtain ⟨most, hmost⟩ := hmost
  refine q_asg (v := nv most) (ev_is (ev_min ev_c (ev_I0 (ev_lenT (ev_var rfl) hS) (ev_var rfl))) (by show V.int _ = V.int _; congr 1; omega)) fun H1 e1 => ?_
  refine q_asgL (el_lst ea_nil (by decide)) fun p H2 hp e2 h2 => ?_
  refine q_asg (v := nv 2) (ev_is (ev_I0 ev_c ev_c) rfl) fun H3 e3 => ?_
  have e13 := (e1.trans e2).trans e3
  have hpb : p ≠ b := fun e => by rw [e, e1 _ _ hb] at hp; cases hp
  have hpH : H p = none := fresh_back e1 hp
  refine q_while (fun m σ H' => ∃ r rows ends' v, σ = [some (.ref a), some (.str (spS t)), some (nv i), some (.ref b), some (nv most), some (.ref p), some (nv r), v] ∧ ExB b H H' ∧ (∀ z, H z = none → z ≠ p → True) ∧ H' b = some (.lst (nvs ends')) ∧ EndsOk t i ends' ∧ PairL H' p rows ∧ Off t i most rows r ∧ m = 300 - r) _
    ⟨2, [], ends, none, rfl, ex_b e13, fun _ _ _ => trivial, e13 _ _ hb, hE, ⟨[], e3 _ _ h2, .nil⟩, off_start t i most, rfl⟩ ?_
  rintro m σ H' ⟨r, rows, ends', v, rfl, hB, _, hb', hE', hP, hO, rfl⟩
  refine ⟨decide (r < most), et_is (et_test (ev_I0 (ev_var rfl) (ev_var rfl))) (by rw [decide_eq_decide]; omega), fun hc H4 e4 => ?_, fun hc H4 e4 => ?_⟩
  · have hc := of_decide_eq_true hc
    have hS' := sql_b (hB.trans (ex_b e4)) hab hS
    refine ⟨fun σ2 H9 => ∃ r2 rows2 ends2 v2, r < r2 ∧ σ2 = [some (.ref a), some (.str (spS t)), some (nv i), some (.ref b), some (nv most), some (.ref p), some (nv r2), v2] ∧ ExB b H H9 ∧ H9 b = some (.lst (nvs ends2)) ∧ EndsOk t i ends2 ∧ PairL H9 p rows2 ∧ Off t i most rows2 r2, ?_, ?_⟩
    · rintro σ2 H9 ⟨r2, rows2, ends2, v2, hlt, hσ, h3, h4, h5, h6, h7⟩
      exact ⟨300 - r2, by omega, r2, rows2, ends2, v2, hσ, h3, fun _ _ _ => trivial, h4, h5, h6, h7, rfl⟩
    -- distance = nearest(..)
    refine q_asg (v := nv (D t i (r + 1))) (ev_call (ea_cons (ev_var rfl) (ea_cons (ev_var rfl) (ea_cons (x := nv (r + 1)) (ev_is (ev_I0 (ev_var rfl) ev_c) rfl) ea_nil))) fun H5 e5 Q5 q5 E5 => ⟨t, i, r + 1, rfl, by omega, by omega, by omega, ht, q5⟩) fun H5 e5 => ?_
    have hn : Near t i (r + 1) (D t i (r + 1)) := D_near hi (by omega)
    generalize D t i (r + 1) = d at hn
    have e45 := e4.trans e5
    refine q_when (et_test (ev_eqI (ev_var rfl) ev_c)) (fun hd H6 e6 => ?_) (fun hd H6 e6 => ?_)
    · have hd : d = 0 := by have := of_decide_eq_true hd; omega
      subst hd
      refine s_ret (ev_var rfl) fun H7 e7 => ?_
      have e47 := (e45.trans e6).trans e7
      refine q rows ends' (off_end hi hmost hO (.inr ⟨hc, hn⟩)) hO.chain (fun x hx => ?_) hE' p H7 hpH (hB.trans (ex_b e47)) (e47 _ _ hb') (hP.ex e47)
      have := hO.dist x hx
      omega
    · have hd : d ≠ 0 := by have := of_decide_eq_false hd; omega
      have hdi : 1 ≤ d ∧ d ≤ i := by
        rcases hn with ⟨h0, _⟩ | ⟨h1, h2, _⟩
        · exact absurd h0 hd
        · exact ⟨h1, h2⟩
      have e46 := e45.trans e6
      -- reach = min(stretch(..), most)
      refine q_raw (cb_raw (cons_raw (call_raw ?_)))
      refine (ea_cons (ev_var rfl) (ea_cons (ev_var rfl) (ea_cons (ev_var rfl) (ea_cons (ev_var rfl) ea_nil)))) H6 (Ex.refl _) _ fun H7 e7 => ?_
      have e47 := e46.trans e7
      refine ⟨a, t, i, d, b, ends', rfl, ex_l (((e5.trans e6).trans e7)) hS', e47 _ _ hb', hab, ht, hdi.1, hdi.2, hi, hE', fun S ends2 hS2 hE2 H8 k8 hb8 => ?_⟩
      refine (ev_var (v := nv most) rfl) H8 (Ex.refl _) _ fun H9 e9 => ?_
      refine ⟨(S : Int), (most : Int), rfl, ?_⟩
      have emin : (if (most : Int) < (S : Int) then (most : Int) else (S : Int)) = ((min S most : Nat) : Int) := by omega
      rw [emin]
      obtain ⟨hO2, hlt2⟩ := off_turn hi hmost hO hc hn hd hS2
      -- rows.append((reach, distance))
      have hP9 : TupL H9 p (rows.map pr) := ((hP.ex e47).exB k8 (e47 _ _ hb') hpb).ex e9
      refine s_appR (r := pr (min S most, d)) hP9 (ev_var rfl) (eu_tup (ea_cons (ev_var rfl) (ea_cons (ev_var rfl) ea_nil)) (Nat.le_of_ble_eq_true rfl)) ?_ fun H10 k10 h10 => ?_
      · have := chain_len rows 2 hO.chain
        rw [hO.last] at this
        rw [List.length_map]
        omega
      · refine ⟨min S most, rows ++ [(min S most, d)], ends2, some (nv d), hlt2, rfl, ?_, ?_, hE2, ?_, hO2⟩
        · intro z o hz ho
          have hzp : z ≠ p := ne_of_none ho hpH
          exact k10 z o hzp (e9 z o (k8 z o hz (e47 z o (hB z o hz ho))))
        · exact k10 b _ hpb.symm (e9 _ _ hb8)
        · rw [PairL, List.map_append]
          exact h10
  · have hc := of_decide_eq_false hc
    refine s_ret (ev_var rfl) fun H5 e5 => ?_
    have e45 := e4.trans e5
    refine q rows ends' (off_end hi hmost hO (.inl (by omega))) hO.chain (fun x hx => ?_) hE' p H5 hpH (hB.trans (ex_b e45)) (e45 _ _ hb') (hP.ex e45)
    have := hO.dist x hx
    omega
end
end Gz
end

/-! ## W7 -/
section
set_option Elab.async false
set_option linter.all false
set_option maxRecDepth 100000
set_option maxHeartbeats 4000000
namespace Gz
open PySem PySem.Spec PyProof.Rows L2 Evl
open SwSqueeze (classOf)
section
variable {P : Program} {w : World} {K : PySem.W.Frag} {mg : Str → Option Value} {base : Heap} {f : Addr} {fd : FuncData} {aM : Addr}
/-! ### best_of -/
theorem least_of : ∀ l : List Nat, l ≠ [] → ∃ m, m ∈ l ∧ ∀ y ∈ l, m ≤ y
  | [], h => absurd rfl h
  | [a], _ => ⟨a, List.mem_singleton.mpr rfl, fun y hy => by rw [List.mem_singleton.mp hy]; exact Nat.le_refl _⟩
  | a :: b :: l, _ => by
    obtain ⟨m, hm, hl⟩ := least_of (b :: l) (by simp)
    by_cases h : a ≤ m
    · exact ⟨a, List.mem_cons_self, fun y hy => by
        rcases List.mem_cons.mp hy with rfl | hy
        · exact Nat.le_refl _
        · exact Nat.le_trans h (hl y hy)⟩
    · exact ⟨m, List.mem_cons_of_mem _ hm, fun y hy => by
        rcases List.mem_cons.mp hy with rfl | hy
        · omega
        · exact hl y hy⟩
theorem ev_minL {σ : L2.St} {H : Hp} {te : TE} {l : List Nat} {m : Nat} (h : EvL te σ H (nvs l)) (hm : m ∈ l) (hl : ∀ y ∈ l, m ≤ y) : Ev (tCB (rMin K) (tCons te tNil)) σ H (nv m) := fun H1 e Q q => h H1 e _ fun p H2 _ e2 h2 => by
  refine ⟨p, zn l, rfl, by rw [← nvs_ints]; exact sq_of h2, ?_, fun z hz hzl => ?_⟩
  · unfold zn
    rw [List.length_map]
    exact List.length_pos_of_mem hm
  · obtain ⟨m2, hm2, rfl⟩ := List.mem_map.mp hz
    have h1 := hl m2 hm2
    have h2 := hzl (m : Int) (List.mem_map.mpr ⟨m, hm, rfl⟩)
    have : (m2 : Int) = (m : Int) := by omega
    show Q (.int (m2 : Int)) H2
    rw [this]
    exact q H2 e2
def KeysOk (t : List UInt8) (i : Nat) (keys : List Nat) : Prop := keys.length = t.length + 1 ∧ ∀ p, i < p → p ≤ t.length → keys[p]? = some (keyOf t p)
def spBest (K : PySem.W.Frag) : Sp := fun vs H Q _ => ∃ (a : Addr) (t : List UInt8) (i : Nat) (b : Addr) (keys : List Nat) (rows : List (Nat × Nat)), vs = [.ref a, nv i, .ref b] ∧ SqL K H a (nvs keys) ∧ KeysOk t i keys ∧ PairL H b rows ∧ t.length ≤ 1024 ∧ i < t.length ∧
  flat 2 rows = cands t i ∧ Chain 2 rows ∧ (∀ q ∈ rows, 1 ≤ q.2 ∧ q.2 ≤ i ∧ q.1 ≤ 258) ∧
  ∀ p H2, H p = none → Ex H H2 → H2 p = some (.tup (nvs [(ent t i).1 * 2048 + (i + (ent t i).2.length), dOf (ent t i).2])) → Q (.ref p) H2
theorem flat_in : ∀ (l : List (Nat × Nat)) (prev : Nat), Chain prev l → ∀ q ∈ l, (q.1, q.2) ∈ flat prev l
  | a :: l, prev, h, q, hq => by
    rcases List.mem_cons.mp hq with rfl | hq
    · refine List.mem_append_left _ (List.mem_map.mpr ⟨q.1 - prev - 1, ?_, ?_⟩)
      · have := h.1
        exact List.mem_range.mpr (by omega)
      · have := h.1
        show (prev + 1 + (q.1 - prev - 1), q.2) = _
        rw [show prev + 1 + (q.1 - prev - 1) = q.1 by omega]
    · exact List.mem_append_right _ (flat_in l a.1 h.2 q hq)
theorem flat_length : ∀ (l : List (Nat × Nat)) (prev : Nat), Chain prev l → (flat prev l).length + prev = lastOf prev l
  | [], prev, _ => by simp [flat, lastOf]
  | a :: l, prev, h => by
    have := flat_length l a.1 h.2
    have h1 := h.1
    show (List.map _ _ ++ flat a.1 l).length + prev = lastOf a.1 l
    rw [List.length_append, List.length_map, List.length_range]
    omega
theorem ok_best_of (T : Gs K mg aM) (D_class_of : Def P w K mg base CX0 1 "class_of" ["number"] spClass) (D_further : Def P w K mg base CX0 1 "further" ["group"] spFurther) (F : Fun K "best_of" "best_of" s_best_of f fd) :
    FnOk P w K mg base CX0 2 f fd ["keys", "at", "rows"] (spBest K) := by
  refine F.ok sc_best_of (fun vs H Q E h => ?_) (fun cdv A outer s H vs Q E hr h => ?_)
  · obtain ⟨a, t, i, b, keys, rows, rfl, _⟩ := h
    rfl
  obtain ⟨a, t, i, b, keys, rows, rfl, hS, hK, hP, ht, hi, hf, hc, hd, q⟩ := h
  refine ⟨_, (pss_cons (ps_set (i := 3) sc_best_of.nd rfl (Or.inl rfl) (pe_op op_add (pe_ix ix_list (pv 0) (pe_op op_add (pv 1) pe_int) (fun _ _ => rfl)) (pe_op op_mul (pe_k T.LETTER_COST) (pe_k T.SCALE))))
    (pss_cons (ps_set (i := 4) sc_best_of.nd rfl (Or.inl rfl) pe_int)
    (pss_cons (ps_set (i := 5) sc_best_of.nd rfl (Or.inl rfl) (pe_k T.LEAST))
    (pss_cons (ps_for PassesOwn.never rfl (pi_list (pv 2)) (pg_tup rfl (pgs_cons (pg_name (i := 6) sc_best_of.nd rfl (Or.inl rfl) (Or.inl rfl)) (pgs_cons (pg_name (i := 7) sc_best_of.nd rfl (Or.inl rfl) (Or.inl rfl)) pgs_nil)))
      (pss_cons (ps_set (i := 8) sc_best_of.nd rfl (Or.inl rfl) (pe_op op_add (pe_k T.MATCH_COST) (pe_callD D_further hr rfl pass0 (pa_cons (pe_callD D_class_of hr rfl pass0 (pa_cons (pe_op op_sub (pv 7) pe_int) pa_nil)) pa_nil))))
    (pss_one (ps_while PassesOwn.never (pt_cmpR op_le (pv 5) (pv 6) (nomark _))
      (pss_cons (ps_set (i := 9) sc_best_of.nd rfl (Or.inl rfl) (pe_callD D_class_of hr rfl pass0 (pa_cons (pe_op op_sub (pv 5) (pe_k T.LEAST)) pa_nil)))
    (pss_cons (ps_set (i := 10) sc_best_of.nd rfl (Or.inl rfl) (pe_callB (call_min2 rfl) (by rfl) T.b_min (by decide +kernel) (pa_cons (pv 6) (pa_cons (pe_op op_add (pe_op op_sub (pe_k T.LEAST) pe_int) (pe_op op_shl pe_int (pv 9))) pa_nil))))
    (pss_cons (ps_set (i := 11) sc_best_of.nd rfl (Or.inl rfl) (pe_op op_add (pe_callB (cr_min rfl) (by rfl) T.b_min (by decide +kernel) (pa_cons (pe_slice sl_list (pv 0) (po_some (pe_op op_add (pv 1) (pv 5))) (po_some (pe_op op_add (pe_op op_add (pv 1) (pv 10)) pe_int))) pa_nil)) (pe_op op_mul (pe_op op_add (pv 8) (pe_callD D_further hr rfl pass0 (pa_cons (pv 9) pa_nil))) (pe_k T.SCALE))))
    (pss_cons (ps_if (pt_cmpR op_lt (pv 11) (pv 3) (nomark _))
      (pss_cons (ps_set (i := 3) sc_best_of.nd rfl (Or.inl rfl) (pv 11))
    (pss_one (ps_set (i := 4) sc_best_of.nd rfl (Or.inl rfl) (pv 7))))
      pss_nil)
    (pss_one (ps_set (i := 5) sc_best_of.nd rfl (Or.inl rfl) (pe_op op_add (pv 10) pe_int)))))))))))
    (pss_one (ps_ret (pe_tup (pa_cons (pv 3) (pa_cons (pv 4) pa_nil))))))))), ?_⟩
  refine q_asg (v := nv (bestK t i 0).1) (ev_is (ev_I0 (ev_ix (j := i + 1) (ev_var rfl) (ev_I0 (ev_var rfl) ev_c) hS (nvs_get (hK.2 (i + 1) (by omega) (by omega))) (by omega)) (ev_I ev_c ev_c (.inl ⟨by decide, by decide⟩))) ?_) fun H1 e1 => ?_
  · show V.int _ = V.int _
    congr 1
  refine q_asg (v := nv (bestK t i 0).2) ev_c fun H2 e2 => ?_
  refine q_asg (v := nv 3) ev_c fun H3 e3 => ?_
  have e13 := (e1.trans e2).trans e3
  refine q_forP (ps := rows) (evs_var (ev_var rfl) (hP.ex e13)) (fun p ys j σ H' => ∃ v6 v7 v8 v9 v10 v11, σ = [some (.ref a), some (nv i), some (.ref b), some (nv (bestK t i (lastOf 2 (rows.take j) + 1 - 3)).1), some (nv (bestK t i (lastOf 2 (rows.take j) + 1 - 3)).2), some (nv (lastOf 2 (rows.take j) + 1)), v6, v7, v8, v9, v10, v11] ∧ Ex H H' ∧ H' p = some (.lst ys) ∧ Ts H' ys (rows.map pr))
    (fun p ys H4 e4 h4 hts => ⟨_, _, _, _, _, _, rfl, e13.trans e4, h4, hts⟩) (fun p ys k σ' H' ⟨_, _, _, _, _, _, _, _, h, h2⟩ => ⟨h, h2⟩) ?_ ?_
  · rintro p ys j q0 σ H' hq ⟨v6, v7, v8, v9, v10, v11, rfl, e4, h4, hts⟩
    have hb := hd q0 (List.mem_of_getElem? hq)
    obtain ⟨hl1, hl2, hl3⟩ := chain_last rows 2 j q0 hc hq
    have hin := flat_in rows 2 hc q0 (List.mem_of_getElem? hq)
    rw [hf] at hin
    have hcl := cands_len hi hin
    simp only at hcl
    -- fixed
    refine q_asg (v := nv (12 + SwSqueeze.further (q0.2 - 1))) (ev_is (ev_I0 ev_c (ev_call (ea_cons (ev_call (ea_cons (ev_is (w := nv (q0.2 - 1)) (ev_I0 (ev_var rfl) ev_c) (by show V.int _ = V.int _; congr 1; omega)) ea_nil) fun H5 e5 Q5 q5 E5 => ⟨q0.2 - 1, rfl, q5⟩) ea_nil) fun H5 e5 Q5 q5 E5 => ⟨_, rfl, q5⟩)) ?_) fun H5 e5 => ?_
    · rfl
    refine s_while (fun m σ H' => ∃ A v9 v10 v11, lastOf 2 (rows.take j) < A ∧ A ≤ q0.1 + 1 ∧ σ = [some (.ref a), some (nv i), some (.ref b), some (nv (bestK t i (A - 3)).1), some (nv (bestK t i (A - 3)).2), some (nv A), some (nv q0.1), some (nv q0.2), some (nv (12 + SwSqueeze.further (q0.2 - 1))), v9, v10, v11] ∧ Ex H H' ∧ H' p = some (.lst ys) ∧ Ts H' ys (rows.map pr) ∧ m = q0.1 + 1 - A) _
      ⟨lastOf 2 (rows.take j) + 1, v9, v10, v11, by omega, by omega, rfl, e4.trans e5, e5 _ _ h4, hts.ex e5, rfl⟩ ?_
    rintro m σ H6 ⟨A, w9, w10, w11, hA1, hA2, rfl, e6, h6, hts6, rfl⟩
    refine ⟨decide (A ≤ q0.1), et_is (et_test (ev_I0 (ev_var rfl) (ev_var rfl))) (by rw [decide_eq_decide]; omega), fun hb1 H7 e7 => ?_, fun hb1 H7 e7 => ?_⟩
    · have hb1 := of_decide_eq_true hb1
      have hlast : ∃ Z, Z = min q0.1 (2 + 2 ^ classOf (A - 3)) := ⟨_, rfl⟩
      obtain ⟨Z, hZ⟩ := hlast
      have hAZ : A ≤ Z := by
        have := class_lt (A - 3)
        omega
      refine ⟨fun σ H9 => ∃ A2 v9 v10 v11, A < A2 ∧ lastOf 2 (rows.take j) < A2 ∧ A2 ≤ q0.1 + 1 ∧ σ = [some (.ref a), some (nv i), some (.ref b), some (nv (bestK t i (A2 - 3)).1), some (nv (bestK t i (A2 - 3)).2), some (nv A2), some (nv q0.1), some (nv q0.2), some (nv (12 + SwSqueeze.further (q0.2 - 1))), v9, v10, v11] ∧ Ex H6 H9, ?_, ?_⟩
      · rintro σ2 H9 ⟨A2, v9, v10, v11, h1, h2, h3, h4', h5⟩
        exact ⟨q0.1 + 1 - A2, by omega, A2, v9, v10, v11, h2, h3, h4', e6.trans h5, h5 _ _ h6, hts6.ex h5, rfl⟩
      have hcb : classOf (A - 3) ≤ 8 := class_le (by omega)
      have e67 := e6.trans e7
      -- group, last
      refine q_asg (v := nv (classOf (A - 3))) (ev_call (ea_cons (ev_is (w := nv (A - 3)) (ev_I0 (ev_var rfl) ev_c) (by show V.int _ = V.int _; congr 1; omega)) ea_nil) fun H5 e5 Q5 q5 E5 => ⟨A - 3, rfl, q5⟩) fun H8 e8 => ?_
      refine q_asg (v := nv Z) (ev_is (ev_min (ev_var rfl) (ev_I0 (ev_I0 ev_c ev_c) (ev_I ev_c (ev_var rfl) ⟨by omega, by omega, by decide⟩))) ?_) fun H9 e9 => ?_
      · show V.int _ = V.int _
        congr 1
        rw [Int.toNat_natCast, Int.one_mul, hZ, show (2 : Int) = ((2 : Nat) : Int) from rfl, ← Int.natCast_pow]
        omega
      -- key
      have hget : ∀ L, A ≤ L → L ≤ Z → keys[i + L]? = some (keyOf t (i + L)) := fun L h1 h2 => hK.2 _ (by omega) (by omega)
      have hmem : ∀ y, y ∈ (keys.drop (i + A)).take (i + Z + 1 - (i + A)) ↔ ∃ L, A ≤ L ∧ L ≤ Z ∧ keyOf t (i + L) = y := by
        intro y
        rw [List.mem_iff_getElem?]
        constructor
        · rintro ⟨k, hk⟩
          rw [List.getElem?_take] at hk
          split at hk
          · rename_i hlt
            rw [List.getElem?_drop, show i + A + k = i + (A + k) by omega, hget (A + k) (by omega) (by omega)] at hk
            exact ⟨A + k, by omega, by omega, Option.some.inj hk⟩
          · cases hk
        · rintro ⟨L, h1, h2, rfl⟩
          refine ⟨L - A, ?_⟩
          rw [List.getElem?_take_of_lt (by omega), List.getElem?_drop, show i + A + (L - A) = i + L by omega, hget L h1 h2]
      obtain ⟨m0, hm0, hml⟩ := least_of ((keys.drop (i + A)).take (i + Z + 1 - (i + A))) (by
        have := (hmem (keyOf t (i + A))).mpr ⟨A, Nat.le_refl _, hAZ, rfl⟩
        intro h
        rw [h] at this
        cases this)
      have e79 := (e67.trans e8).trans e9
      have hkS := ex_l e79 hS
      have hturn := group_turn hf hc hq (a := A) hA1 hb1 (m := m0) (fun L h1 h2 => hml _ ((hmem _).mpr ⟨L, h1, by omega, rfl⟩)) (by
        obtain ⟨L, h1, h2, h3⟩ := (hmem _).mp hm0
        exact ⟨L, h1, by omega, h3⟩)
      rw [← hZ] at hturn
      refine q_asg (v := nv (m0 + (12 + SwSqueeze.further (q0.2 - 1) + (classOf (A - 3) - 1)) * 2048)) (ev_is (ev_I0 (ev_minL (l := (keys.drop (i + A)).take (i + Z + 1 - (i + A))) ?_ hm0 hml) (ev_I (ev_I0 (ev_var rfl) (ev_call (ea_cons (ev_var rfl) ea_nil) fun H5 e5 Q5 q5 E5 => ⟨_, rfl, q5⟩)) ev_c (.inr ⟨by decide, by decide⟩))) ?_) fun H10 e10 => ?_
      · refine el_is (el_slS (n := 0) (lo := i + A) (hi := i + Z + 1) (ev_var rfl) (eo_some (ev_is (ev_I0 (ev_var rfl) (ev_var rfl)) (by show V.int _ = V.int _; congr 1))) (eo_some (ev_is (ev_I0 (ev_I0 (ev_var rfl) (ev_var rfl)) ev_c) (by show V.int _ = V.int _; congr 1))) hkS) ?_
        unfold nvs
        rw [List.map_take, List.map_drop]
      · show V.int _ = V.int _
        congr 1
      have e610 := ((e7.trans e8).trans e9).trans e10
      generalize m0 + (12 + SwSqueeze.further (q0.2 - 1) + (classOf (A - 3) - 1)) * 2048 = key at hturn
      refine q_when (b := decide (key < (bestK t i (A - 3)).1)) (et_is (et_test (ev_I0 (ev_var rfl) (ev_var rfl))) (by rw [decide_eq_decide]; omega)) (fun hb2 H11 e11 => ?_) (fun hb2 H11 e11 => ?_)
      · have hb2 := of_decide_eq_true hb2
        rw [if_pos hb2] at hturn
        refine q_asg (v := nv key) (ev_var rfl) fun H12 e12 => ?_
        refine s_asg (v := nv q0.2) (ev_var rfl) fun H13 e13 => ?_
        refine s_asg (v := nv (Z + 1)) (ev_is (ev_I0 (ev_var rfl) ev_c) rfl) fun H14 e14 => ⟨Z + 1, some (nv (classOf (A - 3))), some (nv Z), some (nv key), by omega, by omega, by omega, ?_, (((e610.trans e11).trans e12).trans e13).trans e14⟩
        rw [hturn]
        rfl
      · have hb2 := of_decide_eq_false hb2
        rw [if_neg hb2] at hturn
        refine s_asg (v := nv (Z + 1)) (ev_is (ev_I0 (ev_var rfl) ev_c) rfl) fun H14 e14 => ⟨Z + 1, some (nv (classOf (A - 3))), some (nv Z), some (nv key), by omega, by omega, by omega, ?_, (e610.trans e11).trans e14⟩
        rw [hturn]
        rfl
    · have hb1 := of_decide_eq_false hb1
      have hAe : A = q0.1 + 1 := by omega
      subst hAe
      rw [← hl2]
      exact ⟨_, _, _, _, _, _, rfl, e6.trans e7, e7 _ _ h6, hts6.ex e7⟩
  · rintro p ys σ H' ⟨v6, v7, v8, v9, v10, v11, rfl, e4, _, _⟩
    rw [List.take_length]
    have hall : bestK t i (lastOf 2 rows + 1 - 3) = ((ent t i).1 * 2048 + (i + (ent t i).2.length), dOf (ent t i).2) := by
      refine bestK_all ht hi ?_
      have := flat_length rows 2 hc
      rw [hf] at this
      omega
    rw [hall]
    exact s_retU (eu_tup (ea_cons (ev_var rfl) (ea_cons (ev_var rfl) ea_nil)) (Nat.le_of_ble_eq_true rfl)) fun p H2 hp e2 h2 => q p H2 (fresh_back e4 hp) (e4.trans e2) h2
end
end Gz
end

/-! ## W8 -/
section
set_option Elab.async false
set_option linter.all false
set_option maxRecDepth 100000
set_option maxHeartbeats 4000000
namespace Gz
open PySem PySem.Spec PyProof.Rows L2 Evl
open SwSqueeze (classOf)
/-! ### more of lists of tuples -/
theorem paired_set {α β : Type} {F : α → β → Prop} : ∀ {l : List α} {m : List β} {a : α} {b : β} (i : Nat), Paired F l m → F a b → Paired F (l.set i a) (m.set i b)
  | _, _, _, _, _, .nil, _ => .nil
  | _, _, _, _, 0, .cons r t, h => .cons h t
  | _, _, _, _, i + 1, .cons r t, h => .cons r (paired_set i t h)
theorem paired_rep {α β : Type} {F : α → β → Prop} {a : α} {b : β} (h : F a b) : ∀ k, Paired F (List.replicate k a) (List.replicate k b)
  | 0 => .nil
  | k + 1 => .cons h (paired_rep h k)
theorem paired_mapR {α β γ : Type} {F : α → γ → Prop} {g : β → γ} : ∀ {l : List α} {m : List β}, Paired F l (m.map g) → Paired (fun a b => F a (g b)) l m
  | _, [], h => by
    cases h
    exact .nil
  | _, b :: m, h => by
    cases h with
    | cons r t => exact .cons r (paired_mapR t)
theorem RowsL.exB {G : Addr → Prop} {H H' : Hp} {a p : Addr} {xs : List V} {rows : List (List (List Nat))} (k : ExB a H H') (ha : H a = some (.lst xs)) (hp : p ≠ a) (hG : ∀ c, G c → c ≠ a) (h : RowsL G H p rows) : RowsL G H' p rows := by
  obtain ⟨ys, h1, h2⟩ := h
  exact ⟨ys, k p _ hp h1, Paired.mapP h2 fun _ _ ⟨c, ec, g, r⟩ => ⟨c, ec, g, r.exB k ha (hG c g)⟩⟩
theorem RowsL.imp {G G' : Addr → Prop} {H : Hp} {p : Addr} {rows : List (List (List Nat))} (h : RowsL G H p rows) (hG : ∀ c rs, G c → TupL H c rs → G' c) : RowsL G' H p rows := by
  obtain ⟨ys, h1, h2⟩ := h
  exact ⟨ys, h1, Paired.mapP h2 fun _ _ ⟨c, ec, g, r⟩ => ⟨c, ec, hG c _ g r, r⟩⟩
theorem TupL.some {H : Hp} {p : Addr} {rs : List (List Nat)} (h : TupL H p rs) : H p ≠ none := by
  obtain ⟨ys, h, _⟩ := h
  rw [h]
  exact fun e => by cases e
section
variable {K : PySem.W.Frag} {σ : L2.St} {H H' : Hp} {ta tb te tx : TE} {D : Ends} {tz tu : TS}
/-- [(a, b)] * k -/
theorem evt_rep {r : List Nat} {k : Nat} (h : EvU te σ H (nvs r)) (hb : Ev tb σ H (nv k)) (hk : k ≤ 100000) : EvT2 (tOp rRep (tLst (tCons te tNil)) tb) σ H (List.replicate k r) := fun H1 e Q q =>
  h H1 e _ fun t H2 ht e2 h2 => by
    refine ⟨sz_of (by decide : 1 ≤ 100000), fun p hp => ?_⟩
    have e3 : Ex H2 (upd H2 p (.lst [.ref t])) := Ex.new hp
    refine hb _ ((e.trans e2).trans e3) _ fun H3 e4 => ?_
    refine ⟨p, (k : Int), [.ref t], rfl, rfl, e4 _ _ upd_same, by omega, by omega, ?_, fun l hl => ?_⟩
    · have := sizeLine_eq
      show 1 * k ≤ _
      omega
    · have e5 := (e2.trans e3).trans e4
      refine q l _ (fresh_back e5 hl) (e5.trans (Ex.new hl)) ⟨_, upd_same, ?_⟩
      rw [Int.toNat_natCast, rep_flat]
      exact paired_rep ⟨t, rfl, (Ex.new hl) _ _ ((e3.trans e4) _ _ h2)⟩ k
theorem qg_raw {g : TG} (h : te σ H fun v H1 => g v σ H1 fun σ2 H2 => tz D σ2 H2) : tSeq (tAsg te g) tz D σ H := h
theorem sg_raw {g : TG} (h : te σ H fun v H1 => g v σ H1 D.nx) : tAsg te g D σ H := h
/-- xs[j] = (a, b) -/
theorem s_setT {l : Addr} {rs : List (List Nat)} {r : List Nat} {j : Nat} {i : Int} (hl : TupL H l rs) (h : EvU te σ H (nvs r)) (ho : Ev ta σ H (.ref l)) (hi : Ev tb σ H (.int i)) (ei : i = (j : Int)) (hj : j < rs.length) (k : ∀ H1, ExB l H H1 → TupL H1 l (rs.set j r) → D.nx σ H1) :
    tAsg te (gSub ta tb rSetL) D σ H := h H (Ex.refl H) _ fun t H1 ht e1 h1 => ho H1 e1 _ fun H2 e2 => hi H2 (e1.trans e2) _ fun H3 e3 => by
  subst ei
  obtain ⟨ys, h2, h3⟩ := id (hl.ex ((e1.trans e2).trans e3))
  have hlen := h3.length
  refine ⟨l, ys, (j : Int), j, rfl, rfl, h2, ixN_nat (by omega), k _ ((ex_b ((e1.trans e2).trans e3)).trans ExB.upd) ⟨_, upd_same, ?_⟩⟩
  refine paired_set j (Paired.mapP h3 fun _ _ q => q.exB ExB.upd h2) ⟨t, rfl, ?_⟩
  exact ExB.upd.tup h2 ((e2.trans e3) _ _ h1)
theorem q_forR3 {ta : TA} {j : Nat} {a b c : Int} {n : Nat} (h : EvA ta σ H [.int a, .int b, .int c]) (hr : RgC a b c n) (Pv : Nat → L2.St → Hp → Prop) (h0 : ∀ H1, Ex H H1 → Pv 0 σ H1)
    (hs : ∀ (i : Nat) σ' H', i < n → Pv i σ' H' → tu { D with nx := Pv (i + 1), ct := Pv (i + 1), bk := tz D } (σ'.set j (some (.int (a + (i : Nat) * c)))) H') (hd : ∀ σ' H', Pv n σ' H' → tz D σ' H') : tSeq (tFor (iRng3 ta) (gName j) tu) tz D σ H :=
  h H (Ex.refl H) _ fun H1 e => ⟨a, b, c, n, rfl, hr, for_rangeC Pv (h0 H1 e) hs hd⟩
end
section
variable {P : Program} {w : World} {K : PySem.W.Frag} {mg : Str → Option Value} {base : Heap} {f : Addr} {fd : FuncData} {aM : Addr}
/-! ### first_steps -/
def OffOk (t : List UInt8) (j : Nat) (r : List (Nat × Nat)) : Prop := flat 2 r = cands t j ∧ Chain 2 r ∧ ∀ q ∈ r, 1 ≤ q.2 ∧ q.2 ≤ j ∧ q.1 ≤ 258
def stepR (t : List UInt8) (p : Nat) : List Nat := [p + (ent t p).2.length, dOf (ent t p).2]
def stepsOf (t : List UInt8) : List (List Nat) := (List.range t.length).map (stepR t)
def spFirst : Sp := fun vs H Q _ => ∃ (a : Addr) (t : List UInt8), vs = [.ref a] ∧ H a = some (.lst (nvs (bs t))) ∧ t.length ≤ 1024 ∧ RetT (stepsOf t) H Q
theorem ok_first_steps (T : Gs K mg aM) (D_spelled : Def P w K mg base CX0 1 "spelled" ["text"] (spSpelled K)) (D_offers : Def P w K mg base CX0 2 "offers" ["text", "spelling", "at", "ends"] (spOffers K)) (D_best_of : Def P w K mg base CX0 2 "best_of" ["keys", "at", "rows"] (spBest K))
    (F : Fun K "first_steps" "first_steps" s_first_steps f fd) : FnOk P w K mg base CX0 3 f fd ["text"] spFirst := by
  refine F.ok sc_first_steps (fun vs H Q E h => ?_) (fun cdv A outer s H vs Q E hr h => ?_)
  · obtain ⟨a, t, rfl, _⟩ := h
    rfl
  obtain ⟨a, t, rfl, hSa, ht, q⟩ := h
  have hS : SqL K H a (nvs (bs t)) := sq_of hSa
  refine ⟨_, (pss_cons (ps_set (i := 1) sc_first_steps.nd rfl (Or.inl rfl) (pe_callB call_len_seq (by rfl) T.b_len (by decide +kernel) (pa_cons (pv 0) pa_nil)))
    (pss_cons (ps_set (i := 2) sc_first_steps.nd rfl (Or.inl rfl) (pe_callD D_spelled hr rfl pass0 (pa_cons (pv 0) pa_nil)))
    (pss_cons (ps_set (i := 3) sc_first_steps.nd rfl (Or.inl rfl) (pe_op op_rep (pe_lst (pa_cons pe_int pa_nil)) (pe_op op_add (pv 1) pe_int)))
    (pss_cons (ps_set (i := 4) sc_first_steps.nd rfl (Or.inl rfl) (pe_lst pa_nil))
    (pss_cons (ps_for PassesOwn.never rfl (pi_range1 (by rfl) T.b_range (pa_cons (pv 1) pa_nil)) (pg_name (i := 5) sc_first_steps.nd rfl (Or.inl rfl) (Or.inl rfl))
      (pss_one (ps_expr (pe_bm PySem.F.plainAttrs_list PySem.F.slot_list_append PySem.F.type_list_append mt_append (pv 4) (pa_cons (pe_callD D_offers hr rfl pass0 (pa_cons (pv 0) (pa_cons (pv 2) (pa_cons (pv 5) (pa_cons (pv 3) pa_nil))))) pa_nil)))))
    (pss_cons (ps_set (i := 6) sc_first_steps.nd rfl (Or.inl rfl) (pe_op op_cat (pe_op op_rep (pe_lst (pa_cons pe_int pa_nil)) (pv 1)) (pe_lst (pa_cons (pv 1) pa_nil))))
    (pss_cons (ps_set (i := 7) sc_first_steps.nd rfl (Or.inl rfl) (pe_op op_rep (pe_lst (pa_cons (pe_tup (pa_cons pe_int (pa_cons pe_int pa_nil))) pa_nil)) (pv 1)))
    (pss_cons (ps_for PassesOwn.never rfl (pi_range3 (by rfl) T.b_range (pa_cons (pe_op op_sub (pv 1) pe_int) (pa_cons (pe_un un_neg pe_int) (pa_cons (pe_un un_neg pe_int) pa_nil)))) (pg_name (i := 5) sc_first_steps.nd rfl (Or.inl rfl) (Or.inl rfl))
      (pss_cons (ps_asg (pe_callD D_best_of hr rfl pass0 (pa_cons (pv 6) (pa_cons (pv 5) (pa_cons (pe_ix ix_list (pv 4) (pv 5) (fun _ _ => rfl)) pa_nil)))) (pg_tup rfl (pgs_cons (pg_name (i := 8) sc_first_steps.nd rfl (Or.inl rfl) (Or.inl rfl)) (pgs_cons (pg_name (i := 9) sc_first_steps.nd rfl (Or.inl rfl) (Or.inl rfl)) pgs_nil))))
    (pss_cons (ps_asg (pe_op op_add (pe_op op_mul (pe_op op_fdiv (pv 8) (pe_k T.SCALE)) (pe_k T.SCALE)) (pv 5)) (pg_sub (pv 6) (pv 5) set_list))
    (pss_one (ps_asg (pe_tup (pa_cons (pe_op op_mod (pv 8) (pe_k T.SCALE)) (pa_cons (pv 9) pa_nil))) (pg_sub (pv 7) (pv 5) set_list))))))
    (pss_one (ps_ret (pv 7))))))))))), ?_⟩
  refine q_asg (v := nv t.length) (ev_lenT (ev_var rfl) hS) fun H1 e1 => ?_
  refine q_asg (v := .str (spS t)) (ev_call (ea_cons (ev_var rfl) ea_nil) fun H5 e5 Q5 q5 E5 => ⟨a, t, rfl, ex_l (e1.trans e5) hS, ht, q5⟩) fun H2 e2 => ?_
  refine q_asgL (el_is (el_rep (x := nv 0) (k := t.length + 1) (el_lst (ea_cons ev_c ea_nil) (Nat.le_of_ble_eq_true rfl)) (ev_is (ev_I0 (ev_var rfl) ev_c) rfl) (sz_of (by omega))) (nvs_rep _ _)) fun b H3 hb e3 h3 => ?_
  refine q_asgL (el_lst ea_nil (by decide)) fun p H4 hp e4 h4 => ?_
  have e14 := ((e1.trans e2).trans e3).trans e4
  have hbH : H b = none := fresh_back (e1.trans e2) hb
  have hpH : H p = none := fresh_back ((e1.trans e2).trans e3) hp
  have hpb : p ≠ b := fun e => by rw [e, h3] at hp; cases hp
  have hSb : ∀ {H' : Hp}, Ex H H' → SqL K H' a (nvs (bs t)) := fun e => ex_l e hS
  refine q_forR1 (n := (t.length : Int)) (ea_cons (ev_var rfl) ea_nil) ⟨by omega, by omega⟩ (fun i σ H' => ∃ v5 R ends', σ = [some (.ref a), some (nv t.length), some (.str (spS t)), some (.ref b), some (.ref p), v5, none, none, none, none] ∧ Ex H H' ∧ H' b = some (.lst (nvs ends')) ∧ EndsOk t i ends' ∧
      RowsL (fun c => c ≠ b ∧ c ≠ p) H' p (R.map (·.map pr)) ∧ R.length = i ∧ ∀ j r, R[j]? = some r → OffOk t j r) (fun H5 e5 => ⟨none, [], _, rfl, e14.trans e5, (e4.trans e5) _ _ h3, ends_start t, ⟨[], e5 _ _ h4, .nil⟩, rfl, fun j r h => by simp at h⟩) ?_ ?_
  · rintro i σ H5 hi ⟨v5, R, ends', rfl, e5, hb5, hE, hR, hRl, hRo⟩
    have hi' : i < t.length := by omega
    refine d_raw ?_
    refine (ev_var (v := .ref p) rfl) H5 (Ex.refl _) _ fun H6 e6 => ?_
    have hR6 := hR.ex e6
    obtain ⟨ys, hp6, hys⟩ := id hR6
    refine ⟨Or.inl ⟨rfl, ys, sq_of hp6⟩, ?_⟩
    refine cons_raw (call_raw ?_)
    refine (ea_cons (ev_var rfl) (ea_cons (ev_var rfl) (ea_cons (ev_var rfl) (ea_cons (ev_var rfl) ea_nil)))) H6 (Ex.refl _) _ fun H7 e7 => ?_
    have e57 := (e5.trans e6).trans e7
    have hb7 := (e6.trans e7) _ _ hb5
    refine ⟨a, t, i, b, ends', rfl, hSb e57, hb7, ?_, ht, hi', hE, fun rows ends2 hf hc hd hE2 c H8 hc8 k8 hb8 hP => ?_⟩
    · exact ne_of_none hSa hbH
    have hcb : c ≠ b := fun e => by rw [e, hb7] at hc8; cases hc8
    have hp7 := e7 _ _ hp6
    have hcp : c ≠ p := fun e => by rw [e, hp7] at hc8; cases hc8
    have hR8 : RowsL (fun c => c ≠ b ∧ c ≠ p) H8 p (R.map (·.map pr)) := (hR6.ex e7).exB k8 hb7 hpb (fun c h => h.1)
    obtain ⟨zs, hp8, hzs⟩ := hR8
    have hzl : zs.length = i := by rw [Paired.length hzs, List.length_map, hRl]
    refine ⟨p, zs, .ref c, rfl, rfl, hp8, sz_lt (by omega), ?_⟩
    refine ⟨some (nv i), R ++ [rows], ends2, rfl, ?_, ?_, hE2.mono (by omega), ?_, by simp [hRl], ?_⟩
    · exact Ex.mut (k8.ex e57 hbH) hpH
    · rw [upd_ne hpb.symm]
      exact hb8
    · refine ⟨zs ++ [.ref c], upd_same, ?_⟩
      rw [List.map_append]
      refine paired_snoc (Paired.mapP hzs fun y r ⟨c2, ec, g, hr⟩ => ⟨c2, ec, g, hr.exB ExB.upd hp8 g.2⟩) ⟨c, rfl, ⟨hcb, hcp⟩, hP.exB ExB.upd hp8 hcp⟩
    · intro j r hj
      by_cases hji : j < R.length
      · rw [List.getElem?_append_left hji] at hj
        exact hRo j r hj
      · rw [List.getElem?_append_right (by omega)] at hj
        have h0 : j - R.length = 0 := by
          rcases Nat.eq_zero_or_pos (j - R.length) with h | h
          · exact h
          · rw [List.getElem?_eq_none (by simp; omega)] at hj
            cases hj
        rw [h0] at hj
        have := Option.some.inj hj
        subst this
        have : j = i := by omega
        subst this
        exact ⟨hf, hc, hd⟩
  · rintro σ H5 ⟨v5, R, ends', rfl, e5, hb5, hE, hR, hRl, hRo⟩
    have hRl : R.length = t.length := hRl
    -- keys
    refine q_asgL (xs := nvs (List.replicate t.length 0 ++ [t.length])) (el_is (el_cat (el_rep (x := nv 0) (k := t.length) (el_lst (ea_cons ev_c ea_nil) (Nat.le_of_ble_eq_true rfl)) (ev_var rfl) (sz_of (by omega))) (el_lst (ea_cons (ev_var rfl) ea_nil) (Nat.le_of_ble_eq_true rfl)) (by rw [List.length_replicate]; exact sz_of (by show t.length + 1 ≤ _; omega))) (by rw [nvs_rep, nvs_append]; rfl)) fun ks H6 hks e6 h6 => ?_
    -- steps
    refine q_asgT (rs := List.replicate t.length [0, 0]) (evt_rep (r := [0, 0]) (eu_tup (ea_cons ev_c (ea_cons ev_c ea_nil)) (Nat.le_of_ble_eq_true rfl)) (ev_var rfl) (by omega)) fun st H7 hst e7 h7 => ?_
    have e67 := e6.trans e7
    have hksH : H ks = none := fresh_back e5 hks
    have hstH : H st = none := fresh_back (e5.trans e6) hst
    have hstk : st ≠ ks := fun e => by rw [e, h6] at hst; cases hst
    have hR7 : RowsL (fun c => c ≠ ks ∧ c ≠ st) H7 p (R.map (·.map pr)) := (hR.imp (G' := fun c => c ≠ ks ∧ c ≠ st) fun c rs _ hc => ⟨fun e => hc.some (e ▸ hks), fun e => (hc.ex e6).some (e ▸ hst)⟩).ex e67
    have hpk : p ≠ ks ∧ p ≠ st := by
      obtain ⟨ys, h, _⟩ := hR
      exact ⟨ne_of_none h hks, ne_of_none (e6 _ _ h) hst⟩
    refine q_forR3 (n := t.length) (a := (t.length : Int) - 1) (b := -1) (c := -1) (ea_cons (ev_I0 (ev_var rfl) ev_c) (ea_cons (ev_un ev_c ru_neg) (ea_cons (ev_un ev_c ru_neg) ea_nil))) ?_
      (fun k σ H' => ∃ v5 v8 v9 keys rs, σ = [some (.ref a), some (nv t.length), some (.str (spS t)), some (.ref b), some (.ref p), v5, some (.ref ks), some (.ref st), v8, v9] ∧ Ex H H' ∧ H' ks = some (.lst (nvs keys)) ∧ keys.length = t.length + 1 ∧ (∀ x, t.length - k ≤ x → x ≤ t.length → keys[x]? = some (keyOf t x)) ∧
        TupL H' st rs ∧ rs.length = t.length ∧ (∀ x, t.length - k ≤ x → x < t.length → rs[x]? = some (stepR t x)) ∧ RowsL (fun c => c ≠ ks ∧ c ≠ st) H' p (R.map (·.map pr))) ?_ ?_ ?_
    · have := RgC.neg (i := (t.length : Int) - 1) (j := -1) (by omega) (by omega) (by decide) (by decide)
      rw [show ((t.length : Int) - 1 - -1).toNat = t.length by omega] at this
      exact this
    · intro H8 e8
      refine ⟨v5, none, none, _, _, rfl, (e5.trans e67).trans e8, (e7.trans e8) _ _ h6, by simp, fun x h1 h2 => ?_, h7.ex e8, by simp, fun x h1 h2 => by omega, hR7.ex e8⟩
      have : x = t.length := by omega
      subst this
      rw [List.getElem?_append_right (by simp)]
      simp [keyOf, cst]
    · rintro k σ H8 hk ⟨w5, v8, v9, keys, rs, rfl, e8, h8, hkl, hkk, hT, hrl, hrr, hR8⟩
      have hat : ((t.length : Int) - 1 + (k : Nat) * (-1 : Int)) = ((t.length - 1 - k : Nat) : Int) := by omega
      show tSeq _ _ _ (List.set _ 5 (some (.int ((t.length : Int) - 1 + (k : Nat) * (-1 : Int))))) _
      rw [hat]
      have hi : t.length - 1 - k < t.length := by omega
      have hne : t.length - k = (t.length - 1 - k) + 1 := by omega
      generalize t.length - 1 - k = i at hi hne hat
      obtain ⟨ys, hp8, hys⟩ := id hR8
      have hm : (R.map (·.map pr))[i]? = some ((R.getD i []).map pr) := by
        rw [List.getElem?_map, List.getD_eq_getElem?_getD, List.getElem?_eq_getElem (by omega)]
        rfl
      have hro : OffOk t i (R.getD i []) := hRo i _ (by rw [List.getD_eq_getElem?_getD, List.getElem?_eq_getElem (by omega)]; rfl)
      obtain ⟨y, hy, c, rfl, ⟨hck, hcs⟩, hc8⟩ := paired_get hys hm
      -- best, distance = best_of(..)
      refine qg_raw (call_raw ?_)
      refine (ea_cons (ev_var rfl) (ea_cons (ev_var rfl) (ea_cons (ev_ix (ev_var rfl) (ev_var rfl) (sq_of hp8) hy rfl) ea_nil))) H8 (Ex.refl _) _ fun H9 e9 => ?_
      refine ⟨ks, t, i, c, keys, R.getD i [], rfl, sq_of (e9 _ _ h8), ⟨hkl, fun x h1 h2 => hkk x (by omega) h2⟩, hc8.ex e9, ht, hi, hro.1, hro.2.1, hro.2.2, fun u H10 hu e10 h10 => ?_⟩
      refine g_pair ⟨u, rfl, h10⟩ rfl ?_
      have e910 := e9.trans e10
      have hlen := (ent_ok hi).len
      have hk10 := e910 _ _ h8
      -- keys[at] = ..
      refine q_setL (j := i) hk10 (v := nv (keyOf t i)) (ev_is (ev_I0 (ev_I (ev_I (ev_var rfl) ev_c ⟨by decide, by decide⟩) ev_c (.inr ⟨by decide, by decide⟩)) (ev_var rfl)) ?_) (ev_var rfl) (ev_var rfl) (by rw [nvs_length]; omega) fun H11 e11 => ?_
      · show V.int _ = V.int _
        unfold keyOf cst
        rw [if_pos hi]
        congr 1
        omega
      rw [nvs_set]
      have hk11 := e11 _ _ hk10
      -- steps[at] = ..
      have hT11 : TupL (upd H11 ks (.lst (nvs (keys.set i (keyOf t i))))) st rs := TupL.exB ExB.upd hk11 hstk (hT.ex (e910.trans e11))
      refine s_setT (j := i) (r := stepR t i) hT11 (eu_tup (ea_cons (ev_is (w := nv (i + (ent t i).2.length)) (ev_I (ev_var rfl) ev_c (by show (0 : Int) < 2048; decide)) ?_) (ea_cons (ev_var rfl) ea_nil)) (Nat.le_of_ble_eq_true rfl)) (ev_var rfl) (ev_var rfl) rfl (by omega) fun H12 k12 h12 => ?_
      · show V.int _ = V.int _
        congr 1
        omega
      obtain ⟨zs, hst11, _⟩ := id hT11
      have hsame : ∀ {α : Type} (l : List α) (x : Nat) (v : α), i < l.length → (l.set i v)[x]? = if x = i then some v else l[x]? := fun l x v hl => by
        by_cases h : x = i
        · subst h
          rw [if_pos rfl, List.getElem?_set_self hl]
        · rw [if_neg h, List.getElem?_set_ne (fun e => h e.symm)]
      refine ⟨_, _, _, keys.set i (keyOf t i), rs.set i (stepR t i), rfl, ?_, ?_, by rw [List.length_set]; exact hkl, ?_, h12, by rw [List.length_set]; exact hrl, ?_, ?_⟩
      · exact k12.ex (Ex.mut (e8.trans (e910.trans e11)) hksH) hstH
      · exact k12 _ _ hstk.symm upd_same
      · intro x h1 h2
        rw [hsame keys x _ (by omega)]
        split
        · rename_i h; rw [h]
        · exact hkk x (by omega) h2
      · intro x h1 h2
        rw [hsame rs x _ (by omega)]
        split
        · rename_i h; rw [h]
        · exact hrr x (by omega) h2
      · exact ((hR8.ex (e910.trans e11)).exB ExB.upd hk11 hpk.1 (fun c h => h.1)).exB k12 hst11 hpk.2 (fun c h => h.2)
    · rintro σ H8 ⟨w5, v8, v9, keys, rs, rfl, e8, h8, hkl, hkk, hT, hrl, hrr, hR8⟩
      refine s_ret (ev_var rfl) fun H9 e9 => q st H9 hstH (e8.trans e9) ?_
      have : rs = stepsOf t := by
        apply List.ext_getElem?
        intro x
        unfold stepsOf
        by_cases hx : x < t.length
        · rw [hrr x (by omega) hx, List.getElem?_map, List.getElem?_range hx]
          rfl
        · rw [List.getElem?_eq_none (by omega), List.getElem?_eq_none (by simp; omega)]
      rw [← this]
      exact hT.ex e9
end
end Gz
end

/-! ## W9 -/
section
set_option Elab.async false
set_option linter.all false
set_option maxRecDepth 100000
set_option maxHeartbeats 4000000
namespace Gz
open PySem PySem.Spec PyProof.Rows L2 Evl
open SwSqueeze (classOf bitsLow bitsHigh)
section
variable {P : Program} {w : World} {K : PySem.W.Frag} {mg : Str → Option Value} {base : Heap} {f : Addr} {fd : FuncData} {aM : Addr}
/-! ### parse_of -/
def encs (l : List SwSqueeze.Step) : List (Nat × Nat) := l.map enc
def spParse : Sp := fun vs H Q _ => ∃ (a : Addr) (t : List UInt8), vs = [.ref a] ∧ H a = some (.lst (nvs (bs t))) ∧ t.length ≤ 1024 ∧ RetT ((encs (SwSqueeze.parse t)).map pr) H Q
theorem encs_snoc (l : List SwSqueeze.Step) (s : SwSqueeze.Step) : (encs (l ++ [s])).map pr = (encs l).map pr ++ [pr (enc s)] := by
  unfold encs
  rw [List.map_append, List.map_append]
  rfl
theorem ok_parse_of (T : Gs K mg aM) (D_first_steps : Def P w K mg base CX0 3 "first_steps" ["text"] spFirst) (F : Fun K "parse_of" "parse_of" s_parse_of f fd) : FnOk P w K mg base CX0 4 f fd ["text"] spParse := by
  refine F.ok sc_parse_of (fun vs H Q E h => ?_) (fun cdv A outer s H vs Q E hr h => ?_)
  · obtain ⟨a, t, rfl, _⟩ := h
    rfl
  obtain ⟨a, t, rfl, hSa, ht, q⟩ := h
  refine ⟨_, (pss_cons (ps_set (i := 1) sc_parse_of.nd rfl (Or.inl rfl) (pe_callD D_first_steps hr rfl pass0 (pa_cons (pv 0) pa_nil)))
    (pss_cons (ps_set (i := 2) sc_parse_of.nd rfl (Or.inl rfl) (pe_lst pa_nil))
    (pss_cons (ps_set (i := 3) sc_parse_of.nd rfl (Or.inl rfl) pe_int)
    (pss_cons (ps_while PassesOwn.never (pt_cmpR op_lt (pv 3) (pe_callB call_len_seq (by rfl) T.b_len (by decide +kernel) (pa_cons (pv 0) pa_nil)) (nomark _))
      (pss_cons (ps_asg (pe_ix ix_list (pv 1) (pv 3) (fun _ _ => rfl)) (pg_tup rfl (pgs_cons (pg_name (i := 4) sc_parse_of.nd rfl (Or.inl rfl) (Or.inl rfl)) (pgs_cons (pg_name (i := 5) sc_parse_of.nd rfl (Or.inl rfl) (Or.inl rfl)) pgs_nil))))
    (pss_cons (ps_if (pt_cmpR op_eq (pv 5) pe_int (nomark _))
      (pss_one (ps_expr (pe_bm PySem.F.plainAttrs_list PySem.F.slot_list_append PySem.F.type_list_append mt_append (pv 2) (pa_cons (pe_tup (pa_cons pe_int (pa_cons (pe_ix ix_list (pv 0) (pv 3) (fun _ _ => rfl)) pa_nil))) pa_nil))))
      (pss_one (ps_expr (pe_bm PySem.F.plainAttrs_list PySem.F.slot_list_append PySem.F.type_list_append mt_append (pv 2) (pa_cons (pe_tup (pa_cons (pe_op op_sub (pv 4) (pv 3)) (pa_cons (pv 5) pa_nil))) pa_nil)))))
    (pss_one (ps_set (i := 3) sc_parse_of.nd rfl (Or.inl rfl) (pv 4))))))
    (pss_one (ps_ret (pv 2))))))), ?_⟩
  refine q_raw (call_raw ?_)
  refine (ea_cons (ev_var rfl) ea_nil) H (Ex.refl _) _ fun H1 e1 => ?_
  refine ⟨a, t, rfl, e1 _ _ hSa, ht, fun st H2 hst e2 h2 => ?_⟩
  refine q_asgL (el_lst ea_nil (by decide)) fun tk H3 htk e3 h3 => ?_
  refine q_asg (v := nv 0) ev_c fun H4 e4 => ?_
  have e14 := ((e1.trans e2).trans e3).trans e4
  have htkH : H tk = none := fresh_back (e1.trans e2) htk
  have hstk : st ≠ tk := fun e => h2.some (e ▸ htk)
  refine q_while (fun m σ H' => ∃ v4 v5 p l fu, σ = [some (.ref a), some (.ref st), some (.ref tk), some (nv p), v4, v5] ∧ Ex H H' ∧ TupL H' st (stepsOf t) ∧ TupL H' tk ((encs l).map pr) ∧ SwSqueeze.parse t = l ++ walkFrom t fu p ∧ p ≤ t.length ∧ t.length - p < fu ∧ l.length ≤ p ∧ m = t.length - p) _
    ⟨none, none, 0, [], t.length + 1, rfl, e14, h2.ex (e3.trans e4), ⟨[], e4 _ _ h3, .nil⟩, parse_eq t, Nat.zero_le _, by omega, Nat.le_refl _, rfl⟩ ?_
  rintro m σ H5 ⟨v4, v5, p, l, fu, rfl, e5, hT, hL, hpar, hp, hfu, hll, rfl⟩
  refine ⟨decide (p < t.length), et_is (et_test (ev_I0 (ev_var rfl) (ev_lenT (ev_var rfl) (sq_of (e5 _ _ hSa))))) (by rw [decide_eq_decide]; omega), fun hc H6 e6 => ?_, fun hc H6 e6 => ?_⟩
  · have hc := of_decide_eq_true hc
    obtain ⟨fu', rfl⟩ : ∃ k, fu = k + 1 := ⟨fu - 1, by omega⟩
    rw [walkFrom_turn hc] at hpar
    have hok := ent_ok hc
    have hlen := hok.len
    refine ⟨fun σ2 H9 => ∃ v4 v5, σ2 = [some (.ref a), some (.ref st), some (.ref tk), some (nv (p + (ent t p).2.length)), v4, v5] ∧ Ex H H9 ∧ TupL H9 st (stepsOf t) ∧ TupL H9 tk ((encs (l ++ [(ent t p).2])).map pr), ?_, ?_⟩
    · rintro σ2 H9 ⟨v4, v5, h1, h2, h3, h4⟩
      refine ⟨t.length - (p + (ent t p).2.length), by omega, v4, v5, _, l ++ [(ent t p).2], fu', h1, h2, h3, h4, ?_, hlen.2, by omega, ?_, rfl⟩
      · rw [hpar, List.append_assoc]
        rfl
      · rw [List.length_append, List.length_singleton]
        omega
    have hm : (stepsOf t)[p]? = some (stepR t p) := by
      unfold stepsOf
      rw [List.getElem?_map, List.getElem?_range hc]
      rfl
    obtain ⟨ys, h6, hts⟩ := id (hT.ex e6)
    obtain ⟨y, hy, hyt⟩ := paired_get hts hm
    refine qg_raw ?_
    refine (ev_ix (ev_var rfl) (ev_var rfl) (sq_of h6) hy rfl) H6 (Ex.refl _) _ fun H7 e7 => ?_
    refine g_pair (hyt.ex e7) rfl ?_
    have e67 := e6.trans e7
    have hL7 := hL.ex e67
    have hT7 := hT.ex e67
    have hsz : ((encs l).map pr).length < 100000 := by
      unfold encs
      rw [List.length_map, List.length_map]
      omega
    obtain ⟨zs, htk7, _⟩ := id hL7
    have fin : ∀ (r : List Nat) (te : TE) (tz : TS) (D : Ends) (σ : L2.St), (∀ H8, Ex H7 H8 → EvU te σ H8 (nvs r)) → σ[2]? = some (some (.ref tk)) → r = pr (enc (ent t p).2) → (∀ H9, Ex H H9 → TupL H9 st (stepsOf t) → TupL H9 tk ((encs (l ++ [(ent t p).2])).map pr) → D.nx σ H9) → ∀ H8, Ex H7 H8 → tDrop (tBM K "list" rAppend (tVar 2) (tCons te tNil)) D σ H8 := by
      intro r te tz D σ hte hσ hr k H8 e8
      refine s_appR (hL7.ex e8) (ev_var hσ) (hte H8 e8) hsz fun H9 k9 h9 => k H9 ?_ ?_ ?_
      · exact k9.ex ((e5.trans e67).trans e8) htkH
      · exact (hT7.ex e8).exB k9 (e8 _ _ htk7) hstk
      · rw [encs_snoc, ← hr]
        exact h9
    refine q_if (et_test (ev_eqI (ev_var rfl) ev_c)) (fun hd H8 e8 => ?_) (fun hd H8 e8 => ?_)
    · have hd : dOf (ent t p).2 = 0 := by have := of_decide_eq_true hd; omega
      refine fin [0, t[p].toNat] _ tNext _ _ (fun H9 e9 => eu_tup (ea_cons ev_c (ea_cons (ev_ix (ev_var rfl) (ev_var rfl) (sq_of (e9 _ _ (e67 _ _ (e5 _ _ hSa)))) (text_get hc) rfl) ea_nil)) (Nat.le_of_ble_eq_true rfl)) rfl ?_ ?_ H8 e8
      rotate_left
      · exact fun H9 e9 h1 h2 => s_asg (v := nv (p + (ent t p).2.length)) (ev_var rfl) fun H10 e10 => ⟨_, _, rfl, e9.trans e10, h1.ex e10, h2.ex e10⟩
      cases hs : (ent t p).2 with
      | letter c =>
        rw [hs] at hok
        have h2 : t[p]? = some c := hok
        rw [List.getElem?_eq_getElem hc] at h2
        rw [Option.some.inj h2]
        rfl
      | match_ l d =>
        rw [hs] at hok hd
        obtain ⟨_, _, _, h4, _⟩ := hok
        have : d = 0 := hd
        omega
    · have hd : dOf (ent t p).2 ≠ 0 := by have := of_decide_eq_false hd; omega
      refine fin [(ent t p).2.length, dOf (ent t p).2] _ tNext _ _ (fun H9 e9 => eu_tup (ea_cons (ev_is (ev_I0 (ev_var rfl) (ev_var rfl)) (by show V.int _ = V.int _; congr 1; omega)) (ea_cons (ev_var rfl) ea_nil)) (Nat.le_of_ble_eq_true rfl)) rfl ?_ ?_ H8 e8
      rotate_left
      · exact fun H9 e9 h1 h2 => s_asg (v := nv (p + (ent t p).2.length)) (ev_var rfl) fun H10 e10 => ⟨_, _, rfl, e9.trans e10, h1.ex e10, h2.ex e10⟩
      cases hs : (ent t p).2 with
      | letter c =>
        rw [hs] at hd
        exact absurd rfl hd
      | match_ l d => rfl
  · have hc := of_decide_eq_false hc
    have : p = t.length := by omega
    subst this
    obtain ⟨fu', rfl⟩ : ∃ k, fu = k + 1 := ⟨fu - 1, by omega⟩
    rw [walkFrom_end, List.append_nil] at hpar
    rw [hpar] at q
    exact s_ret (ev_var rfl) fun H7 e7 => q tk H7 htkH ((e5.trans e6).trans e7) (hL.ex (e6.trans e7))
end
end Gz
end

/-! ## W10 -/
section
set_option Elab.async false
set_option linter.all false
set_option maxRecDepth 100000
set_option maxHeartbeats 4000000
namespace Gz
open PySem PySem.Spec PyProof.Rows L2 Evl
open SwSqueeze (classOf bitsLow bitsHigh)
theorem u1 {k : Nat} {A : Around} (r : Room k A) : A.units + 1 < cLine := by have := r.un; omega
theorem u64 {k : Nat} {A : Around} (r : Room k A) : A.units + 64 < cLine := by have := r.un; omega
section
variable {K : PySem.W.Frag} {σ : L2.St} {H H' : Hp} {ta : TA} {te : TE}
theorem el_rng3 {j : Nat} {vs : List Nat} {a b c : Int} {n : Nat} (g : Nat → Nat) (h : EvA ta σ H [.int a, .int b, .int c]) (hr : RgC a b c n) (hn : n ≤ 40000) (hw : ∀ x, wipe ((wipe σ vs).set j (some x)) vs = wipe σ vs)
    (he : ∀ (i : Nat) H1, Ex H H1 → i < n → Ev te ((wipe σ vs).set j (some (.int (a + (i : Int) * c)))) H1 (nv (g i))) :
    EvL (tLc (iRng3 ta) (gName j) tYes te vs) σ H (nvs ((List.range n).map g)) := fun H0 e Q q => h H0 e _ fun H1 e1 => ⟨a, b, c, n, rfl, hr, fun Dl hD => by
  refine ⟨fun i m H => m = n - i ∧ i ≤ n ∧ H1 Dl = none ∧ Ex H1 H ∧ H Dl = some (.lst (nvs ((List.range i).map g))), ⟨n, by simp, Nat.zero_le _, hD, Ex.new hD, upd_same⟩, ?_⟩
  rintro i m H ⟨rfl, hi, p⟩
  by_cases hlt : i < n
  · refine .inr ⟨hlt, fun H' => H1 Dl = none ∧ Ex H1 H' ∧ H' Dl = some (.lst (nvs ((List.range (i + 1)).map g))), fun H' p' => ⟨n - (i + 1), by omega, rfl, hlt, p'⟩, fun x H' y => ?_⟩
    obtain ⟨e2, y⟩ := y
    subst e2 y
    refine ⟨hw _, ?_⟩
    show te _ _ _
    have hsz : (nvs ((List.range i).map g)).length < sizeLine := by
      rw [nvs_length, List.length_map, List.length_range]
      exact sz_lt (by omega)
    refine he i H1 (e.trans e1) hlt _ p.2.1 _ fun H3 e3 => ⟨_, e3 _ _ p.2.2, hsz, p.1, Ex.mut (p.2.1.trans e3) p.1, ?_⟩
    rw [upd_same, List.range_succ, List.map_append, nvs_append]
    rfl
  · have e2 : i = n := by omega
    subst e2
    exact .inl ⟨Nat.le_refl _, q Dl H (fresh_back e1 p.1) (e1.trans p.2.1) p.2.2⟩⟩
theorem rgc_down (k : Nat) (hk : k ≤ 100000) : RgC ((k : Int) - 1) (-1) (-1) k := by
  have := RgC.neg (i := (k : Int) - 1) (j := -1) (by omega) (by omega) (by decide) (by decide)
  rw [show ((k : Int) - 1 - -1).toNat = k by omega] at this
  exact this
end
section
variable {P : Program} {w : World} {K : PySem.W.Frag} {mg : Str → Option Value} {base : Heap} {f : Addr} {fd : FuncData} {aM : Addr}
/-! ### low_first, high_first -/
def spLow : Sp := fun vs H Q _ => ∃ n k : Nat, vs = [nv n, nv k] ∧ k ≤ 1000 ∧ RetN (ts (bitsLow k n)) H Q
theorem ok_low_first (T : Gs K mg aM) (F : Fun K "low_first" "low_first" s_low_first f fd) : FnOk P w K mg base CX0 1 f fd ["number", "count"] spLow := by
  refine F.ok sc_low_first (fun vs H Q E h => ?_) (fun cdv A outer s H vs Q E hr h => ?_)
  · obtain ⟨n, k, rfl, _⟩ := h
    rfl
  obtain ⟨n, k, rfl, hk, q⟩ := h
  refine ⟨_, (pss_one (ps_ret (pe_lc (own := [("k", 2)]) rfl sc_low_first.nd (pi_range1 (by rfl) T.b_range (pa_cons (pv 1) pa_nil)) (blkOk_by (own := [("k", 2)]) (N := low_first_N) (sc := defScope s_low_first) (by decide +kernel)) (fun _ _ _ _ _ => pg_name (i := 2) sc_low_first.nd rfl (Or.inl rfl) (Or.inr rfl)) (fun _ _ _ _ _ => pts_nil) (fun _ _ _ _ _ => (pe_op op_and (pe_op op_shr (pv 0) (pv 2)) pe_int))))), ?_⟩
  have e : ts (bitsLow k n) = (List.range k).map fun i => n / 2 ^ i % 2 := by
    unfold ts bitsLow
    rw [List.map_map]
    exact List.map_congr_left fun i _ => bit_testBit n i
  rw [e] at q
  refine s_retL (el_rng (fun i => n / 2 ^ i % 2) (ea_cons (ev_var rfl) ea_nil) (by omega) (fun _ => rfl) fun i H1 e hi => ?_) q
  refine ev_is (ev_I0 (ev_I (ev_var rfl) (ev_var rfl) (by show (0 : Int) ≤ (i : Int); omega)) ev_c) ?_
  show V.int _ = V.int _
  rw [Int.toNat_natCast, and1]
def spHigh : Sp := fun vs H Q _ => ∃ n k : Nat, vs = [nv n, nv k] ∧ k ≤ 1000 ∧ RetN (ts (bitsHigh k n)) H Q
theorem ok_high_first (T : Gs K mg aM) (F : Fun K "high_first" "high_first" s_high_first f fd) : FnOk P w K mg base CX0 1 f fd ["number", "count"] spHigh := by
  refine F.ok sc_high_first (fun vs H Q E h => ?_) (fun cdv A outer s H vs Q E hr h => ?_)
  · obtain ⟨n, k, rfl, _⟩ := h
    rfl
  obtain ⟨n, k, rfl, hk, q⟩ := h
  refine ⟨_, (pss_one (ps_ret (pe_lc (own := [("k", 2)]) rfl sc_high_first.nd (pi_range3 (by rfl) T.b_range (pa_cons (pe_op op_sub (pv 1) pe_int) (pa_cons (pe_un un_neg pe_int) (pa_cons (pe_un un_neg pe_int) pa_nil)))) (blkOk_by (own := [("k", 2)]) (N := high_first_N) (sc := defScope s_high_first) (by decide +kernel)) (fun _ _ _ _ _ => pg_name (i := 2) sc_high_first.nd rfl (Or.inl rfl) (Or.inr rfl)) (fun _ _ _ _ _ => pts_nil) (fun _ _ _ _ _ => (pe_op op_and (pe_op op_shr (pv 0) (pv 2)) pe_int))))), ?_⟩
  have e : ts (bitsHigh k n) = (List.range k).map fun i => n / 2 ^ (k - 1 - i) % 2 := by
    apply List.ext_getElem?
    intro i
    unfold ts
    by_cases hi : i < k
    · rw [List.getElem?_map, List.getElem?_map, List.getElem?_range hi]
      have h1 := bitsHigh_take (n := n) hi
      have h2 : (bitsHigh k n)[i]? = some (n.testBit (k - 1 - i)) := by
        have := congrArg (fun l => l[i]?) h1
        simp only [List.getElem?_take_of_lt (Nat.lt_succ_self i)] at this
        rw [this, List.getElem?_append_right (by rw [List.length_take]; omega), List.length_take, bitsHigh_length]
        simp [Nat.min_eq_left (Nat.le_of_lt hi)]
      rw [h2]
      show some (bit _) = some _
      rw [bit_testBit]
    · rw [List.getElem?_eq_none (by simp [bitsHigh_length]; omega), List.getElem?_eq_none (by simp; omega)]
  rw [e] at q
  refine s_retL (el_rng3 (a := (k : Int) - 1) (b := -1) (c := -1) (fun i => n / 2 ^ (k - 1 - i) % 2) (ea_cons (ev_I0 (ev_var rfl) ev_c) (ea_cons (ev_un ev_c ru_neg) (ea_cons (ev_un ev_c ru_neg) ea_nil))) (rgc_down k (by omega)) (by omega) (fun _ => rfl) fun i H1 e hi => ?_) q
  have he : ((k : Int) - 1 + (i : Int) * (-1 : Int)) = ((k - 1 - i : Nat) : Int) := by omega
  rw [he]
  refine ev_is (ev_I0 (ev_I (ev_var rfl) (ev_var rfl) (by show (0 : Int) ≤ ((k - 1 - i : Nat) : Int); omega)) ev_c) ?_
  show V.int _ = V.int _
  rw [Int.toNat_natCast, and1]
/-! ### in_bytes -/
def spBytes (K : PySem.W.Frag) : Sp := fun vs H Q _ => ∃ (a : Addr) (l : List Bool), vs = [.ref a] ∧ SqL K H a (nvs (ts l)) ∧ l.length ≤ 100000 ∧ RetN (bytesN l ((l.length + 7) / 8)) H Q
theorem ok_in_bytes (T : Gs K mg aM) (F : Fun K "in_bytes" "in_bytes" s_in_bytes f fd) : FnOk P w K mg base CX0 1 f fd ["bits"] (spBytes K) := by
  refine F.ok sc_in_bytes (fun vs H Q E h => ?_) (fun cdv A outer s H vs Q E hr h => ?_)
  · obtain ⟨a, l, rfl, _⟩ := h
    rfl
  obtain ⟨a, l, rfl, hS, hl, q⟩ := h
  refine ⟨_, (pss_cons (ps_set (i := 1) sc_in_bytes.nd rfl (Or.inl rfl) (pe_op op_rep (pe_lst (pa_cons pe_int pa_nil)) (pe_op op_fdiv (pe_op op_add (pe_callB call_len_seq (by rfl) T.b_len (by decide +kernel) (pa_cons (pv 0) pa_nil)) pe_int) pe_int)))
    (pss_cons (ps_for PassesOwn.never rfl (pi_range1 (by rfl) T.b_range (pa_cons (pe_callB call_len_seq (by rfl) T.b_len (by decide +kernel) (pa_cons (pv 0) pa_nil)) pa_nil)) (pg_name (i := 2) sc_in_bytes.nd rfl (Or.inl rfl) (Or.inl rfl))
      (pss_one (ps_augL (pv 1) (pe_op op_fdiv (pv 2) pe_int) (pe_op op_shl (pe_ix ix_list (pv 0) (pv 2) (fun _ _ => rfl)) (pe_op op_mod (pv 2) pe_int)) ip_add)))
    (pss_one (ps_ret (pv 1))))), ?_⟩
  have hlen : ∀ {σ : L2.St} {H' : Hp}, Ex H H' → σ[0]? = some (some (.ref a)) → Ev (tCB (rLenS K) (tCons (tVar 0) tNil)) σ H' (nv l.length) := fun {σ H'} e hσ => by
    have := ev_lenN (K := K) (ta := tVar 0) (σ := σ) (ev_var hσ) (ex_l e hS)
    rw [ts_length] at this
    exact this
  refine q_asgL (el_is (el_rep (x := nv 0) (k := (l.length + 7) / 8) (el_lst (ea_cons ev_c ea_nil) (Nat.le_of_ble_eq_true rfl)) (ev_is (ev_I (ev_I0 (hlen (Ex.refl _) rfl) ev_c) ev_c ⟨by decide, by decide⟩) (by show V.int _ = V.int _; congr 1)) (sz_of (by omega))) (nvs_rep _ _)) fun p H1 hp e1 h1 => ?_
  refine q_forR1 (n := (l.length : Int)) (ea_cons (hlen e1 rfl) ea_nil) ⟨by omega, by omega⟩ (fun i σ H' => ∃ v, σ = [some (.ref a), some (.ref p), v] ∧ Ex H H' ∧ H' p = some (.lst (nvs (bytesN (l.take i) ((l.length + 7) / 8))))) (fun H2 e2 => ⟨none, rfl, e1.trans e2, ?_⟩) ?_ ?_
  · rw [List.take_zero, bytesN_nil]
    exact e2 _ _ h1
  · rintro i σ H2 hi ⟨v, rfl, e2, h2⟩
    have hi' : i < l.length := by omega
    have hq : l[i]? = some l[i] := List.getElem?_eq_getElem hi'
    generalize l[i] = bb at hq
    have htl : (l.take i).length = i := by rw [List.length_take]; omega
    have hm := bytesN_more (l.take i) bb ((l.length + 7) / 8) (by rw [htl]; omega)
    rw [htl] at hm
    have hg : (nvs (bytesN (l.take i) ((l.length + 7) / 8)))[i / 8]? = some (nv (SwSqueeze.numLow (((l.take i).drop (8 * (i / 8))).take 8))) := nvs_get (bytesN_getElem? (by omega))
    have hb : (nvs (ts l))[i]? = some (nv (bit bb)) := nvs_get (by unfold ts; rw [List.getElem?_map, hq]; rfl)
    have hbit : bit bb ≤ 1 := by cases bb <;> decide
    refine s_augL (j := i / 8) (b := ((bit bb * 2 ^ (i % 8) : Nat) : Int)) h2 (ev_var rfl) (ev_I (ev_var rfl) ev_c ⟨by decide, by decide⟩) (by omega) hg (ev_is (ev_I (ev_ix (ev_var rfl) (ev_var rfl) (ex_l e2 hS) hb rfl) (ev_I (ev_var rfl) ev_c (by show (0 : Int) < 8; decide)) ⟨by omega, by omega, by omega⟩) ?_) fun H3 e3 => ⟨some (nv i), rfl, Ex.mut (e2.trans e3) hp, ?_⟩
    · show V.int _ = V.int _
      have : ((i : Int) % 8).toNat = i % 8 := by omega
      rw [this, Int.natCast_mul, Int.natCast_pow]
      rfl
    · rw [upd_same, take_more hq, hm, ← nvs_set]
      rfl
  · rintro σ H2 ⟨v, rfl, e2, h2⟩
    rw [Int.toNat_natCast, List.take_length] at h2
    exact s_ret (ev_var rfl) fun H3 e3 => q p H3 hp (e2.trans e3) (e3 _ _ h2)
/-! ### nought_bits -/
def spNought : Sp := fun vs H Q _ => ∃ z : Nat, vs = [nv z] ∧ z ≤ 1000 ∧ RetN (ts (noughtBits z)) H Q
theorem ok_nought_bits (T : Gs K mg aM) (D_low_first : Def P w K mg base CX0 1 "low_first" ["number", "count"] spLow) (F : Fun K "nought_bits" "nought_bits" s_nought_bits f fd) : FnOk P w K mg base CX0 2 f fd ["count"] spNought := by
  refine F.ok sc_nought_bits (fun vs H Q E h => ?_) (fun cdv A outer s H vs Q E hr h => ?_)
  · obtain ⟨z, rfl, _⟩ := h
    rfl
  obtain ⟨z, rfl, hz, q⟩ := h
  refine ⟨_, (pss_cons (ps_set (i := 1) sc_nought_bits.nd rfl (Or.inl rfl) (pe_lst pa_nil))
    (pss_cons (ps_for PassesOwn.never rfl (pi_range1 (by rfl) T.b_range (pa_cons (pe_op op_fdiv (pv 0) pe_int) pa_nil)) (pg_name (i := 2) sc_nought_bits.nd rfl (Or.inl rfl) (Or.inl rfl))
      (pss_one (ps_expr (pe_bm PySem.F.plainAttrs_list PySem.F.slot_list_extend PySem.F.type_list_extend mt_extend (pv 1) (pa_cons (pe_op op_cat (pe_lst (pa_cons pe_int (pa_cons pe_int (pa_cons pe_int (pa_cons pe_int pa_nil))))) (pe_callD D_low_first hr rfl pass0 (pa_cons pe_int (pa_cons pe_int pa_nil)))) pa_nil)))))
    (pss_cons (ps_set (i := 3) sc_nought_bits.nd rfl (Or.inl rfl) (pe_op op_mod (pv 0) pe_int))
    (pss_cons (ps_if (pt_cmpR op_gt (pv 3) pe_int (nomark _))
      (pss_one (ps_expr (pe_bm PySem.F.plainAttrs_list PySem.F.slot_list_extend PySem.F.type_list_extend mt_extend (pv 1) (pa_cons (pe_op op_cat (pe_lst (pa_cons pe_int (pa_cons pe_int (pa_cons pe_int (pa_cons pe_int pa_nil))))) (pe_callD D_low_first hr rfl pass0 (pa_cons (pe_op op_sub (pv 3) pe_int) (pa_cons pe_int pa_nil)))) pa_nil))))
      pss_nil)
    (pss_one (ps_ret (pv 1))))))), ?_⟩
  refine q_asgL (el_lst ea_nil (by decide)) fun p H1 hp e1 h1 => ?_
  let u : List Bool := bitsLow 4 0 ++ bitsLow 8 255
  have hul : u.length = 12 := rfl
  have flen : ∀ i, ((List.replicate i u).flatten).length = 12 * i := fun i => by
    rw [List.length_flatten, List.map_replicate, List.sum_replicate_nat, hul, Nat.mul_comm]
  refine q_forR1 (n := ((z / 256 : Nat) : Int)) (ea_cons (ev_is (ev_I (ev_var rfl) ev_c ⟨by decide, by decide⟩) (by show V.int _ = V.int _; congr 1)) ea_nil) ⟨by omega, by omega⟩ (fun i σ H' => ∃ v, σ = [some (nv z), some (.ref p), v, none] ∧ Ex H H' ∧ H' p = some (.lst (nvs (ts (List.replicate i u).flatten)))) (fun H2 e2 => ⟨none, rfl, e1.trans e2, e2 _ _ h1⟩) ?_ ?_
  · rintro i σ H2 hi ⟨v, rfl, e2, h2⟩
    refine s_ext (ys := nvs (ts u)) h2 (ev_var rfl) (el_is (el_cat (el_lst (ea_cons ev_c (ea_cons ev_c (ea_cons ev_c (ea_cons ev_c ea_nil)))) (Nat.le_of_ble_eq_true rfl)) (el_call (xs := nvs (ts (bitsLow 8 255))) (ea_cons ev_c (ea_cons ev_c ea_nil)) fun H3 e3 Q3 q3 E3 => ⟨255, 8, rfl, by decide, q3⟩) (by rw [nvs_length, ts_length, SwSqueeze.bitsLow, List.length_map, List.length_range]; exact sz_of (by decide : 4 + 8 ≤ 100000))) (by rw [ts_append, nvs_append]; rfl)) ?_ fun H3 e3 => ⟨some (nv i), rfl, Ex.mut (e2.trans e3) hp, ?_⟩
    · rw [nvs_length, ts_length, nvs_length, ts_length, flen, hul]
      exact sz_of (by omega)
    · rw [upd_same, ← nvs_append, ← ts_append, List.replicate_succ', List.flatten_append]
      simp
  · rintro σ H2 ⟨v, rfl, e2, h2⟩
    rw [Int.toNat_natCast] at h2
    refine q_asg (v := nv (z % 256)) (ev_is (ev_I (ev_var rfl) ev_c (by show (0 : Int) < 256; decide)) (by show V.int _ = V.int _; congr 1)) fun H3 e3 => ?_
    have h3 := e3 _ _ h2
    refine q_when (b := decide (0 < z % 256)) (et_is (et_test (ev_I0 (ev_var rfl) ev_c)) (by rw [decide_eq_decide]; omega)) (fun hb H4 e4 => ?_) (fun hb H4 e4 => ?_)
    · have hb := of_decide_eq_true hb
      refine s_ext (ys := nvs (ts (bitsLow 4 0 ++ bitsLow 8 (z % 256 - 1)))) (e4 _ _ h3) (ev_var rfl) (el_is (el_cat (el_lst (ea_cons ev_c (ea_cons ev_c (ea_cons ev_c (ea_cons ev_c ea_nil)))) (Nat.le_of_ble_eq_true rfl)) (el_call (xs := nvs (ts (bitsLow 8 (z % 256 - 1)))) (ea_cons (ev_is (w := nv (z % 256 - 1)) (ev_I0 (ev_var rfl) ev_c) (by show V.int _ = V.int _; congr 1; omega)) (ea_cons ev_c ea_nil)) fun H3 e3 Q3 q3 E3 => ⟨_, 8, rfl, by decide, q3⟩) (by rw [nvs_length, ts_length, SwSqueeze.bitsLow, List.length_map, List.length_range]; exact sz_of (by decide : 4 + 8 ≤ 100000))) (by rw [ts_append, nvs_append]; rfl)) ?_ fun H5 e5 => ?_
      · rw [nvs_length, ts_length, nvs_length, ts_length, flen, List.length_append, bitsLow_length, bitsLow_length]
        exact sz_of (by omega)
      · refine s_ret (ev_var rfl) fun H6 e6 => q p H6 hp ((Ex.mut (((e2.trans e3).trans e4).trans e5) hp).trans e6) (e6 _ _ ?_)
        rw [upd_same, ← nvs_append, ← ts_append]
        unfold noughtBits
        rw [if_pos hb]
    · have hb := of_decide_eq_false hb
      refine s_ret (ev_var rfl) fun H6 e6 => q p H6 hp (((e2.trans e3).trans e4).trans e6) (e6 _ _ ?_)
      rw [e4 _ _ h3]
      unfold noughtBits
      rw [if_neg hb, List.append_nil]
/-! ### length_bits -/
def spLenBits (K : PySem.W.Frag) : Sp := fun vs H Q _ => ∃ (a : Addr) (l : List Nat), vs = [.ref a] ∧ SqL K H a (nvs l) ∧ l.length ≤ 300 ∧ RetN (ts (told l)) H Q
theorem ok_length_bits (T : Gs K mg aM) (D_low_first : Def P w K mg base CX0 1 "low_first" ["number", "count"] spLow) (D_nought_bits : Def P w K mg base CX0 2 "nought_bits" ["count"] spNought) (F : Fun K "length_bits" "length_bits" s_length_bits f fd) :
    FnOk P w K mg base CX0 3 f fd ["lengths"] (spLenBits K) := by
  refine F.ok sc_length_bits (fun vs H Q E h => ?_) (fun cdv A outer s H vs Q E hr h => ?_)
  · obtain ⟨a, l, rfl, _⟩ := h
    rfl
  obtain ⟨a, l, rfl, hS, hl, q⟩ := h
  refine ⟨_, (pss_cons (ps_set (i := 1) sc_length_bits.nd rfl (Or.inl rfl) (pe_lst pa_nil))
    (pss_cons (ps_set (i := 2) sc_length_bits.nd rfl (Or.inl rfl) pe_int)
    (pss_cons (ps_for PassesOwn.never rfl (pi_list (pv 0)) (pg_name (i := 3) sc_length_bits.nd rfl (Or.inl rfl) (Or.inl rfl))
      (pss_one (ps_if (pt_cmpR op_eq (pv 3) pe_int (nomark _))
      (pss_one (ps_aug (i := 2) sc_length_bits.nd rfl (Or.inl rfl) pe_int ip_add))
      (pss_cons (ps_expr (pe_bm PySem.F.plainAttrs_list PySem.F.slot_list_extend PySem.F.type_list_extend mt_extend (pv 1) (pa_cons (pe_callD D_nought_bits hr rfl pass0 (pa_cons (pv 2) pa_nil)) pa_nil)))
    (pss_cons (ps_expr (pe_bm PySem.F.plainAttrs_list PySem.F.slot_list_extend PySem.F.type_list_extend mt_extend (pv 1) (pa_cons (pe_callD D_low_first hr rfl pass0 (pa_cons (pv 3) (pa_cons pe_int pa_nil))) pa_nil)))
    (pss_one (ps_set (i := 2) sc_length_bits.nd rfl (Or.inl rfl) pe_int)))))))
    (pss_cons (ps_expr (pe_bm PySem.F.plainAttrs_list PySem.F.slot_list_extend PySem.F.type_list_extend mt_extend (pv 1) (pa_cons (pe_callD D_nought_bits hr rfl pass0 (pa_cons (pv 2) pa_nil)) pa_nil)))
    (pss_one (ps_ret (pv 1))))))), ?_⟩
  refine q_asgL (el_lst ea_nil (by decide)) fun p H1 hp e1 h1 => ?_
  refine q_asg (v := nv 0) ev_c fun H2 e2 => ?_
  have hnl : (nvs l).length = l.length := nvs_length l
  refine q_forLn (ev_var rfl) (ex_l (e1.trans e2) hS) (fun i σ H' => ∃ v bits z, σ = [some (.ref a), some (.ref p), some (nv z), v] ∧ Ex H H' ∧ H' p = some (.lst (nvs (ts bits))) ∧ ToldTo l i bits z ∧ z ≤ i ∧ bits.length ≤ 40 * i) (fun H3 e3 => ⟨none, [], 0, rfl, (e1.trans e2).trans e3, (e2.trans e3) _ _ h1, toldTo_start l, Nat.le_refl _, Nat.zero_le _⟩) (fun i σ H' _ ⟨_, _, _, _, e, _⟩ => ex_l e hS) ?_ ?_
  · rintro i x σ H3 hx ⟨v, bits, z, rfl, e3, h3, hT, hz, hb⟩
    obtain ⟨n, hn, rfl⟩ := nvs_of hx
    have hil := (List.getElem?_eq_some_iff.mp hn).1
    refine s_if (et_test (ev_eqI (ev_var rfl) ev_c)) (fun hc H4 e4 => ?_) (fun hc H4 e4 => ?_)
    · have hc : n = 0 := by have := of_decide_eq_true hc; omega
      subst hc
      exact s_aug (a := (z : Int)) (b := 1) rfl ev_c fun H5 e5 => ⟨some (nv 0), bits, z + 1, rfl, (e3.trans e4).trans e5, (e4.trans e5) _ _ h3, hT.zero hn, by omega, by omega⟩
    · have hc : n ≠ 0 := by have := of_decide_eq_false hc; omega
      have hnb := noughtBits_len z
      refine q_ext (ys := nvs (ts (noughtBits z))) (e4 _ _ h3) (ev_var rfl) (el_call (ea_cons (ev_var rfl) ea_nil) fun H5 e5 Q5 q5 E5 => ⟨z, rfl, by omega, q5⟩) ?_ fun H5 e5 => ?_
      · rw [nvs_length, ts_length, nvs_length, ts_length]
        exact sz_of (by omega)
      rw [← nvs_append, ← ts_append]
      refine q_ext (xs := nvs (ts (bits ++ noughtBits z))) (ys := nvs (ts (bitsLow 4 n))) upd_same (ev_var rfl) (el_call (ea_cons (ev_var rfl) (ea_cons ev_c ea_nil)) fun H5 e5 Q5 q5 E5 => ⟨n, 4, rfl, by decide, q5⟩) ?_ fun H6 e6 => ?_
      · rw [nvs_length, ts_length, nvs_length, ts_length, List.length_append, bitsLow_length]
        exact sz_of (by omega)
      rw [← nvs_append, ← ts_append]
      refine s_asg (v := nv 0) ev_c fun H7 e7 => ⟨some (nv n), _, 0, rfl, ?_, e7 _ _ upd_same, hT.one hn hc, Nat.zero_le _, ?_⟩
      · exact (Ex.mut ((Ex.mut ((e3.trans e4).trans e5) hp).trans e6) hp).trans e7
      · rw [List.length_append, List.length_append, bitsLow_length]
        omega
  · rintro σ H3 ⟨v, bits, z, rfl, e3, h3, hT, hz, hb⟩
    rw [hnl] at hT hz hb
    have hnb := noughtBits_len z
    refine q_ext (ys := nvs (ts (noughtBits z))) h3 (ev_var rfl) (el_call (ea_cons (ev_var rfl) ea_nil) fun H5 e5 Q5 q5 E5 => ⟨z, rfl, by omega, q5⟩) ?_ fun H5 e5 => ?_
    · rw [nvs_length, ts_length, nvs_length, ts_length]
      exact sz_of (by omega)
    rw [← nvs_append, ← ts_append, hT.stop]
    exact s_ret (ev_var rfl) fun H6 e6 => q p H6 hp ((Ex.mut (e3.trans e5) hp).trans e6) (e6 _ _ upd_same)
end
end Gz
end

/-! ## W11 -/
section
set_option Elab.async false
set_option linter.all false
set_option maxRecDepth 100000
set_option maxHeartbeats 4000000
namespace Gz
open PySem PySem.Spec PyProof.Rows L2 Evl
open SwSqueeze (classOf bitsLow bitsHigh)
section
variable {K : PySem.W.Frag} {σ : L2.St} {H H' : Hp} {ta : TA} {te td ty : TE} {D : Ends} {tz tu : TS}
theorem g_pairV {i j : Nat} {x y : V} {u : Addr} {Q : L2.St → Hp → Prop} (h : H u = some (.tup [x, y])) (q : Q ((σ.set i (some x)).set j (some y)) H) : gTup K 2 (gCons (gName i) (gCons (gName j) gNil)) (.ref u) σ H Q :=
  ⟨u, [x, y], rfl, .inl (.inl h), rfl, x, [y], rfl, y, [], rfl, rfl, q⟩
theorem g_tripleV {i j k : Nat} {x y z : V} {u : Addr} {Q : L2.St → Hp → Prop} (h : H u = some (.tup [x, y, z])) (q : Q (((σ.set i (some x)).set j (some y)).set k (some z)) H) : gTup K 3 (gCons (gName i) (gCons (gName j) (gCons (gName k) gNil))) (.ref u) σ H Q :=
  ⟨u, [x, y, z], rfl, .inl (.inl h), rfl, x, [y, z], rfl, y, [z], rfl, z, [], rfl, rfl, q⟩
/-- a for over a list of pairs that stood before all that's changed -/
theorem q_forPA {tl : TE} {a : Addr} {i j : Nat} {ps : List (Nat × Nat)} {H0 : Hp} (h : Ev tl σ H (.ref a)) (hp : PairL H0 a ps) (e0 : Ex H0 H) (Pv : Nat → L2.St → Hp → Prop) (h0 : ∀ H1, Ex H H1 → Pv 0 σ H1) (hl : ∀ k σ' H', Pv k σ' H' → Ex H0 H')
    (hs : ∀ k q σ' H', ps[k]? = some q → Pv k σ' H' → tu { D with nx := Pv (k + 1), ct := Pv (k + 1), bk := tz D } ((σ'.set i (some (nv q.1))).set j (some (nv q.2))) H')
    (hd : ∀ σ' H', Pv ps.length σ' H' → tz D σ' H') : tSeq (tFor (iList K tl) (gTup K 2 (gCons (gName i) (gCons (gName j) gNil))) tu) tz D σ H :=
  h H (Ex.refl H) _ fun H1 e1 => by
    obtain ⟨ys, h1, h2⟩ := hp
    refine ⟨a, rfl, ⟨ys, sq_of (e1 _ _ (e0 _ _ h1))⟩, ?_⟩
    have hlen : ys.length = ps.length := by rw [h2.length, List.length_map]
    refine for_list (xs := ys) (D := { D with nx := tz D }) Pv (h0 H1 e1) (fun k σ' H' _ q => sq_of (hl k σ' H' q _ _ h1)) (fun k x σ' H' hx q => ?_) (fun σ' H' q => hd σ' H' (hlen ▸ q))
    obtain ⟨r, hr, ht⟩ := paired_getL (h2.ex (hl k σ' H' q)) hx
    rw [List.getElem?_map] at hr
    cases hq : ps[k]? with
    | none => rw [hq] at hr; cases hr
    | some q0 =>
      rw [hq] at hr
      exact g_pair ht (Option.some.inj hr).symm (hs k q0 σ' H' hq q)
/-- a for over a new list of triples -/
theorem q_forTrN {tl : TE} {i j n : Nat} {ps : List (Nat × Nat × Nat)} (h : EvT2 tl σ H (ps.map tr)) (Pv : Addr → List V → Nat → L2.St → Hp → Prop) (h0 : ∀ p ys H1, H p = none → Ex H H1 → H1 p = some (.lst ys) → Ts H1 ys (ps.map tr) → Pv p ys 0 σ H1)
    (hl : ∀ p ys k σ' H', Pv p ys k σ' H' → H' p = some (.lst ys) ∧ Ts H' ys (ps.map tr))
    (hs : ∀ p ys k q σ' H', ps[k]? = some q → Pv p ys k σ' H' → tu { D with nx := Pv p ys (k + 1), ct := Pv p ys (k + 1), bk := tz D } (((σ'.set i (some (nv q.1))).set j (some (nv q.2.1))).set n (some (nv q.2.2))) H')
    (hd : ∀ p ys σ' H', Pv p ys ps.length σ' H' → tz D σ' H') : tSeq (tFor (iList K tl) (gTup K 3 (gCons (gName i) (gCons (gName j) (gCons (gName n) gNil)))) tu) tz D σ H :=
  h H (Ex.refl H) _ fun p H1 hp e1 ⟨ys, h1, h2⟩ => ⟨p, rfl, ⟨ys, sq_of h1⟩, by
    have hlen : ys.length = ps.length := by rw [h2.length, List.length_map]
    refine for_list (xs := ys) (D := { D with nx := tz D }) (Pv p ys) (h0 p ys H1 hp e1 h1 h2) (fun k σ' H' _ q => sq_of (hl p ys k σ' H' q).1) (fun k x σ' H' hx q => ?_) (fun σ' H' q => hd p ys σ' H' (hlen ▸ q))
    obtain ⟨r, hr, ht⟩ := paired_getL (hl p ys k σ' H' q).2 hx
    rw [List.getElem?_map] at hr
    cases hq : ps[k]? with
    | none => rw [hq] at hr; cases hr
    | some q0 =>
      rw [hq] at hr
      exact g_triple ht (Option.some.inj hr).symm (hs p ys k q0 σ' H' hq q)⟩
/-- d[k] of a dict of numbers -/
theorem ev_dget {a : Addr} {kvs : List (Key × V)} {i : Int} {v : V} (hd : Ev td σ H (.ref a)) (hk : Ev ty σ H (.int i)) (h : H a = some (.dK kvs)) (hv : valV kvs (.inl i) = some v) : Ev (tDGet td ty) σ H v := fun H1 e Q q =>
  hd H1 e _ fun H2 e2 => hk H2 (e.trans e2) _ fun H3 e3 => ⟨a, v, rfl, by
    have := DGet.k (k := (.inl i : Key)) (((e.trans e2).trans e3) _ _ h)
    rw [hv] at this
    exact this, q H3 (e2.trans e3)⟩
end
section
variable {P : Program} {w : World} {K : PySem.W.Frag} {mg : Str → Option Value} {base : Heap} {f : Addr} {fd : FuncData} {aM : Addr}
/-! ### counted -/
def spCounted : Sp := fun vs H Q _ => ∃ (a : Addr) (t : List UInt8) (l : List SwSqueeze.Step), vs = [.ref a] ∧ PairL H a (encs l) ∧ t.length ≤ 1024 ∧ l.length ≤ 1024 ∧ (∀ s ∈ l, StepIn t s) ∧
  ∀ p b c H2, H p = none → H b = none → H c = none → Ex H H2 → H2 p = some (.tup [.ref b, .ref c]) → H2 b = some (.lst (nvs (SwSqueeze.often l))) → H2 c = some (.lst (nvs (SwSqueeze.oftenD l))) → Q (.ref p) H2
theorem encs_get {l : List SwSqueeze.Step} {k : Nat} {q : Nat × Nat} (h : (encs l)[k]? = some q) : ∃ s, l[k]? = some s ∧ q = enc s := by
  unfold encs at h
  rw [List.getElem?_map] at h
  cases hs : l[k]? with
  | none => rw [hs] at h; cases h
  | some s => rw [hs] at h; exact ⟨s, rfl, (Option.some.inj h).symm⟩
theorem ok_counted (T : Gs K mg aM) (D_class_of : Def P w K mg base CX0 1 "class_of" ["number"] spClass) (F : Fun K "counted" "counted" s_counted f fd) : FnOk P w K mg base CX0 2 f fd ["steps"] spCounted := by
  refine F.ok sc_counted (fun vs H Q E h => ?_) (fun cdv A outer s H vs Q E hr h => ?_)
  · obtain ⟨a, t, l, rfl, _⟩ := h
    rfl
  obtain ⟨a, t, l, rfl, hP, ht, hl, hin, q⟩ := h
  rw [often_eq ht hin, oftenD_eq ht hin] at q
  refine ⟨_, (pss_cons (ps_set (i := 1) sc_counted.nd rfl (Or.inl rfl) (pe_op op_rep (pe_lst (pa_cons pe_int pa_nil)) (pe_k T.SYMBOLS)))
    (pss_cons (ps_set (i := 2) sc_counted.nd rfl (Or.inl rfl) (pe_op op_rep (pe_lst (pa_cons pe_int pa_nil)) (pe_k T.CLASSES)))
    (pss_cons (ps_for PassesOwn.never rfl (pi_list (pv 0)) (pg_tup rfl (pgs_cons (pg_name (i := 3) sc_counted.nd rfl (Or.inl rfl) (Or.inl rfl)) (pgs_cons (pg_name (i := 4) sc_counted.nd rfl (Or.inl rfl) (Or.inl rfl)) pgs_nil)))
      (pss_one (ps_if (pt_cmpR op_eq (pv 3) pe_int (nomark _))
      (pss_one (ps_augL (pv 1) (pv 4) pe_int ip_add))
      (pss_cons (ps_augL (pv 1) (pe_op op_add (pe_k T.LETTERS) (pe_callD D_class_of hr rfl pass0 (pa_cons (pe_op op_sub (pv 3) (pe_k T.LEAST)) pa_nil))) pe_int ip_add)
    (pss_one (ps_augL (pv 2) (pe_callD D_class_of hr rfl pass0 (pa_cons (pe_op op_sub (pv 4) pe_int) pa_nil)) pe_int ip_add))))))
    (pss_one (ps_ret (pe_tup (pa_cons (pv 1) (pa_cons (pv 2) pa_nil)))))))), ?_⟩
  refine q_asgL (xs := nvs (tally 265 [])) (el_is (el_rep (x := nv 0) (k := 265) (el_lst (ea_cons ev_c ea_nil) (Nat.le_of_ble_eq_true rfl)) ev_c (sz_of (by decide))) (by rw [nvs_rep, tally_nil])) fun b H1 hb e1 h1 => ?_
  refine q_asgL (xs := nvs (tally 11 [])) (el_is (el_rep (x := nv 0) (k := 11) (el_lst (ea_cons ev_c ea_nil) (Nat.le_of_ble_eq_true rfl)) ev_c (sz_of (by decide))) (by rw [nvs_rep, tally_nil])) fun c H2 hc e2 h2 => ?_
  have hcb : c ≠ b := fun e => by rw [e, h1] at hc; cases hc
  have hcH := fresh_back e1 hc
  have hel : (encs l).length = l.length := List.length_map ..
  refine q_forPA (ps := encs l) (H0 := H) (ev_var rfl) hP (e1.trans e2) (fun k σ H' => ∃ v3 v4, σ = [some (.ref a), some (.ref b), some (.ref c), v3, v4] ∧ Ex H H' ∧ H' b = some (.lst (nvs (tally 265 ((l.take k).map SwSqueeze.symbolOf)))) ∧ H' c = some (.lst (nvs (tally 11 ((l.take k).filterMap dclass)))))
    (fun H3 e3 => ⟨none, none, rfl, (e1.trans e2).trans e3, (e2.trans e3) _ _ h1, e3 _ _ h2⟩) (fun k σ' H' ⟨_, _, _, h, _⟩ => h) ?_ ?_
  · rintro k q0 σ H3 hq ⟨v3, v4, rfl, e3, hb3, hc3⟩
    obtain ⟨s, hs, rfl⟩ := encs_get hq
    obtain ⟨p, hok⟩ := hin s (List.mem_of_getElem? hs)
    have htk : (l.take (k + 1)) = l.take k ++ [s] := take_more hs
    refine s_if (et_test (ev_eqI (ev_var rfl) ev_c)) (fun hd H4 e4 => ?_) (fun hd H4 e4 => ?_)
    · cases s with
      | match_ x d =>
        obtain ⟨h3, _⟩ := hok
        have hd : x = 0 := by have := of_decide_eq_true hd; have h5 : ((x : Nat) : Int) = 0 := this; omega
        omega
      | letter x =>
        have hx : x.toNat < 265 := by have := x.toNat_lt; omega
        refine s_augL (j := x.toNat) (e4 _ _ hb3) (ev_var rfl) (ev_var rfl) rfl (nvs_get (tally_get hx)) ev_c fun H5 e5 => ⟨_, _, rfl, Ex.mut ((e3.trans e4).trans e5) hb, ?_, ?_⟩
        · rw [upd_same, htk, List.map_append]
          show some (HO.lst ((nvs _).set x.toNat (nv _))) = _
          rw [nvs_set, tally_more hx]
          rfl
        · rw [upd_ne hcb, htk, List.filterMap_append]
          show H5 c = some (HO.lst (nvs (tally 11 (_ ++ []))))
          rw [List.append_nil]
          exact (e4.trans e5) _ _ hc3
    · cases s with
      | letter x => exact absurd rfl (of_decide_eq_false hd)
      | match_ x d =>
        obtain ⟨h3, h258, _, h1d, hdp⟩ := id hok
        have hx : 256 + classOf (x - 3) < 265 := by
          have := class_le (v := x - 3) (k := 8) (by omega)
          omega
        have hpl := hok.len
        have hen1 : (enc (.match_ x d)).1 = x := rfl
        have hen2 : (enc (.match_ x d)).2 = d := rfl
        have hdc : classOf (d - 1) < 11 := by
          have := class_le (v := d - 1) (k := 10) (by omega)
          omega
        refine q_augL (j := 256 + classOf (x - 3)) (e4 _ _ hb3) (ev_var rfl) (ev_I0 ev_c (ev_call (ea_cons (ev_is (w := nv (x - 3)) (ev_I0 (ev_var rfl) ev_c) (by show V.int _ = V.int _; congr 1; omega)) ea_nil) fun H5 e5 Q5 q5 E5 => ⟨x - 3, rfl, q5⟩)) (by omega) (nvs_get (tally_get hx)) ev_c fun H5 e5 => ?_
        have hc5 : (upd H5 b (HO.lst ((nvs (tally 265 ((l.take k).map SwSqueeze.symbolOf))).set (256 + classOf (x - 3)) (.int ((((l.take k).map SwSqueeze.symbolOf).count (256 + classOf (x - 3)) : Nat) + 1 : Int))))) c = some (.lst (nvs (tally 11 ((l.take k).filterMap dclass)))) := by
          rw [upd_ne hcb]
          exact (e4.trans e5) _ _ hc3
        refine s_augL (j := classOf (d - 1)) hc5 (ev_var rfl) (ev_call (ea_cons (ev_is (w := nv (d - 1)) (ev_I0 (ev_var rfl) ev_c) (by show V.int _ = V.int _; congr 1; omega)) ea_nil) fun H5 e5 Q5 q5 E5 => ⟨d - 1, rfl, q5⟩) rfl (nvs_get (tally_get hdc)) ev_c fun H6 e6 => ⟨_, _, rfl, ?_, ?_, ?_⟩
        · exact Ex.mut ((Ex.mut ((e3.trans e4).trans e5) hb).trans e6) hcH
        · rw [upd_ne hcb.symm, e6 _ _ upd_same, htk, List.map_append]
          show some (HO.lst ((nvs _).set _ (nv _))) = _
          rw [nvs_set, tally_more hx]
          rfl
        · rw [upd_same, htk, List.filterMap_append]
          show some (HO.lst ((nvs _).set _ (nv _))) = _
          rw [nvs_set, tally_more hdc]
          rfl
  · rintro σ H3 ⟨v3, v4, rfl, e3, hb3, hc3⟩
    rw [hel, List.take_length] at hb3 hc3
    refine s_retU (eu_tup (ea_cons (ev_var rfl) (ea_cons (ev_var rfl) ea_nil)) (Nat.le_of_ble_eq_true rfl)) fun p H4 hp e4 h4 => ?_
    exact q p b c H4 (fresh_back e3 hp) hb hcH (e3.trans e4) h4 (e4 _ _ hb3) (e4 _ _ hc3)
/-! ### words_of -/
/-- a dict of words -/
def DW (H : Hp) (p : Addr) (ls : List Nat) : Prop := ∃ kvs : List (Key × V), H p = some (.dK kvs) ∧ ∀ s x, wordOf ls s = some x → ∃ b, valV kvs (.inl (s : Int)) = some (.ref b) ∧ H b = some (.lst (nvs (ts x)))
theorem DW.ex {H H' : Hp} {p : Addr} {ls : List Nat} (e : Ex H H') (h : DW H p ls) : DW H' p ls := by
  obtain ⟨kvs, h1, h2⟩ := h
  refine ⟨kvs, e _ _ h1, fun s x hx => ?_⟩
  obtain ⟨b, hb1, hb2⟩ := h2 s x hx
  exact ⟨b, hb1, e _ _ hb2⟩
def spWords (K : PySem.W.Frag) : Sp := fun vs H Q _ => ∃ (a : Addr) (l : List Nat), vs = [.ref a] ∧ SqL K H a (nvs l) ∧ l.length ≤ 300 ∧ (∀ n ∈ l, n ≤ 15) ∧ ∀ p H2, H p = none → Ex H H2 → DW H2 p l → Q (.ref p) H2
theorem codewords_syms_le {l : List Nat} : ∀ q ∈ SwSqueeze.codewords l, q.1 < l.length ∧ 1 ≤ q.2.1 ∧ q.2.1 ≤ 15 := by
  intro q hq
  have h1 : (q.2.1, q.1) ∈ lenP l := by
    have hi := cwRun_inv l
    rw [codewords_eq] at hq
    have := List.mem_map_of_mem (f := fun t : Nat × Nat × Nat => (t.2.1, t.1)) hq
    rw [hi.all] at this
    exact this
  have h2 := lenP_bounds _ h1
  unfold lenP at h1
  obtain ⟨s, hs, e⟩ := List.mem_map.mp h1
  have := (byLength_mem.mp hs).1
  simp only [Prod.mk.injEq] at e
  exact ⟨by rw [← e.2]; exact this, h2⟩
theorem codewords_len_le (l : List Nat) (h15 : ∀ n ∈ l, n ≤ 15) : (SwSqueeze.codewords l).length ≤ l.length := by
  have := lenP_length h15
  have hi := cwRun_inv l
  have h1 := congrArg List.length hi.all
  rw [List.length_map] at h1
  rw [codewords_eq]
  omega
theorem ok_words_of (D_codewords : Def P w K mg base CX0 1 "codewords" ["lengths"] (spCodewords K)) (D_high_first : Def P w K mg base CX0 1 "high_first" ["number", "count"] spHigh) (F : Fun K "words_of" "words_of" s_words_of f fd) : FnOk P w K mg base CX0 2 f fd ["lengths"] (spWords K) := by
  refine F.ok sc_words_of (fun vs H Q E h => ?_) (fun cdv A outer s H vs Q E hr h => ?_)
  · obtain ⟨a, l, rfl, _⟩ := h
    rfl
  obtain ⟨a, l, rfl, hS, hl, h15, q⟩ := h
  refine ⟨_, (pss_cons (ps_set (i := 1) sc_words_of.nd rfl (Or.inl rfl) pe_dnewK)
    (pss_cons (ps_for PassesOwn.never rfl (pi_list (pe_callD D_codewords hr rfl pass0 (pa_cons (pv 0) pa_nil))) (pg_tup rfl (pgs_cons (pg_name (i := 2) sc_words_of.nd rfl (Or.inl rfl) (Or.inl rfl)) (pgs_cons (pg_name (i := 3) sc_words_of.nd rfl (Or.inl rfl) (Or.inl rfl)) (pgs_cons (pg_name (i := 4) sc_words_of.nd rfl (Or.inl rfl) (Or.inl rfl)) pgs_nil))))
      (pss_one (ps_dput (u1 hr) (pv 1) (pv 2) (pe_callD D_high_first hr rfl pass0 (pa_cons (pv 4) (pa_cons (pv 3) pa_nil))) rfl)))
    (pss_one (ps_ret (pv 1))))), ?_⟩
  have hcl := codewords_len_le l h15
  have hcs := codewords_syms_le (l := l)
  have hcr := codewords_rise (ls := l)
  unfold DW wordOf at q
  refine q_raw ?_
  intro p hp
  have e1 : Ex H (upd H p (.dK [])) := Ex.new hp
  refine q_forTrN (ps := SwSqueeze.codewords l) (fun H2 e2 Q2 q2 => ?_) (fun r ys k σ H' => ∃ v2 v3 v4 kvs, σ = [some (.ref a), some (.ref p), v2, v3, v4] ∧ Ex H H' ∧ H' p = some (.dK kvs) ∧ kvs.length ≤ k ∧ (∀ s t, ((SwSqueeze.codewords l).take k).find? (fun t => t.1 == s) = some t → ∃ b, valV kvs (.inl (s : Int)) = some (.ref b) ∧ H' b = some (.lst (nvs (ts (bitsHigh t.2.1 t.2.2)))) ∧ b ≠ p) ∧ H' r = some (.lst ys) ∧ Ts H' ys ((SwSqueeze.codewords l).map tr) ∧ r ≠ p) ?_ ?_ ?_ ?_
  · refine call_raw ?_
    refine (ea_cons (ev_var rfl) ea_nil) H2 (Ex.refl _) _ fun H3 e3 => ?_
    exact ⟨a, l, rfl, ex_l ((e1.trans e2).trans e3) hS, hl, h15, fun r H4 hr4 e4 h4 => q2 r H4 (fresh_back e3 hr4) (e3.trans e4) h4⟩
  · intro r ys H2 hr2 e2 h2 hts
    refine ⟨none, none, none, [], rfl, e1.trans e2, e2 _ _ upd_same, Nat.le_refl _, fun s t h => by simp at h, h2, hts, fun e => ?_⟩
    rw [e, upd_same] at hr2
    cases hr2
  · rintro r ys k σ H' ⟨_, _, _, _, _, _, _, _, _, h, h2, _⟩
    exact ⟨h, h2⟩
  · rintro r ys k q0 σ H2 hq ⟨v2, v3, v4, kvs, rfl, e2, hp2, hkl, hkv, hr2, hts2, hrp⟩
    obtain ⟨hq1, hq2, hq3⟩ := hcs q0 (List.mem_of_getElem? hq)
    have hk := (List.getElem?_eq_some_iff.mp hq).1
    -- words[symbol] = high_first(number, length)
    show tCall spHigh _ _ _ _ _ _
    refine call_raw ?_
    refine (ea_cons (ev_var rfl) (ea_cons (ev_var rfl) ea_nil)) H2 (Ex.refl _) _ fun H3 e3 => ?_
    refine ⟨q0.2.2, q0.2.1, rfl, by omega, fun b H4 hb4 e4 h4 => ?_⟩
    refine (ev_var (v := .ref p) rfl) H4 (Ex.refl _) _ fun H5 e5 => ?_
    refine (ev_var (v := nv q0.1) rfl) H5 (Ex.refl _) _ fun H6 e6 => ?_
    have e26 := ((e3.trans e4).trans e5).trans e6
    have hp6 := e26 _ _ hp2
    have hbp : b ≠ p := fun e => by rw [e, e3 _ _ hp2] at hb4; cases hb4
    refine ⟨p, _, rfl, DPut.k (k := (.inl (q0.1 : Int) : Key)) hp6 (sz_lt (by omega)), ?_⟩
    refine ⟨_, _, _, _, rfl, Ex.mut (e2.trans e26) hp, upd_same, ?_, ?_, ?_, ?_, hrp⟩
    · have := length_putK kvs (.inl (q0.1 : Int) : Key) (.ref b)
      omega
    · intro s t hf
      rw [take_more hq, List.find?_append] at hf
      rw [valV_put]
      cases hf0 : ((SwSqueeze.codewords l).take k).find? (fun t => t.1 == s) with
      | some t0 =>
        rw [hf0] at hf
        have : t0 = t := Option.some.inj hf
        subst this
        obtain ⟨b0, h1, h2, h3⟩ := hkv s t0 hf0
        have hne : s ≠ q0.1 := by
          intro e
          have hm := List.mem_of_find?_eq_some hf0
          have hs := List.find?_some hf0
          obtain ⟨i, hi⟩ := List.mem_iff_getElem?.mp hm
          rw [List.getElem?_take] at hi
          split at hi
          · rename_i hik
            obtain ⟨h5, h6⟩ := List.getElem?_eq_some_iff.mp hi
            obtain ⟨h7, h8⟩ := List.getElem?_eq_some_iff.mp hq
            have := (List.pairwise_iff_getElem.mp hcr i k h5 h7 hik).2.1
            rw [h6, h8] at this
            exact this (by rw [← e]; exact beq_iff_eq.mp hs)
          · cases hi
        rw [if_neg (fun e => hne (by injection e with e; omega))]
        exact ⟨b0, h1, by rw [upd_ne h3]; exact e26 _ _ h2, h3⟩
      | none =>
        rw [hf0, Option.none_or] at hf
        have hs := List.find?_some hf
        have ht := List.mem_of_find?_eq_some hf
        rw [List.mem_singleton] at ht
        subst ht
        have hs : t.1 = s := beq_iff_eq.mp hs
        rw [if_pos (by rw [hs])]
        exact ⟨b, rfl, by rw [upd_ne hbp]; exact (e5.trans e6) _ _ h4, hbp⟩
    · rw [upd_ne hrp]
      exact e26 _ _ hr2
    · refine Paired.mapP (hts2.ex e26) fun y x ⟨u, ey, hu⟩ => ⟨u, ey, ?_⟩
      rw [upd_ne (ne_of hu hp6 fun z => by cases z)]
      exact hu
  · rintro r ys σ H2 ⟨v2, v3, v4, kvs, rfl, e2, hp2, hkl, hkv, hr2, hts2, hrp⟩
    rw [List.take_length] at hkv
    refine s_ret (ev_var rfl) fun H3 e3 => q p H3 hp (e2.trans e3) ⟨kvs, e3 _ _ hp2, fun s x hx => ?_⟩
    obtain ⟨t, ht, rfl⟩ := Option.map_eq_some_iff.mp hx
    obtain ⟨b, h1, h2, _⟩ := hkv s t ht
    exact ⟨b, h1, e3 _ _ h2⟩
end
end Gz
end

/-! ## W12 -/
section
set_option Elab.async false
set_option linter.all false
set_option maxRecDepth 100000
set_option maxHeartbeats 4000000
namespace Gz
open PySem PySem.Spec PyProof.Rows L2 Evl
open SwSqueeze (classOf bitsLow bitsHigh)
section
variable {P : Program} {w : World} {K : PySem.W.Frag} {mg : Str → Option Value} {base : Heap} {f : Addr} {fd : FuncData} {aM : Addr}
/-! ### step_bits -/
/-- the words a step needs are there -/
def StepW (c d : List Nat) : SwSqueeze.Step → Prop
  | .letter x => ∃ u, wordOf c x.toNat = some u
  | .match_ l k => (∃ u, wordOf c (256 + classOf (l - 3)) = some u) ∧ ∃ u, wordOf d (classOf (k - 1)) = some u
def spStepBits : Sp := fun vs H Q _ => ∃ (a b c : Addr) (t : List UInt8) (l : List SwSqueeze.Step) (cl dl : List Nat), vs = [.ref a, .ref b, .ref c] ∧ PairL H a (encs l) ∧ DW H b cl ∧ DW H c dl ∧ t.length ≤ 1024 ∧ l.length ≤ 1024 ∧ (∀ s ∈ l, StepIn t s ∧ StepW cl dl s) ∧ RetN (ts (l.flatMap (bitsOf cl dl))) H Q
theorem stepIn_small {t : List UInt8} {x d : Nat} (ht : t.length ≤ 1024) (h : StepIn t (.match_ x d)) : 3 ≤ x ∧ x ≤ 258 ∧ 1 ≤ d ∧ d ≤ 1024 ∧ classOf (x - 3) ≤ 8 ∧ classOf (d - 1) ≤ 10 := by
  obtain ⟨p, hok⟩ := h
  obtain ⟨h3, h258, hpl, h1d, hdp⟩ := id hok
  have := class_le (v := x - 3) (k := 8) (by omega)
  have := class_le (v := d - 1) (k := 10) (by omega)
  omega
theorem bitsOf_len {t : List UInt8} {cl dl : List Nat} {s : SwSqueeze.Step} (ht : t.length ≤ 1024) (h : StepIn t s) : (bitsOf cl dl s).length ≤ 50 := by
  have hw : ∀ ls x, ((wordOf ls x).getD []).length ≤ 15 := fun ls x => by
    cases h : wordOf ls x with
    | none => exact Nat.zero_le _
    | some u => exact wordOf_len h
  cases s with
  | letter x => exact Nat.le_trans (hw cl _) (by decide)
  | match_ x d =>
    have h1 := stepIn_small ht h
    have h2 := hw cl (256 + classOf (x - 3))
    have h3 := hw dl (classOf (d - 1))
    show (_ ++ (_ ++ (_ ++ _)) : List Bool).length ≤ 50
    rw [List.length_append, List.length_append, List.length_append, bitsLow_length, bitsLow_length]
    unfold SwSqueeze.further
    omega
theorem flatBits_len {t : List UInt8} {cl dl : List Nat} (ht : t.length ≤ 1024) : ∀ {l : List SwSqueeze.Step}, (∀ s ∈ l, StepIn t s) → (l.flatMap (bitsOf cl dl)).length ≤ 50 * l.length
  | [], _ => Nat.le_refl _
  | s :: l, h => by
    rw [List.flatMap_cons, List.length_append, List.length_cons]
    have h1 := bitsOf_len (cl := cl) (dl := dl) ht (h s List.mem_cons_self)
    have h2 := flatBits_len (cl := cl) (dl := dl) ht (l := l) fun s hs => h s (List.mem_cons_of_mem _ hs)
    omega
theorem ok_step_bits (T : Gs K mg aM) (D_class_of : Def P w K mg base CX0 1 "class_of" ["number"] spClass) (D_further : Def P w K mg base CX0 1 "further" ["group"] spFurther) (D_low_first : Def P w K mg base CX0 1 "low_first" ["number", "count"] spLow)
    (F : Fun K "step_bits" "step_bits" s_step_bits f fd) : FnOk P w K mg base CX0 2 f fd ["steps", "symbols", "classes"] spStepBits := by
  refine F.ok sc_step_bits (fun vs H Q E h => ?_) (fun cdv A outer s H vs Q E hr h => ?_)
  · obtain ⟨a, b, c, t, l, cl, dl, rfl, _⟩ := h
    rfl
  obtain ⟨a, b, c, t, l, cl, dl, rfl, hP, hB, hC, ht, hl, hin, q⟩ := h
  refine ⟨_, (pss_cons (ps_set (i := 3) sc_step_bits.nd rfl (Or.inl rfl) (pe_lst pa_nil))
    (pss_cons (ps_for PassesOwn.never rfl (pi_list (pv 0)) (pg_tup rfl (pgs_cons (pg_name (i := 4) sc_step_bits.nd rfl (Or.inl rfl) (Or.inl rfl)) (pgs_cons (pg_name (i := 5) sc_step_bits.nd rfl (Or.inl rfl) (Or.inl rfl)) pgs_nil)))
      (pss_one (ps_if (pt_cmpR op_eq (pv 4) pe_int (nomark _))
      (pss_one (ps_expr (pe_bm PySem.F.plainAttrs_list PySem.F.slot_list_extend PySem.F.type_list_extend mt_extend (pv 3) (pa_cons (pe_dget (u1 hr) (pv 1) (pv 5) (fun _ _ => rfl)) pa_nil))))
      (pss_cons (ps_set (i := 6) sc_step_bits.nd rfl (Or.inl rfl) (pe_callD D_class_of hr rfl pass0 (pa_cons (pe_op op_sub (pv 4) (pe_k T.LEAST)) pa_nil)))
    (pss_cons (ps_expr (pe_bm PySem.F.plainAttrs_list PySem.F.slot_list_extend PySem.F.type_list_extend mt_extend (pv 3) (pa_cons (pe_dget (u1 hr) (pv 1) (pe_op op_add (pe_k T.LETTERS) (pv 6)) (fun _ _ => rfl)) pa_nil)))
    (pss_cons (ps_expr (pe_bm PySem.F.plainAttrs_list PySem.F.slot_list_extend PySem.F.type_list_extend mt_extend (pv 3) (pa_cons (pe_callD D_low_first hr rfl pass0 (pa_cons (pe_op op_sub (pv 4) (pe_k T.LEAST)) (pa_cons (pe_callD D_further hr rfl pass0 (pa_cons (pv 6) pa_nil)) pa_nil))) pa_nil)))
    (pss_cons (ps_set (i := 6) sc_step_bits.nd rfl (Or.inl rfl) (pe_callD D_class_of hr rfl pass0 (pa_cons (pe_op op_sub (pv 5) pe_int) pa_nil)))
    (pss_cons (ps_expr (pe_bm PySem.F.plainAttrs_list PySem.F.slot_list_extend PySem.F.type_list_extend mt_extend (pv 3) (pa_cons (pe_dget (u1 hr) (pv 2) (pv 6) (fun _ _ => rfl)) pa_nil)))
    (pss_one (ps_expr (pe_bm PySem.F.plainAttrs_list PySem.F.slot_list_extend PySem.F.type_list_extend mt_extend (pv 3) (pa_cons (pe_callD D_low_first hr rfl pass0 (pa_cons (pe_op op_sub (pv 5) pe_int) (pa_cons (pe_callD D_further hr rfl pass0 (pa_cons (pv 6) pa_nil)) pa_nil))) pa_nil))))))))))))
    (pss_one (ps_ret (pv 3))))), ?_⟩
  refine q_asgL (el_lst ea_nil (by decide)) fun p H1 hp e1 h1 => ?_
  have hel : (encs l).length = l.length := List.length_map ..
  have flen : ∀ k, ((l.take k).flatMap (bitsOf cl dl)).length ≤ 50 * 1024 := fun k => by
    have := flatBits_len (cl := cl) (dl := dl) ht (l := l.take k) fun s hs => (hin s (List.mem_of_mem_take hs)).1
    rw [List.length_take] at this
    omega
  refine q_forPA (ps := encs l) (H0 := H) (ev_var rfl) hP e1 (fun k σ H' => ∃ v4 v5 v6, σ = [some (.ref a), some (.ref b), some (.ref c), some (.ref p), v4, v5, v6] ∧ Ex H H' ∧ H' p = some (.lst (nvs (ts ((l.take k).flatMap (bitsOf cl dl))))))
    (fun H3 e3 => ⟨none, none, none, rfl, e1.trans e3, e3 _ _ h1⟩) (fun k σ' H' ⟨_, _, _, _, h, _⟩ => h) ?_ ?_
  · rintro k q0 σ H3 hq ⟨v4, v5, v6, rfl, e3, h3⟩
    obtain ⟨s, hs, rfl⟩ := encs_get hq
    obtain ⟨hok, hw⟩ := hin s (List.mem_of_getElem? hs)
    have htk : (l.take (k + 1)).flatMap (bitsOf cl dl) = (l.take k).flatMap (bitsOf cl dl) ++ bitsOf cl dl s := by
      rw [take_more hs, List.flatMap_append]
      simp
    have hfl := flen (k + 1)
    rw [htk, List.length_append] at hfl
    rw [htk]
    generalize (l.take k).flatMap (bitsOf cl dl) = B at h3 hfl
    refine s_if (et_test (ev_eqI (ev_var rfl) ev_c)) (fun hd H4 e4 => ?_) (fun hd H4 e4 => ?_)
    · cases s with
      | match_ x d =>
        obtain ⟨p, h3, _⟩ := hok
        have hd : x = 0 := by have := of_decide_eq_true hd; have h5 : ((x : Nat) : Int) = 0 := this; omega
        omega
      | letter x =>
        obtain ⟨u, hu⟩ := hw
        obtain ⟨kvs, hk1, hk2⟩ := hB.ex (e3.trans e4)
        obtain ⟨y, hy1, hy2⟩ := hk2 _ _ hu
        have hbo : bitsOf cl dl (.letter x) = u := by show (wordOf cl x.toNat).getD [] = u; rw [hu]; rfl
        rw [hbo] at hfl
        rw [hbo]
        refine s_extS (e4 _ _ h3) (ev_var rfl) (ev_dget (ev_var rfl) (ev_var rfl) hk1 hy1) hy2 ?_ fun H5 e5 => ⟨_, _, _, rfl, Ex.mut ((e3.trans e4).trans e5) hp, ?_⟩
        · rw [nvs_length, ts_length, nvs_length, ts_length]
          exact sz_of (by omega)
        · rw [upd_same, ← nvs_append, ← ts_append]
    · cases s with
      | letter x => exact absurd rfl (of_decide_eq_false hd)
      | match_ x d =>
        have hen1 : (enc (.match_ x d)).1 = x := rfl
        have hen2 : (enc (.match_ x d)).2 = d := rfl
        obtain ⟨g1, g2, g3, g4, g5, g6⟩ := stepIn_small ht hok
        obtain ⟨⟨u, hu⟩, ⟨z, hz⟩⟩ := hw
        have hbo : bitsOf cl dl (.match_ x d) = u ++ (bitsLow (classOf (x - 3) - 1) (x - 3) ++ (z ++ bitsLow (classOf (d - 1) - 1) (d - 1))) := by
          show (wordOf cl _).getD [] ++ (_ ++ ((wordOf dl _).getD [] ++ _)) = _
          rw [hu, hz]
          rfl
        have hul := wordOf_len hu
        have hzl := wordOf_len hz
        rw [hbo, List.length_append, List.length_append, List.length_append, bitsLow_length, bitsLow_length] at hfl
        rw [hbo]
        refine q_asg (v := nv (classOf (x - 3))) (ev_call (ea_cons (ev_is (w := nv (x - 3)) (ev_I0 (ev_var rfl) ev_c) (by show V.int _ = V.int _; congr 1; omega)) ea_nil) fun H5 e5 Q5 q5 E5 => ⟨x - 3, rfl, q5⟩) fun H5 e5 => ?_
        have e35 := (e3.trans e4).trans e5
        obtain ⟨kvs, hk1, hk2⟩ := hB.ex e35
        obtain ⟨y, hy1, hy2⟩ := hk2 _ _ hu
        refine q_extS ((e4.trans e5) _ _ h3) (ev_var rfl) (ev_dget (i := ((256 + classOf (x - 3) : Nat) : Int)) (ev_var rfl) (ev_is (ev_I0 ev_c (ev_var rfl)) (by show V.int _ = V.int _; congr 1)) hk1 hy1) hy2 ?_ fun H6 e6 => ?_
        · rw [nvs_length, ts_length, nvs_length, ts_length]
          exact sz_of (by omega)
        rw [← nvs_append, ← ts_append]
        have x6 := Ex.mut (e35.trans e6) hp (o := .lst (nvs (ts (B ++ u))))
        refine q_ext (xs := nvs (ts (B ++ u))) (ys := nvs (ts (bitsLow (classOf (x - 3) - 1) (x - 3)))) upd_same (ev_var rfl) (el_call (ea_cons (ev_is (w := nv (x - 3)) (ev_I0 (ev_var rfl) ev_c) (by show V.int _ = V.int _; congr 1; omega)) (ea_cons (ev_call (ea_cons (ev_var rfl) ea_nil) fun H5 e5 Q5 q5 E5 => ⟨_, rfl, q5⟩) ea_nil)) fun H7 e7 Q7 q7 E7 => ⟨x - 3, classOf (x - 3) - 1, rfl, by omega, q7⟩) ?_ fun H7 e7 => ?_
        · rw [nvs_length, ts_length, nvs_length, ts_length, List.length_append, bitsLow_length]
          exact sz_of (by omega)
        rw [← nvs_append, ← ts_append]
        have x7 := Ex.mut (x6.trans e7) hp (o := .lst (nvs (ts (B ++ u ++ bitsLow (classOf (x - 3) - 1) (x - 3)))))
        refine q_asg (v := nv (classOf (d - 1))) (ev_call (ea_cons (ev_is (w := nv (d - 1)) (ev_I0 (ev_var rfl) ev_c) (by show V.int _ = V.int _; congr 1; omega)) ea_nil) fun H5 e5 Q5 q5 E5 => ⟨d - 1, rfl, q5⟩) fun H8 e8 => ?_
        have x8 := x7.trans e8
        obtain ⟨kvs2, hk3, hk4⟩ := hC.ex x8
        obtain ⟨y2, hy3, hy4⟩ := hk4 _ _ hz
        refine q_extS (xs := nvs (ts (B ++ u ++ bitsLow (classOf (x - 3) - 1) (x - 3)))) (e8 _ _ upd_same) (ev_var rfl) (ev_dget (ev_var rfl) (ev_var rfl) hk3 hy3) hy4 ?_ fun H9 e9 => ?_
        · rw [nvs_length, ts_length, nvs_length, ts_length, List.length_append, List.length_append, bitsLow_length]
          exact sz_of (by omega)
        rw [← nvs_append, ← ts_append]
        have x9 := Ex.mut (x8.trans e9) hp (o := .lst (nvs (ts (B ++ u ++ bitsLow (classOf (x - 3) - 1) (x - 3) ++ z))))
        refine s_ext (xs := nvs (ts (B ++ u ++ bitsLow (classOf (x - 3) - 1) (x - 3) ++ z))) (ys := nvs (ts (bitsLow (classOf (d - 1) - 1) (d - 1)))) upd_same (ev_var rfl) (el_call (ea_cons (ev_is (w := nv (d - 1)) (ev_I0 (ev_var rfl) ev_c) (by show V.int _ = V.int _; congr 1; omega)) (ea_cons (ev_call (ea_cons (ev_var rfl) ea_nil) fun H5 e5 Q5 q5 E5 => ⟨_, rfl, q5⟩) ea_nil)) fun H7 e7 Q7 q7 E7 => ⟨d - 1, classOf (d - 1) - 1, rfl, by omega, q7⟩) ?_ fun H10 e10 => ⟨_, _, _, rfl, Ex.mut (x9.trans e10) hp, ?_⟩
        · rw [nvs_length, ts_length, nvs_length, ts_length, List.length_append, List.length_append, List.length_append, bitsLow_length, bitsLow_length]
          exact sz_of (by omega)
        · rw [upd_same, ← nvs_append, ← ts_append]
          simp only [List.append_assoc]
  · rintro σ H3 ⟨v4, v5, v6, rfl, e3, h3⟩
    rw [hel, List.take_length] at h3
    exact s_ret (ev_var rfl) fun H4 e4 => q p H4 hp (e3.trans e4) (e4 _ _ h3)
/-! ### coded -/
def spCoded : Sp := fun vs H Q _ => ∃ (a : Addr) (t : List UInt8), vs = [.ref a] ∧ H a = some (.lst (nvs (bs t))) ∧ t.length ≤ 1024 ∧ 1 ≤ t.length ∧ RetN (bs (SwSqueeze.coded t.length (SwSqueeze.parse t))) H Q
theorem step_words {t : List UInt8} (ht : t.length ≤ 1024) {l : List SwSqueeze.Step} (hin : ∀ s ∈ l, StepIn t s) : ∀ s ∈ l, StepW (SwSqueeze.lengths (SwSqueeze.often l)) (SwSqueeze.lengths (SwSqueeze.oftenD l)) s := by
  intro s hs
  rw [often_eq ht hin, oftenD_eq ht hin]
  have hc : ∀ N (T : List Nat) x, x ∈ T → x < N → ∃ u, wordOf (SwSqueeze.lengths (tally N T)) x = some u := fun N T x hx hN => by
    refine wordOf_some (lengths_pos _ ?_) (lengths_le _)
    rw [tally_getD hN]
    exact List.count_pos_iff.mpr hx
  cases s with
  | letter x => exact hc 265 _ _ (List.mem_map.mpr ⟨_, hs, rfl⟩) (by have := x.toNat_lt; omega)
  | match_ x d =>
    have h1 := stepIn_small ht (hin _ hs)
    exact ⟨hc 265 _ _ (List.mem_map.mpr ⟨_, hs, rfl⟩) (by omega), hc 11 _ _ (List.mem_filterMap.mpr ⟨_, hs, rfl⟩) (by omega)⟩
theorem toldLengths_len : ∀ (f : Nat) (l : List Nat), (SwSqueeze.toldLengths f l).length ≤ 12 * l.length
  | 0, _ => Nat.zero_le _
  | _ + 1, [] => Nat.zero_le _
  | f + 1, n :: l => by
    by_cases hn : n ≠ 0
    · have ih := toldLengths_len f l
      have : SwSqueeze.toldLengths (f + 1) (n :: l) = bitsLow 4 n ++ SwSqueeze.toldLengths f l := by
        show (if n ≠ 0 then _ else _) = _
        rw [if_pos hn]
      rw [this, List.length_append, bitsLow_length, List.length_cons]
      omega
    · have hn : n = 0 := by omega
      subst hn
      rw [toldLengths_zero, List.length_append, List.length_append, bitsLow_length, bitsLow_length]
      have ih := toldLengths_len f ((0 :: l).drop (min 256 (((0 :: l).takeWhile fun (m : Nat) => m == 0).length)))
      have h1 : 1 ≤ ((0 :: l).takeWhile fun (m : Nat) => m == 0).length := by simp
      rw [List.length_drop, List.length_cons] at ih
      rw [List.length_cons]
      omega
theorem coded_bs {t : List UInt8} (ht : t.length ≤ 1024) : bs (SwSqueeze.coded t.length (SwSqueeze.parse t)) = bytesN (blockBits t) (((blockBits t).length + 7) / 8) := by
  rw [coded_eq ht]
  exact toBytes_toNat _ _
theorem ok_coded (T : Gs K mg aM) (D_parse_of : Def P w K mg base CX0 4 "parse_of" ["text"] spParse) (D_counted : Def P w K mg base CX0 2 "counted" ["steps"] spCounted) (D_lengths_of : Def P w K mg base CX0 3 "lengths_of" ["often"] (spLengthsOf K))
    (D_low_first : Def P w K mg base CX0 1 "low_first" ["number", "count"] spLow) (D_length_bits : Def P w K mg base CX0 3 "length_bits" ["lengths"] (spLenBits K)) (D_step_bits : Def P w K mg base CX0 2 "step_bits" ["steps", "symbols", "classes"] spStepBits)
    (D_words_of : Def P w K mg base CX0 2 "words_of" ["lengths"] (spWords K)) (D_in_bytes : Def P w K mg base CX0 1 "in_bytes" ["bits"] (spBytes K)) (F : Fun K "coded" "coded" s_coded f fd) : FnOk P w K mg base CX0 5 f fd ["text"] spCoded := by
  refine F.ok sc_coded (fun vs H Q E h => ?_) (fun cdv A outer s H vs Q E hr h => ?_)
  · obtain ⟨a, t, rfl, _⟩ := h
    rfl
  obtain ⟨a, t, rfl, hSa, ht, ht1, q⟩ := h
  rw [coded_bs ht] at q
  refine ⟨_, (pss_cons (ps_set (i := 1) sc_coded.nd rfl (Or.inl rfl) (pe_callD D_parse_of hr rfl pass0 (pa_cons (pv 0) pa_nil)))
    (pss_cons (ps_asg (pe_callD D_counted hr rfl pass0 (pa_cons (pv 1) pa_nil)) (pg_tup rfl (pgs_cons (pg_name (i := 2) sc_coded.nd rfl (Or.inl rfl) (Or.inl rfl)) (pgs_cons (pg_name (i := 3) sc_coded.nd rfl (Or.inl rfl) (Or.inl rfl)) pgs_nil))))
    (pss_cons (ps_set (i := 4) sc_coded.nd rfl (Or.inl rfl) (pe_callD D_lengths_of hr rfl pass0 (pa_cons (pv 2) pa_nil)))
    (pss_cons (ps_set (i := 5) sc_coded.nd rfl (Or.inl rfl) (pe_callD D_lengths_of hr rfl pass0 (pa_cons (pv 3) pa_nil)))
    (pss_cons (ps_set (i := 6) sc_coded.nd rfl (Or.inl rfl) (pe_callD D_low_first hr rfl pass0 (pa_cons (pe_op op_sub (pe_callB call_len_seq (by rfl) T.b_len (by decide +kernel) (pa_cons (pv 0) pa_nil)) pe_int) (pa_cons pe_int pa_nil))))
    (pss_cons (ps_expr (pe_bm PySem.F.plainAttrs_list PySem.F.slot_list_extend PySem.F.type_list_extend mt_extend (pv 6) (pa_cons (pe_callD D_length_bits hr rfl pass0 (pa_cons (pe_op op_cat (pv 4) (pv 5)) pa_nil)) pa_nil)))
    (pss_cons (ps_expr (pe_bm PySem.F.plainAttrs_list PySem.F.slot_list_extend PySem.F.type_list_extend mt_extend (pv 6) (pa_cons (pe_callD D_step_bits hr rfl pass0 (pa_cons (pv 1) (pa_cons (pe_callD D_words_of hr rfl pass0 (pa_cons (pv 4) pa_nil)) (pa_cons (pe_callD D_words_of hr rfl pass0 (pa_cons (pv 5) pa_nil)) pa_nil)))) pa_nil)))
    (pss_one (ps_ret (pe_callD D_in_bytes hr rfl pass0 (pa_cons (pv 6) pa_nil))))))))))), ?_⟩
  have hin := (parse_goes t).each
  have hpl := (parse_goes t).length
  have hsw := step_words ht hin
  have hc : (SwSqueeze.lengths (SwSqueeze.often (SwSqueeze.parse t))).length = 265 := by rw [lengths_length, often_eq ht hin, tally_length]
  have hd : (SwSqueeze.lengths (SwSqueeze.oftenD (SwSqueeze.parse t))).length = 11 := by rw [lengths_length, oftenD_eq ht hin, tally_length]
  have ho : (SwSqueeze.often (SwSqueeze.parse t)).length = 265 := by rw [often_eq ht hin, tally_length]
  have hoD : (SwSqueeze.oftenD (SwSqueeze.parse t)).length = 11 := by rw [oftenD_eq ht hin, tally_length]
  have hc15 : ∀ n ∈ SwSqueeze.lengths (SwSqueeze.often (SwSqueeze.parse t)), n ≤ 15 := lengths_le _
  have hd15 : ∀ n ∈ SwSqueeze.lengths (SwSqueeze.oftenD (SwSqueeze.parse t)), n ≤ 15 := lengths_le _
  have hfl := flatBits_len (cl := SwSqueeze.lengths (SwSqueeze.often (SwSqueeze.parse t))) (dl := SwSqueeze.lengths (SwSqueeze.oftenD (SwSqueeze.parse t))) ht hin
  unfold blockBits at q
  simp only at q
  generalize hl : SwSqueeze.parse t = l at hin hpl hsw hc hd ho hoD hc15 hd15 hfl q
  -- steps
  refine q_raw (call_raw ?_)
  refine (ea_cons (ev_var rfl) ea_nil) H (Ex.refl _) _ fun H1 e1 => ?_
  refine ⟨a, t, rfl, e1 _ _ hSa, ht, fun st H2 hst e2 h2 => ?_⟩
  rw [hl] at h2
  -- symbols, classes
  refine qg_raw (call_raw ?_)
  refine (ea_cons (ev_var rfl) ea_nil) H2 (Ex.refl _) _ fun H3 e3 => ?_
  refine ⟨st, t, l, rfl, h2.ex e3, ht, by omega, hin, fun u b c H4 hu hb hc4 e4 h4 hb4 hcc4 => ?_⟩
  refine g_pairV h4 ?_
  have e24 := e3.trans e4
  show tSeq _ _ _ _ _
  -- first
  refine q_asgL (xs := nvs (SwSqueeze.lengths (SwSqueeze.often l))) (el_call (ea_cons (ev_var rfl) ea_nil) fun H5 e5 Q5 q5 E5 => ⟨b, _, rfl, sq_of (e5 _ _ hb4), by omega, q5⟩) fun x H5 hx e5 h5 => ?_
  refine q_asgL (xs := nvs (SwSqueeze.lengths (SwSqueeze.oftenD l))) (el_call (ea_cons (ev_var rfl) ea_nil) fun H6 e6 Q5 q5 E5 => ⟨c, _, rfl, sq_of ((e5.trans e6) _ _ hcc4), by omega, q5⟩) fun y H6 hy e6 h6 => ?_
  -- bits
  have e16 := (((e1.trans e2).trans e24).trans e5).trans e6
  refine q_asgL (xs := nvs (ts (bitsLow 10 (t.length - 1)))) (el_call (ea_cons (ev_is (w := nv (t.length - 1)) (ev_I0 (ev_lenT (ev_var rfl) (sq_of (e16 _ _ hSa))) ev_c) (by show V.int _ = V.int _; congr 1; omega)) (ea_cons ev_c ea_nil)) fun H7 e7 Q5 q5 E5 => ⟨_, 10, rfl, by decide, q5⟩) fun p H7 hp e7 h7 => ?_
  have hpH : H p = none := fresh_back e16 hp
  have hb10 := bitsLow_length 10 (t.length - 1)
  have htl := toldLengths_len ((SwSqueeze.lengths (SwSqueeze.often l) ++ SwSqueeze.lengths (SwSqueeze.oftenD l)).length + 1) (SwSqueeze.lengths (SwSqueeze.often l) ++ SwSqueeze.lengths (SwSqueeze.oftenD l))
  rw [List.length_append, hc, hd] at htl
  have htl : (told (SwSqueeze.lengths (SwSqueeze.often l) ++ SwSqueeze.lengths (SwSqueeze.oftenD l))).length ≤ 12 * 276 := by
    unfold told
    rw [List.length_append, hc, hd]
    exact htl
  -- the lengths
  refine q_ext (xs := nvs (ts (bitsLow 10 (t.length - 1)))) (ys := nvs (ts (told (SwSqueeze.lengths (SwSqueeze.often l) ++ SwSqueeze.lengths (SwSqueeze.oftenD l))))) h7 (ev_var rfl) (fun H8 e8 Q5 q5 => ?_) ?_ fun H8 e8 => ?_
  · refine call_raw (cons_raw ?_)
    refine (el_catSS (ev_var rfl) (ev_var rfl) ((e6.trans e7) _ _ h5) (e7 _ _ h6) ?_) H8 e8 _ fun z H9 hz e9 h9 => ?_
    · rw [nvs_length, nvs_length, hc, hd]
      exact sz_of (by decide)
    · rw [← nvs_append] at h9
      refine ⟨z, _, rfl, sq_of h9, ?_, fun r H10 hr10 e10 h10 => q5 r H10 (fresh_back e9 hr10) (e9.trans e10) h10⟩
      rw [List.length_append, hc, hd]
      decide
  · rw [nvs_length, ts_length, nvs_length, ts_length]
    exact sz_of (by omega)
  rw [← nvs_append, ← ts_append]
  -- the steps
  have hx8 : Ex H6 (upd H8 p (.lst (nvs (ts (bitsLow 10 (t.length - 1) ++ told (SwSqueeze.lengths (SwSqueeze.often l) ++ SwSqueeze.lengths (SwSqueeze.oftenD l))))))) := Ex.mut (e7.trans e8) hp
  refine q_ext (xs := nvs (ts (bitsLow 10 (t.length - 1) ++ told (SwSqueeze.lengths (SwSqueeze.often l) ++ SwSqueeze.lengths (SwSqueeze.oftenD l))))) (ys := nvs (ts (l.flatMap (bitsOf (SwSqueeze.lengths (SwSqueeze.often l)) (SwSqueeze.lengths (SwSqueeze.oftenD l)))))) upd_same (ev_var rfl) (fun H9 e9 Q5 q5 => ?_) ?_ fun H9 e9 => ?_
  · refine call_raw (cons_raw ?_)
    have x9 := hx8.trans e9
    refine (ev_var (v := .ref st) rfl) H9 (Ex.refl _) _ fun H10 e10 => ?_
    refine cons_raw (call_raw ?_)
    refine (ea_cons (ev_var (v := .ref x) rfl) ea_nil) H10 (Ex.refl _) _ fun H11 e11 => ?_
    have x11 := (x9.trans e10).trans e11
    refine ⟨x, _, rfl, sq_of (x11 _ _ (e6 _ _ h5)), by omega, hc15, fun d1 H12 hd1 e12 h12 => ?_⟩
    refine cons_raw (call_raw ?_)
    refine (ea_cons (ev_var (v := .ref y) rfl) ea_nil) H12 (Ex.refl _) _ fun H13 e13 => ?_
    have x13 := (x11.trans e12).trans e13
    refine ⟨y, _, rfl, sq_of (x13 _ _ h6), by omega, hd15, fun d2 H14 hd2 e14 h14 => ?_⟩
    have x14 := x13.trans e14
    have y14 := (((e10.trans e11).trans e12).trans e13).trans e14
    exact ⟨st, d1, d2, t, l, _, _, rfl, h2.ex (((e24.trans e5).trans e6).trans x14), h12.ex (e13.trans e14), h14, ht, by omega, fun s hs => ⟨hin s hs, hsw s hs⟩, fun r H15 hr15 e15 h15 => q5 r H15 (fresh_back y14 hr15) (y14.trans e15) h15⟩
  · rw [nvs_length, ts_length, nvs_length, ts_length, List.length_append]
    exact sz_of (by omega)
  rw [← nvs_append, ← ts_append]
  refine s_retL (el_call (xs := nvs (bytesN (bitsLow 10 (t.length - 1) ++ told (SwSqueeze.lengths (SwSqueeze.often l) ++ SwSqueeze.lengths (SwSqueeze.oftenD l)) ++ l.flatMap (bitsOf (SwSqueeze.lengths (SwSqueeze.often l)) (SwSqueeze.lengths (SwSqueeze.oftenD l)))) _)) (ea_cons (ev_var rfl) ea_nil) fun H10 e10 Q5 q5 E5 => ⟨p, _, rfl, sq_of (e10 _ _ upd_same), ?_, q5⟩) fun r H10 hr10 e10 h10 => ?_
  · rw [List.length_append, List.length_append]
    omega
  · have xx : Ex H (upd H9 p (.lst (nvs (ts (bitsLow 10 (t.length - 1) ++ told (SwSqueeze.lengths (SwSqueeze.often l) ++ SwSqueeze.lengths (SwSqueeze.oftenD l)) ++ l.flatMap (bitsOf (SwSqueeze.lengths (SwSqueeze.often l)) (SwSqueeze.lengths (SwSqueeze.oftenD l)))))))) := Ex.mut ((e16.trans hx8).trans e9) hpH
    exact q r H10 (fresh_back xx hr10) (xx.trans e10) h10
end
end Gz
end

/-! ## W13 -/
section
set_option Elab.async false
set_option linter.all false
set_option maxRecDepth 100000
set_option maxHeartbeats 4000000
namespace Gz
open PySem PySem.Spec PyProof.Rows L2 Evl
open SwSqueeze (classOf bitsLow bitsHigh)
section
variable {P : Program} {w : World} {K : PySem.W.Frag} {mg : Str → Option Value} {base : Heap} {f : Addr} {fd : FuncData} {aM : Addr}
theorem tb_raw {te : TE} {σ : L2.St} {H : Hp} {Q : Bool → Hp → Prop} (h : te σ H fun x H1 => ∃ d, x = .bl d ∧ Q d H1) : tB te σ H Q := h
theorem dn_raw {td ty : TE} {σ : L2.St} {H : Hp} {Q : VK} (h : ty σ H fun y H1 => td σ H1 fun x H2 => ∃ a o, x = .ref a ∧ DGet H2 a y o ∧ Q (.bl (!o.isSome)) H2) : tDNotIn ty td σ H Q := h
theorem di_raw {td ty : TE} {σ : L2.St} {H : Hp} {Q : VK} (h : ty σ H fun y H1 => td σ H1 fun x H2 => ∃ a o, x = .ref a ∧ DGet H2 a y o ∧ Q (.bl o.isSome) H2) : tDIn ty td σ H Q := h
theorem dg_raw {td ty : TE} {σ : L2.St} {H : Hp} {Q : VK} (h : td σ H fun x H1 => ty σ H1 fun y H2 => ∃ a v, x = .ref a ∧ DGet H2 a y (some v) ∧ Q v H2) : tDGet td ty σ H Q := h
theorem dp_raw {td ty tv : TE} {σ : L2.St} {H : Hp} {D : Ends} (h : tv σ H fun v H1 => td σ H1 fun x H2 => ty σ H2 fun y H3 => ∃ a H4, x = .ref a ∧ DPut H3 a y v H4 ∧ D.nx σ H4) : sDPut td ty tv D σ H := h
/-! ### block_of -/
def spBlock : Sp := fun vs H Q _ => ∃ (a : Addr) (t : List UInt8), vs = [.ref a] ∧ H a = some (.lst (nvs (bs t))) ∧ t.length ≤ 1024 ∧ 1 ≤ t.length ∧ RetN (bs (SwSqueeze.blockOf t)) H Q
theorem ok_block_of (T : Gs K mg aM) (D_coded : Def P w K mg base CX0 5 "coded" ["text"] spCoded) (D_told : Def P w K mg base CX0 1 "told" ["number", "count"] spTold) (F : Fun K "block_of" "block_of" s_block_of f fd) : FnOk P w K mg base CX0 6 f fd ["text"] spBlock := by
  refine F.ok sc_block_of (fun vs H Q E h => ?_) (fun cdv A outer s H vs Q E hr h => ?_)
  · obtain ⟨a, t, rfl, _⟩ := h
    rfl
  obtain ⟨a, t, rfl, hSa, ht, ht1, q⟩ := h
  rw [blockOf_eq] at q
  refine ⟨_, (pss_cons (ps_set (i := 1) sc_block_of.nd rfl (Or.inl rfl) (pe_callD D_coded hr rfl pass0 (pa_cons (pv 0) pa_nil)))
    (pss_cons (ps_if (pt_cmpR op_lt (pe_callB call_len_seq (by rfl) T.b_len (by decide +kernel) (pa_cons (pv 1) pa_nil)) (pe_callB call_len_seq (by rfl) T.b_len (by decide +kernel) (pa_cons (pv 0) pa_nil)) (nomark _))
      (pss_one (ps_ret (pe_op op_cat (pe_op op_cat (pe_callD D_told hr rfl pass0 (pa_cons (pe_op op_add (pe_callB call_len_seq (by rfl) T.b_len (by decide +kernel) (pa_cons (pv 1) pa_nil)) pe_int) (pa_cons pe_int pa_nil))) (pe_lst (pa_cons (pe_k T.CODED) pa_nil))) (pv 1))))
      pss_nil)
    (pss_one (ps_ret (pe_op op_cat (pe_op op_cat (pe_callD D_told hr rfl pass0 (pa_cons (pe_op op_add (pe_callB call_len_seq (by rfl) T.b_len (by decide +kernel) (pa_cons (pv 0) pa_nil)) pe_int) (pa_cons pe_int pa_nil))) (pe_lst (pa_cons (pe_k T.STORED) pa_nil))) (pv 0)))))), ?_⟩
  refine q_asgL (xs := nvs (bs (SwSqueeze.coded t.length (SwSqueeze.parse t)))) (el_call (ea_cons (ev_var rfl) ea_nil) fun H1 e1 Q1 q1 E1 => ⟨a, t, rfl, e1 _ _ hSa, ht, ht1, q1⟩) fun p H1 hp e1 h1 => ?_
  generalize SwSqueeze.coded t.length (SwSqueeze.parse t) = c at h1 q
  have hT : ∀ n {te : TE} {σ : L2.St} {H' : Hp}, Ev te σ H' (nv n) → EvL (tCall spTold [] E0 (tCons te (tCons (tC (.int 4)) tNil))) σ H' (nvs (bs (Sw.le 4 n))) := fun n {te σ H'} h => el_call (ea_cons h (ea_cons ev_c ea_nil)) fun H2 e2 Q2 q2 E2 => ⟨n, 4, rfl, by decide, q2⟩
  have l4 : ∀ n, (nvs (bs (Sw.le 4 n))).length = 4 := fun n => by rw [nvs_length, bs_length, le_length]
  refine q_when (b := decide (c.length < t.length)) (et_is (et_test (ev_I0 (ev_lenT (ev_var rfl) (sq_of h1)) (ev_lenT (ev_var rfl) (sq_of (e1 _ _ hSa))))) (by rw [decide_eq_decide]; omega)) (fun hb H2 e2 => ?_) (fun hb H2 e2 => ?_)
  · have hb := of_decide_eq_true hb
    rw [if_pos hb, bs_append, bs_append] at q
    refine s_retL (el_is (el_catS (el_cat (hT (c.length + 1) (ev_is (ev_I0 (ev_lenT (ev_var rfl) (sq_of (e2 _ _ h1))) ev_c) rfl)) (el_lst (ea_cons ev_c ea_nil) (Nat.le_of_ble_eq_true rfl)) (by rw [l4]; exact sz_of (by decide : 4 + 1 ≤ 100000))) (ev_var rfl) (e2 _ _ h1) ?_) ?_) fun r H3 hr3 e3 h3 => q r H3 (fresh_back (e1.trans e2) hr3) ((e1.trans e2).trans e3) h3
    · rw [List.length_append, l4, nvs_length, bs_length]
      exact sz_of (by show 4 + 1 + _ ≤ _; omega)
    · rw [nvs_append, nvs_append]
      rfl
  · have hb := of_decide_eq_false hb
    rw [if_neg hb, bs_append, bs_append] at q
    refine s_retL (el_is (el_catS (el_cat (hT (t.length + 1) (ev_is (ev_I0 (ev_lenT (ev_var rfl) (sq_of ((e1.trans e2) _ _ hSa))) ev_c) rfl)) (el_lst (ea_cons ev_c ea_nil) (Nat.le_of_ble_eq_true rfl)) (by rw [l4]; exact sz_of (by decide : 4 + 1 ≤ 100000))) (ev_var rfl) ((e1.trans e2) _ _ hSa) ?_) ?_) fun r H3 hr3 e3 h3 => q r H3 (fresh_back (e1.trans e2) hr3) ((e1.trans e2).trans e3) h3
    · rw [List.length_append, l4, nvs_length, bs_length]
      exact sz_of (by show 4 + 1 + _ ≤ _; omega)
    · rw [nvs_append, nvs_append]
      rfl
/-! ### beginning, ending -/
def spBegin : Sp := fun vs H Q _ => vs = [] ∧ RetN (bs (Sw.ascii "SWZ1")) H Q
theorem ok_beginning (T : Gs K mg aM) (F : Fun K "beginning" "beginning" s_beginning f fd) : FnOk P w K mg base CX0 1 f fd [] spBegin := by
  refine F.ok sc_beginning (fun vs H Q E h => ?_) (fun cdv A outer s H vs Q E hr h => ?_)
  · obtain ⟨rfl, _⟩ := h
    rfl
  obtain ⟨rfl, q⟩ := h
  refine ⟨_, (pss_one (ps_ret (pe_callTy call_list_of (by rfl) T.b_list (by decide +kernel) (pa_cons (pe_k T.MAGIC) pa_nil)))), ?_⟩
  have e : nvs (bs (Sw.ascii "SWZ1")) = [nv 83, nv 87, nv 90, nv 49] := by decide +kernel
  unfold RetN at q
  rw [e] at q
  refine s_retL (fun H1 e1 Q1 q1 => ?_) q
  refine cb_raw ((ea_cons ev_c ea_nil) H1 (Ex.refl _) _ fun H2 e2 => ?_)
  exact ⟨aM, _, rfl, .inr (T.magic H2), fun l hl => q1 l _ (fresh_back e2 hl) (e2.trans (Ex.new hl)) upd_same⟩
def spEnd : Sp := fun vs H Q _ => ∃ n : Nat, vs = [nv n] ∧ RetN (bs (Sw.le 4 0 ++ Sw.le 8 n)) H Q
theorem ok_ending (D_told : Def P w K mg base CX0 1 "told" ["number", "count"] spTold) (F : Fun K "ending" "ending" s_ending f fd) : FnOk P w K mg base CX0 2 f fd ["count"] spEnd := by
  refine F.ok sc_ending (fun vs H Q E h => ?_) (fun cdv A outer s H vs Q E hr h => ?_)
  · obtain ⟨n, rfl, _⟩ := h
    rfl
  obtain ⟨n, rfl, q⟩ := h
  refine ⟨_, (pss_one (ps_ret (pe_op op_cat (pe_lst (pa_cons pe_int (pa_cons pe_int (pa_cons pe_int (pa_cons pe_int pa_nil))))) (pe_callD D_told hr rfl pass0 (pa_cons (pv 0) (pa_cons pe_int pa_nil)))))), ?_⟩
  refine s_retL (el_is (el_cat (el_lst (ea_cons ev_c (ea_cons ev_c (ea_cons ev_c (ea_cons ev_c ea_nil)))) (Nat.le_of_ble_eq_true rfl)) (el_call (xs := nvs (bs (Sw.le 8 n))) (ea_cons (ev_var rfl) (ea_cons ev_c ea_nil)) fun H2 e2 Q2 q2 E2 => ⟨n, 8, rfl, by decide, q2⟩) ?_) ?_) q
  · rw [nvs_length, bs_length, le_length]
    exact sz_of (by decide : 4 + 8 ≤ 100000)
  · rw [bs_append, nvs_append]
    have : nvs (bs (Sw.le 4 0)) = [nv 0, nv 0, nv 0, nv 0] := by decide +kernel
    rw [this]
    rfl
/-! ### packed -/
def keysOf (c : List UInt8) : List Key := (bs c).map fun (n : Nat) => (.inl (n : Int) : Key)
theorem keysOf_V (c : List UInt8) : (keysOf c).map kV = nvs (bs c) := by
  unfold keysOf nvs
  rw [List.map_map]
  rfl
theorem keysOf_inj {a b : List UInt8} (h : keysOf a = keysOf b) : a = b := by
  have h1 := congrArg (List.map kV) h
  rw [keysOf_V, keysOf_V] at h1
  unfold nvs bs at h1
  rw [List.map_map, List.map_map] at h1
  refine (List.map_inj_right (f := nv ∘ UInt8.toNat) fun x y h => ?_).mp h1
  have : ((x.toNat : Nat) : Int) = (y.toNat : Int) := V.int.inj h
  exact UInt8.toNat_inj.mp (by omega)
def spPacked (K : PySem.W.Frag) : Sp := fun vs H Q _ => ∃ (a : Addr) (t : List UInt8), vs = [.ref a] ∧ SqL K H a (nvs (bs t)) ∧ t.length ≤ 16384000 ∧ RetN (bs (SwSqueeze.packed t)) H Q
theorem bs_flat (n : Nat) (g : Nat → List UInt8) : (List.range (n + 1)).flatMap g = (List.range n).flatMap g ++ g n := by
  rw [List.range_succ, List.flatMap_append]
  simp
theorem blocks_len (t : List UInt8) (n : Nat) : ((List.range n).flatMap fun j => SwSqueeze.blockOf (Sw.part t (1024 * j) 1024)).length ≤ n * 1029 := by
  have := flatMap_len_le (fun j => SwSqueeze.blockOf (Sw.part t (1024 * j) 1024)) 1029 (List.range n) fun j _ => by
    have h1 := blockOf_len (Sw.part t (1024 * j) 1024)
    have h2 := part_len_le t (1024 * j) 1024
    omega
  rw [List.length_range] at this
  exact this
theorem bs_part (t : List UInt8) (i n : Nat) : ((nvs (bs t)).drop i).take n = nvs (bs (Sw.part t i n)) := by
  unfold nvs bs Sw.part
  rw [List.map_take, List.map_drop, List.map_take, List.map_drop]
theorem ok_packed (T : Gs K mg aM) (D_beginning : Def P w K mg base CX0 1 "beginning" [] spBegin) (D_block_of : Def P w K mg base CX0 6 "block_of" ["text"] spBlock) (D_ending : Def P w K mg base CX0 2 "ending" ["count"] spEnd) (F : Fun K "packed" "packed" s_packed f fd) :
    FnOk P w K mg base CX0 7 f fd ["text"] (spPacked K) := by
  refine F.ok sc_packed (fun vs H Q E h => ?_) (fun cdv A outer s H vs Q E hr h => ?_)
  · obtain ⟨a, t, rfl, _⟩ := h
    rfl
  obtain ⟨a, t, rfl, hS, ht, q⟩ := h
  rw [packed_eq] at q
  refine ⟨_, (pss_cons (ps_set (i := 1) sc_packed.nd rfl (Or.inl rfl) (pe_callD0 D_beginning hr rfl pass0))
    (pss_cons (ps_set (i := 2) sc_packed.nd rfl (Or.inl rfl) pe_dnewT)
    (pss_cons (ps_for PassesOwn.never rfl (pi_range3 (by rfl) T.b_range (pa_cons pe_int (pa_cons (pe_callB call_len_seq (by rfl) T.b_len (by decide +kernel) (pa_cons (pv 0) pa_nil)) (pa_cons (pe_k T.BLOCK) pa_nil)))) (pg_name (i := 3) sc_packed.nd rfl (Or.inl rfl) (Or.inl rfl))
      (pss_cons (ps_set (i := 4) sc_packed.nd rfl (Or.inl rfl) (pe_slice sl_list (pv 0) (po_some (pv 3)) (po_some (pe_op op_add (pv 3) (pe_k T.BLOCK)))))
    (pss_cons (ps_set (i := 5) sc_packed.nd rfl (Or.inl rfl) (pe_callTy call_tuple_of (by rfl) T.b_tuple (by decide +kernel) (pa_cons (pv 4) pa_nil)))
    (pss_cons (ps_if (pt_cmp (pc_dnotin (u1 hr) (pv 5) (pv 2)))
      (pss_one (ps_dput (u1 hr) (pv 2) (pv 5) (pe_callD D_block_of hr rfl pass0 (pa_cons (pv 4) pa_nil)) rfl))
      pss_nil)
    (pss_one (ps_expr (pe_bm PySem.F.plainAttrs_list PySem.F.slot_list_extend PySem.F.type_list_extend mt_extend (pv 1) (pa_cons (pe_dget (u1 hr) (pv 2) (pv 5) (fun _ _ => rfl)) pa_nil))))))))
    (pss_cons (ps_expr (pe_bm PySem.F.plainAttrs_list PySem.F.slot_list_extend PySem.F.type_list_extend mt_extend (pv 1) (pa_cons (pe_callD D_ending hr rfl pass0 (pa_cons (pe_callB call_len_seq (by rfl) T.b_len (by decide +kernel) (pa_cons (pv 0) pa_nil)) pa_nil)) pa_nil)))
    (pss_one (ps_ret (pv 1))))))), ?_⟩
  refine q_asgL (xs := nvs (bs (Sw.ascii "SWZ1"))) (el_call ea_nil fun H1 e1 Q1 q1 E1 => ⟨rfl, q1⟩) fun p H1 hp e1 h1 => ?_
  refine q_raw ?_
  intro d hd
  have e2 : Ex H1 (upd H1 d (.dT [])) := Ex.new hd
  have hdp : d ≠ p := fun e => by rw [e, h1] at hd; cases hd
  have hdH : H d = none := fresh_back e1 hd
  have hal : (Sw.ascii "SWZ1").length = 4 := by decide +kernel
  refine q_forR3 (n := nBlocks t.length) (a := 0) (b := (t.length : Int)) (c := 1024) (ea_cons ev_c (ea_cons (ev_lenT (ev_var rfl) (ex_l (e1.trans e2) hS)) (ea_cons ev_c ea_nil))) ?_
    (fun k σ H' => ∃ v3 v4 v5 kvs, σ = [some (.ref a), some (.ref p), some (.ref d), v3, v4, v5] ∧ Ex H H' ∧ H' p = some (.lst (nvs (bs (Sw.ascii "SWZ1" ++ (List.range k).flatMap fun j => SwSqueeze.blockOf (Sw.part t (1024 * j) 1024))))) ∧ H' d = some (.dT kvs) ∧ kvs.length ≤ k ∧
      ∀ (ks : List Key) v, valV kvs ks = some v → ∃ c b, ks = keysOf c ∧ v = .ref b ∧ H' b = some (.lst (nvs (bs (SwSqueeze.blockOf c)))) ∧ b ≠ p) ?_ ?_ ?_
  · exact rgc_up (by decide) (by decide) (by omega) (by omega) (by unfold nBlocks; omega)
  · intro H2 e3
    refine ⟨none, none, none, [], rfl, (e1.trans e2).trans e3, ?_, e3 _ _ upd_same, Nat.le_refl _, fun ks v h => by cases h⟩
    rw [List.range_zero, List.flatMap_nil, List.append_nil]
    exact (e2.trans e3) _ _ h1
  · rintro k σ H2 hk ⟨v3, v4, v5, kvs, rfl, e3, hp2, hd2, hkl, hkv⟩
    have hk' : 1024 * k < t.length := by unfold nBlocks at hk; omega
    have hat : ((0 : Int) + (k : Nat) * (1024 : Int)) = ((1024 * k : Nat) : Int) := by omega
    rw [hat]
    -- part
    refine q_asgL (xs := nvs (bs (Sw.part t (1024 * k) 1024))) (el_is (el_slS (n := 0) (lo := 1024 * k) (hi := 1024 * k + 1024) (ev_var rfl) (eo_some (ev_var rfl)) (eo_some (ev_is (ev_I0 (ev_var rfl) ev_c) rfl)) (ex_l e3 hS)) ?_) fun pt H3 hpt e4 h4 => ?_
    · rw [show 1024 * k + 1024 - 1024 * k = 1024 by omega, bs_part]
    have hpl := part_len_le t (1024 * k) 1024
    have hpl1 : 1 ≤ (Sw.part t (1024 * k) 1024).length := by unfold Sw.part; rw [List.length_take, List.length_drop]; omega
    have hbl := blockOf_len (Sw.part t (1024 * k) 1024)
    have hrl := blocks_len t k
    have hnb : nBlocks t.length ≤ 16000 := by unfold nBlocks; omega
    rw [bs_flat k fun j => SwSqueeze.blockOf (Sw.part t (1024 * j) 1024), ← List.append_assoc]
    have hrl2 : (Sw.ascii "SWZ1" ++ (List.range k).flatMap fun j => SwSqueeze.blockOf (Sw.part t (1024 * j) 1024)).length ≤ 16464004 := by
      rw [List.length_append, hal]
      omega
    generalize (Sw.ascii "SWZ1" ++ (List.range k).flatMap fun j => SwSqueeze.blockOf (Sw.part t (1024 * j) 1024)) = R at hp2 hrl2
    generalize Sw.part t (1024 * k) 1024 = c at h4 hpl hpl1 hbl
    -- name
    refine q_asgU (xs := nvs (bs c)) (fun H4 e5 Q4 q4 => ?_) fun nm H4 hnm e5 h5 => ?_
    · refine cb_raw ((ea_cons (ev_var rfl) ea_nil) H4 (Ex.refl _) _ fun H5 e6 => ?_)
      exact ⟨pt, _, rfl, .inl ⟨sq_of ((e5.trans e6) _ _ h4), fun l hl => q4 l _ (fresh_back e6 hl) (e6.trans (Ex.new hl)) upd_same⟩⟩
    have e24 := e4.trans e5
    have hd4 := e24 _ _ hd2
    have hget : ∀ {H5 : Hp}, Ex H4 H5 → DGet H5 d (.ref nm) (valV kvs (keysOf c)) := fun e6 => DGet.t (k := keysOf c) (e6 _ _ hd4) (by rw [keysOf_V]; exact e6 _ _ h5)
    -- what's behind the test: the dict has it
    have rest : ∀ (kvs2 : List (List Key × V)) (b : Addr) (H6 : Hp), ExB d H4 H6 → H6 d = some (.dT kvs2) → kvs2.length ≤ k + 1 → valV kvs2 (keysOf c) = some (.ref b) → H6 b = some (.lst (nvs (bs (SwSqueeze.blockOf c)))) →
        (∀ (ks : List Key) v, valV kvs2 ks = some v → ∃ c b, ks = keysOf c ∧ v = .ref b ∧ H6 b = some (.lst (nvs (bs (SwSqueeze.blockOf c)))) ∧ b ≠ p) → ∀ (D : Ends) (σ : L2.St), σ[1]? = some (some (.ref p)) → σ[2]? = some (some (.ref d)) → σ[5]? = some (some (.ref nm)) →
        (∀ H7, Ex H H7 → H7 p = some (.lst (nvs (bs (R ++ SwSqueeze.blockOf c)))) → H7 d = some (.dT kvs2) → (∀ (ks : List Key) v, valV kvs2 ks = some v → ∃ c b, ks = keysOf c ∧ v = .ref b ∧ H7 b = some (.lst (nvs (bs (SwSqueeze.blockOf c)))) ∧ b ≠ p) → D.nx σ H7) →
        tDrop (tBM K "list" rExtend (tVar 1) (tCons (tDGet (tVar 2) (tVar 5)) tNil)) D σ H6 := by
      intro kvs2 b H6 k6 hd6 hl6 hv6 hb6 hkv6 D σ hσ1 hσ2 hσ5 k
      have hp6 : H6 p = some (.lst (nvs (bs R))) := k6 _ _ hdp.symm (e24 _ _ hp2)
      refine s_extS hp6 (ev_var hσ1) (fun H8 e8 Q8 q8 => ?_) hb6 ?_ fun H7 e7 => ?_
      · refine (ev_var hσ2) H8 (Ex.refl _) _ fun H9 e9 => (ev_var hσ5) H9 (Ex.refl _) _ fun H10 e10 => ?_
        have e8' := (e8.trans e9).trans e10
        have hnd : nm ≠ d := fun e => by rw [e, hd4] at h5; cases h5
        refine ⟨d, _, rfl, ?_, q8 H10 (e9.trans e10)⟩
        have := DGet.t (k := keysOf c) (e8' _ _ hd6) (b := nm) (by rw [keysOf_V]; exact e8' _ _ (k6 _ _ hnd h5))
        rw [hv6] at this
        exact this
      · rw [nvs_length, bs_length, nvs_length, bs_length, sizeLine_eq]
        omega
      · rw [← nvs_append, ← bs_append]
        refine k _ ?_ upd_same ?_ fun ks v hv => ?_
        · exact Ex.mut ((k6.ex (e3.trans e24) hdH).trans e7) hp
        · rw [upd_ne hdp]
          exact e7 _ _ hd6
        · obtain ⟨c2, b2, h1, h2, h3, h4⟩ := hkv6 ks v hv
          exact ⟨c2, b2, h1, h2, by rw [upd_ne h4]; exact e7 _ _ h3, h4⟩
    refine q_when (b := !(valV kvs (keysOf c)).isSome) (fun H5 e6 Q5 q5 => ?_) (fun hb H5 e6 => ?_) (fun hb H5 e6 => ?_)
    · refine tb_raw (dn_raw ?_)
      refine (ev_var (v := .ref nm) rfl) H5 (Ex.refl _) _ fun H6 e7 => ?_
      refine (ev_var (v := .ref d) rfl) H6 (Ex.refl _) _ fun H7 e8 => ?_
      exact ⟨d, _, rfl, hget ((e6.trans e7).trans e8), _, rfl, q5 H7 (e7.trans e8)⟩
    · have hv0 : valV kvs (keysOf c) = none := by
        cases h : valV kvs (keysOf c) with
        | none => rfl
        | some v => rw [h] at hb; cases hb
      refine dp_raw (call_raw ?_)
      refine (ea_cons (ev_var (v := .ref pt) rfl) ea_nil) H5 (Ex.refl _) _ fun H6 e7 => ?_
      refine ⟨pt, c, rfl, ((e5.trans e6).trans e7) _ _ h4, hpl, hpl1, fun b H7 hb7 e8 h7 => ?_⟩
      refine (ev_var (v := .ref d) rfl) H7 (Ex.refl _) _ fun H8 e9 => ?_
      refine (ev_var (v := .ref nm) rfl) H8 (Ex.refl _) _ fun H9 e10 => ?_
      have e49 := (((e6.trans e7).trans e8).trans e9).trans e10
      have hd9 := e49 _ _ hd4
      have hbd : b ≠ d := fun e => by rw [e, (e6.trans e7) _ _ hd4] at hb7; cases hb7
      have hbp : b ≠ p := fun e => by rw [e, (e6.trans e7) _ _ (e24 _ _ hp2)] at hb7; cases hb7
      refine ⟨d, _, rfl, DPut.t (k := keysOf c) hd9 (b := nm) (by rw [keysOf_V]; exact e49 _ _ h5) (sz_lt (by omega)), ?_⟩
      refine rest (putK kvs (keysOf c) (.ref b)) b _ ((ex_b e49).trans ExB.upd) upd_same ?_ ?_ ?_ ?_ _ _ rfl rfl rfl fun H10 h1 h2 h3 h4 => ?_
      · have := length_putK kvs (keysOf c) (.ref b)
        omega
      · rw [valV_put, if_pos rfl]
      · rw [upd_ne hbd]
        exact (e9.trans e10) _ _ h7
      · intro ks v hv
        rw [valV_put] at hv
        split at hv
        · rename_i hks
          refine ⟨c, b, hks, (Option.some.inj hv).symm, ?_, hbp⟩
          rw [upd_ne hbd]
          exact (e9.trans e10) _ _ h7
        · obtain ⟨c2, b2, h1, h2, h3, h4⟩ := hkv ks v hv
          refine ⟨c2, b2, h1, h2, ?_, h4⟩
          rw [upd_ne (fun e => by rw [e, hd2] at h3; cases h3)]
          exact (e24.trans e49) _ _ h3
      · refine ⟨_, _, _, _, rfl, h1, h2, h3, ?_, h4⟩
        have := length_putK kvs (keysOf c) (.ref b)
        omega
    · have hv0 : ∃ v, valV kvs (keysOf c) = some v := by
        cases h : valV kvs (keysOf c) with
        | none => rw [h] at hb; cases hb
        | some v => exact ⟨v, rfl⟩
      obtain ⟨v, hv⟩ := hv0
      obtain ⟨c2, b, h1, rfl, h3, _⟩ := hkv _ _ hv
      rw [← keysOf_inj h1] at h3
      refine rest kvs b _ (ex_b e6) (e6 _ _ hd4) (by omega) hv ((e24.trans e6) _ _ h3) (fun ks v hv => ?_) _ _ rfl rfl rfl fun H10 h1 h2 h3 h4 => ⟨_, _, _, _, rfl, h1, h2, h3, by omega, h4⟩
      obtain ⟨c2, b2, h1, h2, h3, h4⟩ := hkv ks v hv
      exact ⟨c2, b2, h1, h2, (e24.trans e6) _ _ h3, h4⟩
  · rintro σ H2 ⟨v3, v4, v5, kvs, rfl, e3, hp2, hd2, hkl, hkv⟩
    have hrl := blocks_len t (nBlocks t.length)
    have hnb : nBlocks t.length ≤ 16000 := by unfold nBlocks; omega
    have hrl2 : (Sw.ascii "SWZ1" ++ (List.range (nBlocks t.length)).flatMap fun j => SwSqueeze.blockOf (Sw.part t (1024 * j) 1024)).length ≤ 16464004 := by
      rw [List.length_append, hal]
      omega
    generalize (Sw.ascii "SWZ1" ++ (List.range (nBlocks t.length)).flatMap fun j => SwSqueeze.blockOf (Sw.part t (1024 * j) 1024)) = R at hp2 hrl2 q
    refine q_ext (ys := nvs (bs (Sw.le 4 0 ++ Sw.le 8 t.length))) hp2 (ev_var rfl) (el_call (ea_cons (ev_lenT (ev_var rfl) (ex_l e3 hS)) ea_nil) fun H5 e5 Q5 q5 E5 => ⟨t.length, rfl, q5⟩) ?_ fun H3 e4 => ?_
    · rw [nvs_length, bs_length, nvs_length, bs_length, List.length_append, le_length, le_length, sizeLine_eq]
      omega
    rw [← nvs_append, ← bs_append]
    exact s_ret (ev_var rfl) fun H4 e5 => q p H4 hp ((Ex.mut (e3.trans e4) hp).trans e5) (e5 _ _ upd_same)
end
end Gz
end

/-! ## W14 -/
section
set_option Elab.async false
set_option linter.all false
set_option maxRecDepth 100000
set_option maxHeartbeats 4000000
namespace Gz
open PySem PySem.Spec PyProof.Rows L2 Evl
/-! ### classes -/
/-- a method that keeps its promise -/
structure DefM (P : Program) (w : World) (K : PySem.W.Frag) (mg : Str → Option Value) (base : Heap) (CX : CXT) (k : Nat) (C : Addr) (m : Str) (ps : List Str) (sp : Sp) : Prop where
  ex : Cls K C ∧ ∃ f fd, Meth K C m f ∧ Binds K fd ps [] ∧ FnOk P w K mg base CX k f fd ps sp
/-- a class that makes instances, by its name -/
structure DefC (P : Program) (w : World) (K : PySem.W.Frag) (mg : Str → Option Value) (base : Heap) (CX : CXT) (k : Nat) (C : Addr) (x : Str) (ps : List Str) (sp : Sp) : Prop where
  ex : mg x = some (.ref C) ∧ ∃ f fd, Mk K C f ∧ Binds K fd ps [] ∧ FnOk P w K mg base CX k f fd ps sp
section
variable {X : Cx} {CX : CXT} {k j : Nat} {C : Addr} {ps : List Str} {sp : Sp} {E : XK} {x m : Str} {p pos apos : Pos} {e o : Expr} {es : List Expr} {t : TA} {ta : TE} {pl : Sem Bool}
theorem pe_methD (D : DefM X.prog X.w X.K X.mg X.base CX k C m ps sp) (ho : PE X o ta) (hr : Room j X.A) (hx : Passes CX X E) (ha : PA X (e :: es) t) (hk : k ≤ j := by decide)
    (hst : starEach (e :: es) X.env = (false, eval e X.env) :: starEach es X.env := by rfl) (hpl : (backTo pos (starEach es X.env)).any (·.1) = false := by rfl)
    (ht : eval (.Call (.Attribute o m apos) (e :: es) [] pos) X.env = (do
      let ov ← eval o X.env
      standAt apos.atName
      let (f, first) ← holding [ov] (getMethod ov m pl)
      callWith pos f first (backTo pos (starEach (e :: es) X.env)) (backToKw pos (keywordEach [] X.env))) := by rfl) :
    PE X (.Call (.Attribute o m apos) (e :: es) [] pos) (tMeth C m sp [] E ta t) := by
  obtain ⟨c, f, fd, hm, b, F⟩ := D.ex
  exact pe_meth ho c hm F (hr.mono hk) b .nil hx ha hst hpl ht
theorem pe_methD0 (D : DefM X.prog X.w X.K X.mg X.base CX k C m ps sp) (ho : PE X o ta) (hr : Room j X.A) (hx : Passes CX X E) (hk : k ≤ j := by decide)
    (ht : eval (.Call (.Attribute o m apos) [] [] pos) X.env = (do
      let ov ← eval o X.env
      standAt apos.atName
      let (f, first) ← holding [ov] (getMethod ov m pl)
      callWith pos f first (backTo pos (starEach [] X.env)) (backToKw pos (keywordEach [] X.env))) := by rfl) :
    PE X (.Call (.Attribute o m apos) [] [] pos) (tMeth C m sp [] E ta tNil) := by
  obtain ⟨c, f, fd, hm, b, F⟩ := D.ex
  exact pe_meth0 ho c hm F (hr.mono hk) b .nil hx ht
theorem pe_makeD (D : DefC X.prog X.w X.K X.mg X.base CX0 k C x ps sp) (hr : Room j X.A) (hg : Gl X x) (ha : PA X (e :: es) t) (hk : k + 1 ≤ j := by decide)
    (hdb : (x == ("__debug__" : Str)) = false := by decide) (he : starEach (e :: es) X.env = (false, eval e X.env) :: starEach es X.env := by rfl) (hpl : (backTo pos (starEach es X.env)).any (·.1) = false := by rfl) :
    PE X (.Call (.Name x p) (e :: es) [] pos) (tMake C sp [] E0 t) := by
  obtain ⟨hm, f, fd, M, b, F⟩ := D.ex
  exact pe_make M F (hr.mono hk) hg hm b .nil pass0 ha hdb he hpl
theorem pe_makeD0 (D : DefC X.prog X.w X.K X.mg X.base CX0 k C x ps sp) (hr : Room j X.A) (hg : Gl X x) (hk : k + 1 ≤ j := by decide) (hdb : (x == ("__debug__" : Str)) = false := by decide) :
    PE X (.Call (.Name x p) [] [] pos) (tMake C sp [] E0 tNil) := by
  obtain ⟨hm, f, fd, M, b, F⟩ := D.ex
  exact pe_make0 M F (hr.mono hk) hg hm b .nil pass0 hdb
end
theorem lkH {k : Str} {v : V} {r : List (Str × V)} : List.lookup k ((k, v) :: r) = some v := by
  have e : (k == k) = true := beq_self_eq_true k
  simp only [List.lookup, e]
theorem lkP {k g : Str} {v : V} {r : List (Str × V)} (h : (k == g) = false) : List.lookup k ((g, v) :: r) = List.lookup k r := by
  simp only [List.lookup, h]
theorem putH {f : Str} {v x : V} {r : List (Str × V)} : putF f v ((f, x) :: r) = (f, v) :: r := if_pos rfl
theorem putP {f g : Str} {v x : V} {r : List (Str × V)} (h : ¬ g = f) : putF f v ((g, x) :: r) = (g, x) :: putF f v r := if_neg h
section
variable {K : PySem.W.Frag} {σ : L2.St} {H H' : Hp} {ta tv te to : TE} {tr : TA} {D : Ends} {tz tu : TS} {v : V} {a C dx : Addr} {fs : List (Str × V)} {fl m : Str}
theorem ev_fld (h : Ev ta σ H (.ref a)) (ha : H a = some (.ins C dx fs)) (c : Cls K C) (n : NoAttr K C fl) (l : fs.lookup fl = some v) : Ev (tFld K ta fl) σ H v := fun H1 e Q q => h H1 e _ fun H2 e2 => ⟨a, C, dx, fs, v, rfl, e2 _ _ (e _ _ ha), c, n, l, q H2 e2⟩
theorem s_fld (hv : Ev tv σ H v) (h : Ev ta σ H (.ref a)) (ha : H a = some (.ins C dx fs)) (c : Cls K C) (n : NoAttr K C fl) (hl : fs.length < 1000) (k : ∀ H1, Ex H H1 → D.nx σ (upd H1 a (.ins C dx (putF fl v fs)))) : sFld K ta tv fl D σ H :=
  hv H (Ex.refl H) _ fun H1 e1 => h H1 e1 _ fun H2 e2 => ⟨a, C, dx, fs, rfl, e2 _ _ (e1 _ _ ha), c, n, hl, k H2 (e1.trans e2)⟩
theorem q_fld (hv : Ev tv σ H v) (h : Ev ta σ H (.ref a)) (ha : H a = some (.ins C dx fs)) (c : Cls K C) (n : NoAttr K C fl) (hl : fs.length < 1000) (k : ∀ H1, Ex H H1 → tz D σ (upd H1 a (.ins C dx (putF fl v fs)))) : tSeq (sFld K ta tv fl) tz D σ H :=
  s_fld (D := { D with nx := tz D }) hv h ha c n hl k
theorem q_fldL {xs : List V} (hv : EvL tv σ H xs) (h : Ev ta σ H (.ref a)) (ha : H a = some (.ins C dx fs)) (c : Cls K C) (n : NoAttr K C fl) (hl : fs.length < 1000)
    (k : ∀ p H1, H p = none → Ex H H1 → H1 p = some (.lst xs) → tz D σ (upd H1 a (.ins C dx (putF fl (.ref p) fs)))) : tSeq (sFld K ta tv fl) tz D σ H :=
  hv H (Ex.refl H) _ fun p H1 hp e1 h1 => h H1 e1 _ fun H2 e2 => ⟨a, C, dx, fs, rfl, e2 _ _ (e1 _ _ ha), c, n, hl, k p H2 hp (e1.trans e2) (e2 _ _ h1)⟩
theorem q_fldaug {i j : Int} (h : Ev ta σ H (.ref a)) (ha : H a = some (.ins C dx fs)) (c : Cls K C) (n : NoAttr K C fl) (l : fs.lookup fl = some (.int i)) (hv : Ev tv σ H (.int j)) (hl : fs.length < 1000) (k : ∀ H1, Ex H H1 → tz D σ (upd H1 a (.ins C dx (putF fl (.int (i + j)) fs)))) :
    tSeq (sFldAug K ta tv L2.rAdd fl) tz D σ H :=
  h H (Ex.refl H) _ fun H1 e1 => ⟨a, C, dx, fs, _, rfl, e1 _ _ ha, c, n, l, hv H1 e1 _ fun H2 e2 => ⟨i, j, rfl, rfl, dx, fs, (e1.trans e2) _ _ ha, hl, k H2 (e1.trans e2)⟩⟩
theorem meth_raw {sp : Sp} {dvs : List V} {E : XK} {Q : VK} (h : ta σ H fun x H1 => ∃ a dx fs, x = .ref a ∧ H1 a = some (.ins C dx fs) ∧ fs.lookup m = none ∧ tr σ H1 fun vs H2 => sp (x :: (vs ++ dvs)) H2 Q E) : tMeth C m sp dvs E ta tr σ H Q := h
end
/-! ### Feed -/
def fF (l : Addr) (n : Nat) (b : Bool) : List (Str × V) := [("waiting", .ref l), ("total", nv n), ("opened", .bl b)]
def FeedAt (C : Addr) (H : Hp) (a : Addr) (x : Squeeze.Feed) : Prop := ∃ dx l, H a = some (.ins C dx (fF l x.text.length x.marked)) ∧ H l = some (.lst (nvs (bs (waits x))))
structure FeedT (K : PySem.W.Frag) (C : Addr) : Prop where
  cl : Cls K C
  nW : NoAttr K C "waiting"
  nT : NoAttr K C "total"
  nO : NoAttr K C "opened"
theorem fF_w (l : Addr) (n : Nat) (b : Bool) : (fF l n b).lookup ("waiting" : Str) = some (.ref l) := lkH
theorem fF_t (l : Addr) (n : Nat) (b : Bool) : (fF l n b).lookup ("total" : Str) = some (nv n) := (lkP (by decide +kernel)).trans lkH
theorem fF_o (l : Addr) (n : Nat) (b : Bool) : (fF l n b).lookup ("opened" : Str) = some (.bl b) := (lkP (by decide +kernel)).trans ((lkP (by decide +kernel)).trans lkH)
theorem fF_no {m : Str} (l : Addr) (n : Nat) (b : Bool) (h1 : (m == ("waiting" : Str)) = false) (h2 : (m == ("total" : Str)) = false) (h3 : (m == ("opened" : Str)) = false) : (fF l n b).lookup m = none := (lkP h1).trans ((lkP h2).trans ((lkP h3).trans rfl))
theorem pF_w (l l2 : Addr) (n : Nat) (b : Bool) : putF "waiting" (.ref l2) (fF l n b) = fF l2 n b := putH
theorem pF_t (l : Addr) (n n2 : Nat) (b : Bool) : putF "total" (nv n2) (fF l n b) = fF l n2 b := (putP (by decide +kernel)).trans (congrArg _ putH)
theorem pF_o (l : Addr) (n : Nat) (b b2 : Bool) : putF "opened" (.bl b2) (fF l n b) = fF l n b2 := (putP (by decide +kernel)).trans (congrArg _ ((putP (by decide +kernel)).trans (congrArg _ putH)))
theorem fF_len (l : Addr) (n : Nat) (b : Bool) : (fF l n b).length < 1000 := by show 3 < 1000; decide
theorem FeedAt.ne {C a : Addr} {H : Hp} {x : Squeeze.Feed} (h : FeedAt C H a x) : H a ≠ none := by
  obtain ⟨dx, l, h, _⟩ := h
  rw [h]
  exact fun e => by cases e
theorem FeedAt.ex {C a : Addr} {H H' : Hp} {x : Squeeze.Feed} (e : Ex H H') (h : FeedAt C H a x) : FeedAt C H' a x := by
  obtain ⟨dx, l, h1, h2⟩ := h
  exact ⟨dx, l, e _ _ h1, e _ _ h2⟩
/-- a list or another instance changes -/
theorem FeedAt.exB {C p a : Addr} {H H' : Hp} {x : Squeeze.Feed} {o : HO} (k : ExB p H H') (hp : H p = some o) (ha : a ≠ p) (ho : ∀ xs, o ≠ .lst xs) (h : FeedAt C H a x) : FeedAt C H' a x := by
  obtain ⟨dx, l, h1, h2⟩ := h
  refine ⟨dx, l, k _ _ ha h1, k _ _ (fun e => ?_) h2⟩
  rw [e, hp] at h2
  exact ho _ (Option.some.inj h2)
section
variable {P : Program} {w : World} {K : PySem.W.Frag} {mg : Str → Option Value} {base : Heap} {f : Addr} {fd : FuncData} {aM C : Addr}
/-- a feed whose list is new -/
def FeedN (C : Addr) (H0 H : Hp) (a : Addr) (x : Squeeze.Feed) : Prop := ∃ dx l, H a = some (.ins C dx (fF l x.text.length x.marked)) ∧ H l = some (.lst (nvs (bs (waits x)))) ∧ H0 l = none
def spFeedInit (C : Addr) : Sp := fun vs H Q _ => ∃ p dx, vs = [.ref p] ∧ H p = some (.ins C dx []) ∧ ∀ H', ExB p H H' → FeedN C H H' p ⟨[], false⟩ → Q .non H'
theorem ok_Feed_init (TF : FeedT K C) (F : Fun K "__init__" "Feed.__init__" s_Feed_init f fd) : FnOk P w K mg base CX0 1 f fd ["self"] (spFeedInit C) := by
  refine F.ok sc_Feed_init (fun vs H Q E h => ?_) (fun cdv A outer s H vs Q E hr h => ?_)
  · obtain ⟨p, dx, rfl, _⟩ := h
    rfl
  obtain ⟨p, dx, rfl, hp, q⟩ := h
  refine ⟨_, (pss_cons (ps_fld (pv 0) (pe_lst pa_nil) rfl)
    (pss_cons (ps_fld (pv 0) pe_int rfl)
    (pss_one (ps_fld (pv 0) pe_bl rfl)))), ?_⟩
  refine q_fldL (el_lst ea_nil (by decide)) (ev_var rfl) hp TF.cl TF.nW (by decide) fun l H1 hl e1 h1 => ?_
  refine q_fld (v := nv 0) ev_c (ev_var rfl) upd_same TF.cl TF.nT (by show 1 < 1000; decide) fun H2 e2 => ?_
  refine s_fld (v := .bl false) ev_c (ev_var rfl) upd_same TF.cl TF.nO (by show 2 < 1000; decide) fun H3 e3 => ?_
  have hlp : l ≠ p := fun e => by rw [e, hp] at hl; cases hl
  have x1 : ExB p H1 (upd H1 p (.ins C dx (putF "waiting" (.ref l) []))) := ExB.upd
  have x2 := x1.trans ((ex_b e2).trans (ExB.upd (o := .ins C dx (putF "total" (nv 0) (putF "waiting" (.ref l) [])))))
  have x3 := x2.trans ((ex_b e3).trans (ExB.upd (o := .ins C dx (putF "opened" (.bl false) (putF "total" (nv 0) (putF "waiting" (.ref l) []))))))
  refine q _ ((ex_b e1).trans x3) ⟨dx, l, ?_, x3 _ _ hlp h1, hl⟩
  rw [upd_same]
  congr 2
/-! ### front -/
def spFront (C : Addr) : Sp := fun vs H Q _ => ∃ a x, vs = [.ref a] ∧ FeedAt C H a x ∧ ∀ p H2, H p = none → ExB a H H2 → (∃ dx l, H2 a = some (.ins C dx (fF l x.text.length true)) ∧ H2 l = some (.lst (nvs (bs (waits x)))) ∧ l ≠ p) → H2 p = some (.lst (nvs (bs (Squeeze.mark x)))) → Q (.ref p) H2
theorem ok_Feed_front (T : Gs K mg aM) (TF : FeedT K C) (D_beginning : Def P w K mg base CX0 1 "beginning" [] spBegin) (F : Fun K "front" "Feed.front" s_Feed_front f fd) : FnOk P w K mg base CX0 2 f fd ["self"] (spFront C) := by
  refine F.ok sc_Feed_front (fun vs H Q E h => ?_) (fun cdv A outer s H vs Q E hr h => ?_)
  · obtain ⟨a, x, rfl, _⟩ := h
    rfl
  obtain ⟨a, x, rfl, ⟨dx, l, ha, hl⟩, q⟩ := h
  refine ⟨_, (pss_cons (ps_if (pt_val (pe_fld (pv 0) rfl))
      (pss_one (ps_ret (pe_lst pa_nil)))
      pss_nil)
    (pss_cons (ps_fld (pv 0) pe_bl rfl)
    (pss_one (ps_ret (pe_callD0 D_beginning hr rfl pass0))))), ?_⟩
  obtain ⟨t, b⟩ := x
  refine q_when (b := b) (et_B (ev_fld (ev_var rfl) ha TF.cl TF.nO (fF_o _ _ _))) (fun hb H1 e1 => ?_) (fun hb H1 e1 => ?_)
  · subst hb
    refine s_retL (el_lst ea_nil (by decide)) fun p H2 hp e2 h2 => q p H2 (fresh_back e1 hp) (ex_b (e1.trans e2)) ⟨dx, l, (e1.trans e2) _ _ ha, (e1.trans e2) _ _ hl, ne_of_none hl (fresh_back e1 hp)⟩ h2
  · subst hb
    have hla : l ≠ a := fun e => by rw [e, ha] at hl; cases hl
    refine q_fld (v := .bl true) ev_c (ev_var rfl) (e1 _ _ ha) TF.cl TF.nO (fF_len _ _ _) fun H2 e2 => ?_
    have k2 : ExB a H (upd H2 a (.ins C dx (putF "opened" (.bl true) (fF l t.length false)))) := (ex_b (e1.trans e2)).trans ExB.upd
    refine s_retL (el_call ea_nil fun H3 e3 Q3 q3 E3 => ⟨rfl, q3⟩) fun p H3 hp e3 h3 => ?_
    have k3 := k2.trans (ex_b e3)
    have hpa : p ≠ a := fun e => by rw [e, upd_same] at hp; cases hp
    have hpH : H p = none := by
      rw [upd_ne hpa] at hp
      exact fresh_back (e1.trans e2) hp
    refine q p H3 hpH k3 ⟨dx, l, ?_, k3 _ _ hla hl, ne_of_none hl hpH⟩ h3
    · rw [e3 _ _ upd_same, pF_o]
/-! ### feed -/
def spFeed (C : Addr) : Sp := fun vs H Q _ => ∃ a x d t, vs = [.ref a, .ref d] ∧ FeedAt C H a x ∧ H d = some (.lst (nvs (bs t))) ∧ t.length + x.text.length ≤ 65536 ∧ ∀ p H2, H p = none → ExB a H H2 → FeedN C H H2 a ⟨x.text ++ t, true⟩ → H2 p = some (.lst (nvs (bs (Squeeze.fed x t)))) → Q (.ref p) H2
theorem givenTo_len (x : Squeeze.Feed) (t : List UInt8) (j : Nat) : (givenTo x t j).length ≤ 4 + j * 1029 := by
  unfold givenTo
  have h1 : (Squeeze.mark x).length ≤ 4 := by
    unfold Squeeze.mark
    split
    · exact Nat.zero_le _
    · exact (by decide +kernel : (Sw.ascii "SWZ1").length ≤ 4)
  have := flatMap_len_le (fun j => SwSqueeze.blockOf (Sw.part (x.text ++ t) (1024 * (Squeeze.known x.text.length + j)) 1024)) 1029 (List.range j) fun j _ => by
    have h1 := blockOf_len (Sw.part (x.text ++ t) (1024 * (Squeeze.known x.text.length + j)) 1024)
    have h2 := part_len_le (x.text ++ t) (1024 * (Squeeze.known x.text.length + j)) 1024
    omega
  rw [List.length_range] at this
  rw [List.length_append]
  omega
theorem cutV_from {xs : List V} {n : Nat} (h : n ≤ xs.length) : cutV xs (some (n : Int)) none = xs.drop n := by
  unfold cutV
  rw [HT.sIx_nat, HT.sIx_none, Nat.min_eq_left h, List.take_of_length_le (by rw [List.length_drop]; omega)]
theorem ok_Feed_feed (T : Gs K mg aM) (TF : FeedT K C) (D_block_of : Def P w K mg base CX0 6 "block_of" ["text"] spBlock) (M_front : DefM P w K mg base CX0 2 C "front" ["self"] (spFront C)) (F : Fun K "feed" "Feed.feed" s_Feed_feed f fd) : FnOk P w K mg base CX0 7 f fd ["self", "data"] (spFeed C) := by
  refine F.ok sc_Feed_feed (fun vs H Q E h => ?_) (fun cdv A outer s H vs Q E hr h => ?_)
  · obtain ⟨a, x, d, t, rfl, _⟩ := h
    rfl
  obtain ⟨a, x, d, t, rfl, hF, hd, ht, q⟩ := h
  refine ⟨_, (pss_cons (ps_set (i := 2) sc_Feed_feed.nd rfl (Or.inl rfl) (pe_methD0 M_front (pv 0) hr pass0))
    (pss_cons (ps_fld (pv 0) (pe_op op_cat (pe_fld (pv 0) rfl) (pv 1)) rfl)
    (pss_cons (ps_fldaug (pv 0) (pe_callB call_len_seq (by rfl) T.b_len (by decide +kernel) (pa_cons (pv 1) pa_nil)) in_add)
    (pss_cons (ps_set (i := 3) sc_Feed_feed.nd rfl (Or.inl rfl) pe_int)
    (pss_cons (ps_while PassesOwn.never (pt_cmpR op_gt (pe_op op_sub (pe_callB call_len_seq (by rfl) T.b_len (by decide +kernel) (pa_cons (pe_fld (pv 0) rfl) pa_nil)) (pv 3)) (pe_k T.BLOCK) (nomark _))
      (pss_cons (ps_expr (pe_bm PySem.F.plainAttrs_list PySem.F.slot_list_extend PySem.F.type_list_extend mt_extend (pv 2) (pa_cons (pe_callD D_block_of hr rfl pass0 (pa_cons (pe_slice sl_list (pe_fld (pv 0) rfl) (po_some (pv 3)) (po_some (pe_op op_add (pv 3) (pe_k T.BLOCK)))) pa_nil)) pa_nil)))
    (pss_one (ps_aug (i := 3) sc_Feed_feed.nd rfl (Or.inl rfl) (pe_k T.BLOCK) ip_add))))
    (pss_cons (ps_fld (pv 0) (pe_slice sl_list (pe_fld (pv 0) rfl) (po_some (pv 3)) po_none) rfl)
    (pss_one (ps_ret (pv 2))))))))), ?_⟩
  obtain ⟨dx0, l0, hF0, _⟩ := id hF
  have hda : d ≠ a := fun e => by rw [e, hF0] at hd; cases hd
  -- given = self.front()
  refine q_raw (meth_raw ?_)
  refine (ev_var (v := .ref a) rfl) H (Ex.refl _) _ fun H1 e1 => ?_
  refine ⟨a, dx0, _, rfl, e1 _ _ hF0, fF_no _ _ _ (by decide +kernel) (by decide +kernel) (by decide +kernel), ?_⟩
  refine ⟨a, x, rfl, hF.ex e1, fun p H2 hp k2 ⟨dx, l, h2a, h2l, hlp⟩ h2p => ?_⟩
  have hpH : H p = none := fresh_back e1 hp
  have kH2 : ExB a H H2 := (ex_b e1).trans k2
  have hpa : p ≠ a := fun e => by rw [e, h2a] at h2p; cases h2p
  have hd2 := kH2 _ _ hda hd
  -- self.waiting = self.waiting + data
  have hwl := waits_len x
  refine q_fldL (xs := nvs (bs (waits x ++ t))) (el_is (el_catSS (ev_fld (ev_var rfl) h2a TF.cl TF.nW (fF_w _ _ _)) (ev_var rfl) h2l hd2 ?_) (by rw [bs_append, nvs_append])) (ev_var rfl) h2a TF.cl TF.nW (fF_len _ _ _) fun l2 H3 hl2 e3 h3 => ?_
  · rw [nvs_length, nvs_length, bs_length, bs_length]
    exact sz_of (by omega)
  rw [pF_w]
  have hl2a : l2 ≠ a := fun e => by rw [e, h2a] at hl2; cases hl2
  have hl2p : l2 ≠ p := fun e => by rw [e, h2p] at hl2; cases hl2
  generalize hH4 : upd H3 a (HO.ins C dx (fF l2 x.text.length true)) = H4
  have k4 : ExB a H2 H4 := (ex_b e3).trans (by rw [← hH4]; exact ExB.upd)
  have h4a : H4 a = some (.ins C dx (fF l2 x.text.length true)) := by rw [← hH4]; exact upd_same
  have h4l : H4 l2 = some (.lst (nvs (bs (waits x ++ t)))) := by rw [← hH4, upd_ne hl2a]; exact h3
  -- self.total += len(data)
  refine q_fldaug (ev_var rfl) h4a TF.cl TF.nT (fF_t _ _ _) (ev_lenT (ev_var rfl) (sq_of (k4 _ _ hda hd2))) (fF_len _ _ _) fun H5 e5 => ?_
  have etot : ((x.text.length : Nat) : Int) + ((t.length : Nat) : Int) = (((x.text ++ t).length : Nat) : Int) := by rw [List.length_append]; omega
  rw [etot, pF_t]
  generalize hH6 : upd H5 a (HO.ins C dx (fF l2 (x.text ++ t).length true)) = H6
  have k6 : ExB a H4 H6 := (ex_b e5).trans (by rw [← hH6]; exact ExB.upd)
  have h6a : H6 a = some (.ins C dx (fF l2 (x.text ++ t).length true)) := by rw [← hH6]; exact upd_same
  have h6l := k6 _ _ hl2a h4l
  have h6p := k6 _ _ hpa (k4 _ _ hpa h2p)
  have kH6 : ExB a H H6 := (kH2.trans k4).trans k6
  have hJ : Squeeze.known (x.text ++ t).length - Squeeze.known x.text.length ≤ 64 := by
    unfold Squeeze.known
    rw [List.length_append]
    show (x.text.length + t.length - 1) / 1024 - (x.text.length - 1) / 1024 ≤ 64
    omega
  have hcond := waits_cond x t
  have hwe := waits_end x t true
  have hwtl : (waits x ++ t).length ≤ 1024 + t.length := by rw [List.length_append]; omega
  refine q_asg (v := nv 0) ev_c fun H7 e7 => ?_
  refine q_while (fun m σ H' => ∃ j, σ = [some (.ref a), some (.ref d), some (.ref p), some (nv (1024 * j))] ∧ ExB p H6 H' ∧ H' p = some (.lst (nvs (bs (givenTo x t j)))) ∧ j ≤ Squeeze.known (x.text ++ t).length - Squeeze.known x.text.length ∧ m = 100 - j) _
    ⟨0, rfl, ex_b e7, by rw [given_zero]; exact e7 _ _ h6p, Nat.zero_le _, rfl⟩ ?_
  rintro m σ H8 ⟨j, rfl, k8, h8p, hj, rfl⟩
  have h8a := k8 _ _ hpa.symm h6a
  have h8l := k8 _ _ hl2p h6l
  refine ⟨decide (1024 < (waits x ++ t).length - 1024 * j), et_is (et_test (ev_I0 (ev_I0 (ev_lenT (ev_fld (ev_var rfl) h8a TF.cl TF.nW (fF_w _ _ _)) (sq_of h8l)) (ev_var rfl)) ev_c)) (by rw [decide_eq_decide]; omega), fun hc H9 e9 => ?_, fun hc H9 e9 => ?_⟩
  · have hc := of_decide_eq_true hc
    have hj2 := (hcond j).mp hc
    refine ⟨fun σ2 H' => σ2 = [some (.ref a), some (.ref d), some (.ref p), some (nv (1024 * (j + 1)))] ∧ ExB p H6 H' ∧ H' p = some (.lst (nvs (bs (givenTo x t (j + 1))))), fun σ2 H' ⟨h1, h2, h3⟩ => ⟨100 - (j + 1), by omega, j + 1, h1, h2, h3, by omega, rfl⟩, ?_⟩
    have hgl := givenTo_len x t j
    have hbl := blockOf_len (Sw.part (waits x ++ t) (1024 * j) 1024)
    have hpl := part_len_le (waits x ++ t) (1024 * j) 1024
    have hpl1 : 1 ≤ (Sw.part (waits x ++ t) (1024 * j) 1024).length := by unfold Sw.part; rw [List.length_take, List.length_drop]; omega
    have hgm := given_more x t j
    have hsl := bs_part (waits x ++ t) (1024 * j) 1024
    generalize Sw.part (waits x ++ t) (1024 * j) 1024 = c at hbl hpl hpl1 hgm hsl
    refine q_ext (xs := nvs (bs (givenTo x t j))) (ys := nvs (bs (SwSqueeze.blockOf c))) (e9 _ _ h8p) (ev_var rfl) (fun H10 e10 Q10 q10 => ?_) ?_ fun H10 e10 => ?_
    · refine call_raw (cons_raw ?_)
      refine (el_slS (n := 0) (lo := 1024 * j) (hi := 1024 * j + 1024) (ev_fld (ev_var rfl) ((e9.trans e10) _ _ h8a) TF.cl TF.nW (fF_w _ _ _)) (eo_some (ev_var rfl)) (eo_some (ev_is (ev_I0 (ev_var rfl) ev_c) rfl)) (sq_of ((e9.trans e10) _ _ h8l))) H10 (Ex.refl _) _ fun z H11 hz e11 h11 => ?_
      rw [show 1024 * j + 1024 - 1024 * j = 1024 by omega, hsl] at h11
      exact ⟨z, c, rfl, h11, hpl, hpl1, fun r H12 hr12 e12 h12 => q10 r H12 (fresh_back e11 hr12) (e11.trans e12) h12⟩
    · rw [nvs_length, bs_length, nvs_length, bs_length]
      exact sz_of (by omega)
    rw [← nvs_append, ← bs_append, ← hgm]
    refine s_aug (a := ((1024 * j : Nat) : Int)) (b := 1024) rfl ev_c fun H11 e11 => ⟨?_, ((k8.trans (ex_b (e9.trans e10))).trans ExB.upd).trans (ex_b e11), e11 _ _ upd_same⟩
    have : ((1024 * j : Nat) : Int) + 1024 = ((1024 * (j + 1) : Nat) : Int) := by omega
    rw [this]
    rfl
  · have hc := of_decide_eq_false hc
    have hjJ : j = Squeeze.known (x.text ++ t).length - Squeeze.known x.text.length := by
      have := mt (hcond j).mpr hc
      omega
    rw [← hjJ] at hwe
    have hlen : 1024 * j ≤ (waits x ++ t).length := by
      rw [waits_more, List.length_drop, hjJ]
      have h1 := known_le (x.text ++ t).length
      have h2 := known_mono (m := x.text.length) (n := (x.text ++ t).length) (by rw [List.length_append]; omega)
      have h3 : 1024 * Squeeze.known x.text.length ≤ 1024 * Squeeze.known (x.text ++ t).length := Nat.mul_le_mul_left _ h2
      rw [Nat.mul_sub]
      omega
    -- self.waiting = self.waiting[at:]
    refine q_fldL (xs := nvs (bs (waits ⟨x.text ++ t, true⟩))) (el_is (el_sl (ev_fld (ev_var rfl) (e9 _ _ h8a) TF.cl TF.nW (fF_w _ _ _)) (eo_some (ev_var rfl)) eo_none (sq_of (e9 _ _ h8l))) ?_) (ev_var rfl) (e9 _ _ h8a) TF.cl TF.nW (fF_len _ _ _) fun l3 H10 hl3 e10 h10 => ?_
    · rw [cutV_from (by rw [nvs_length, bs_length]; exact hlen), ← hwe]
      unfold nvs bs
      rw [List.map_drop, List.map_drop]
    rw [pF_w]
    have hl3a : l3 ≠ a := fun e => by rw [e, e9 _ _ h8a] at hl3; cases hl3
    refine s_ret (ev_var rfl) fun H11 e11 => ?_
    have kA : ExB a H8 (upd H10 a (.ins C dx (fF l3 (x.text ++ t).length true))) := (ex_b (e9.trans e10)).trans ExB.upd
    have hl3H : H l3 = none := by
      cases h : H l3 with
      | none => rfl
      | some o =>
        have h1 := e9 _ _ (k8 _ _ (ne_of_none h hpH) (kH6 _ _ hl3a h))
        rw [hl3] at h1
        cases h1
    refine q p H11 hpH ?_ ⟨dx, l3, e11 _ _ upd_same, e11 _ _ ?_, hl3H⟩ ?_
    · intro b o hb ho
      exact e11 _ _ (kA b o hb (k8 b o (ne_of_none ho hpH) (kH6 b o hb ho)))
    · rw [upd_ne hl3a]
      exact h10
    · rw [← given_end, ← hjJ]
      exact e11 _ _ (kA _ _ hpa h8p)
/-! ### finish -/
def spFinish (C : Addr) : Sp := fun vs H Q _ => ∃ a x, vs = [.ref a] ∧ FeedAt C H a x ∧ x.text.length ≤ 65536 ∧ ∀ p H2, H p = none → ExB a H H2 → H2 a ≠ none → H2 p = some (.lst (nvs (bs (Squeeze.ended x)))) → Q (.ref p) H2
theorem ok_Feed_finish (T : Gs K mg aM) (TF : FeedT K C) (D_block_of : Def P w K mg base CX0 6 "block_of" ["text"] spBlock) (D_ending : Def P w K mg base CX0 2 "ending" ["count"] spEnd) (M_front : DefM P w K mg base CX0 2 C "front" ["self"] (spFront C)) (F : Fun K "finish" "Feed.finish" s_Feed_finish f fd) :
    FnOk P w K mg base CX0 7 f fd ["self"] (spFinish C) := by
  refine F.ok sc_Feed_finish (fun vs H Q E h => ?_) (fun cdv A outer s H vs Q E hr h => ?_)
  · obtain ⟨a, x, rfl, _⟩ := h
    rfl
  obtain ⟨a, x, rfl, hF, ht, q⟩ := h
  rw [ended_eq] at q
  refine ⟨_, (pss_cons (ps_set (i := 1) sc_Feed_finish.nd rfl (Or.inl rfl) (pe_methD0 M_front (pv 0) hr pass0))
    (pss_cons (ps_if (pt_cmpR op_gt (pe_callB call_len_seq (by rfl) T.b_len (by decide +kernel) (pa_cons (pe_fld (pv 0) rfl) pa_nil)) pe_int (nomark _))
      (pss_one (ps_expr (pe_bm PySem.F.plainAttrs_list PySem.F.slot_list_extend PySem.F.type_list_extend mt_extend (pv 1) (pa_cons (pe_callD D_block_of hr rfl pass0 (pa_cons (pe_fld (pv 0) rfl) pa_nil)) pa_nil))))
      pss_nil)
    (pss_cons (ps_expr (pe_bm PySem.F.plainAttrs_list PySem.F.slot_list_extend PySem.F.type_list_extend mt_extend (pv 1) (pa_cons (pe_callD D_ending hr rfl pass0 (pa_cons (pe_fld (pv 0) rfl) pa_nil)) pa_nil)))
    (pss_one (ps_ret (pv 1)))))), ?_⟩
  obtain ⟨dx0, l0, hF0, _⟩ := id hF
  refine q_raw (meth_raw ?_)
  refine (ev_var (v := .ref a) rfl) H (Ex.refl _) _ fun H1 e1 => ?_
  refine ⟨a, dx0, _, rfl, e1 _ _ hF0, fF_no _ _ _ (by decide +kernel) (by decide +kernel) (by decide +kernel), ?_⟩
  refine ⟨a, x, rfl, hF.ex e1, fun p H2 hp k2 ⟨dx, l, h2a, h2l, hlp⟩ h2p => ?_⟩
  have hpH : H p = none := fresh_back e1 hp
  have kH2 : ExB a H H2 := (ex_b e1).trans k2
  have hpa : p ≠ a := fun e => by rw [e, h2a] at h2p; cases h2p
  have hm4 : (Squeeze.mark x).length ≤ 4 := by
    have := givenTo_len x [] 0
    rw [given_zero] at this
    omega
  have hwl := waits_len x
  refine q_when (b := decide (0 < (waits x).length)) (et_is (et_test (ev_I0 (ev_lenT (ev_fld (ev_var rfl) h2a TF.cl TF.nW (fF_w _ _ _)) (sq_of h2l)) ev_c)) (by rw [decide_eq_decide]; omega)) (fun hb H3 e3 => ?_) (fun hb H3 e3 => ?_)
  · have hb := of_decide_eq_true hb
    rw [if_neg (fun e => by rw [e] at hb; cases hb)] at q
    have hbl := blockOf_len (waits x)
    refine s_ext (ys := nvs (bs (SwSqueeze.blockOf (waits x)))) (e3 _ _ h2p) (ev_var rfl) (el_call (ea_cons (ev_fld (ev_var rfl) (e3 _ _ h2a) TF.cl TF.nW (fF_w _ _ _)) ea_nil) fun H4 e4 Q4 q4 E4 => ⟨l, _, rfl, (e3.trans e4) _ _ h2l, hwl, hb, q4⟩) ?_ fun H4 e4 => ?_
    · rw [nvs_length, bs_length, nvs_length, bs_length]
      exact sz_of (by omega)
    rw [← nvs_append, ← bs_append]
    have h4a : (upd H4 p (HO.lst (nvs (bs (Squeeze.mark x ++ SwSqueeze.blockOf (waits x)))))) a = some (.ins C dx (fF l x.text.length true)) := by rw [upd_ne hpa.symm]; exact (e3.trans e4) _ _ h2a
    refine q_ext (xs := nvs (bs (Squeeze.mark x ++ SwSqueeze.blockOf (waits x)))) (ys := nvs (bs (Sw.le 4 0 ++ Sw.le 8 x.text.length))) upd_same (ev_var rfl) (el_call (ea_cons (ev_fld (ev_var rfl) h4a TF.cl TF.nT (fF_t _ _ _)) ea_nil) fun H5 e5 Q5 q5 E5 => ⟨_, rfl, q5⟩) ?_ fun H5 e5 => ?_
    · rw [nvs_length, bs_length, nvs_length, bs_length, List.length_append, List.length_append, le_length, le_length]
      exact sz_of (by omega)
    rw [← nvs_append, ← bs_append, List.append_assoc]
    refine s_ret (ev_var rfl) fun H6 e6 => q p H6 hpH ?_ ?_ (e6 _ _ upd_same)
    rotate_left
    · rw [e6 _ _ (show upd H5 p _ a = _ by rw [upd_ne hpa.symm]; exact e5 _ _ h4a)]
      exact fun e => by cases e
    intro b o hb2 ho
    have hbp : b ≠ p := ne_of_none ho hpH
    have := (e3.trans e4) _ _ (kH2 b o hb2 ho)
    refine e6 _ _ ?_
    rw [upd_ne hbp]
    refine e5 _ _ ?_
    rw [upd_ne hbp]
    exact this
  · have hb := of_decide_eq_false hb
    have hw0 : waits x = [] := List.length_eq_zero_iff.mp (by omega)
    rw [if_pos hw0, List.nil_append] at q
    refine q_ext (xs := nvs (bs (Squeeze.mark x))) (ys := nvs (bs (Sw.le 4 0 ++ Sw.le 8 x.text.length))) (e3 _ _ h2p) (ev_var rfl) (el_call (ea_cons (ev_fld (ev_var rfl) (e3 _ _ h2a) TF.cl TF.nT (fF_t _ _ _)) ea_nil) fun H5 e5 Q5 q5 E5 => ⟨_, rfl, q5⟩) ?_ fun H5 e5 => ?_
    · rw [nvs_length, bs_length, nvs_length, bs_length, List.length_append, le_length, le_length]
      exact sz_of (by omega)
    rw [← nvs_append, ← bs_append]
    refine s_ret (ev_var rfl) fun H6 e6 => q p H6 hpH ?_ ?_ (e6 _ _ upd_same)
    rotate_left
    · rw [e6 _ _ (show upd H5 p _ a = _ by rw [upd_ne hpa.symm]; exact (e3.trans e5) _ _ h2a)]
      exact fun e => by cases e
    intro b o hb2 ho
    refine e6 _ _ ?_
    rw [upd_ne (ne_of_none ho hpH)]
    exact (e3.trans e5) _ _ (kH2 b o hb2 ho)
end
end Gz
end

/-! ## W15 -/
section
set_option Elab.async false
set_option linter.all false
set_option maxRecDepth 100000
set_option maxHeartbeats 4000000
namespace Gz
open PySem PySem.Spec PyProof.Rows L2 Evl
open SwSqueeze (toBits takeBits numLow readLengths readNumber readSymbol readSteps codewords)
/-! ### Broken -/
structure BrT (K : PySem.W.Frag) (mg : Str → Option Value) (CB : Addr) : Prop where
  gF : mg "Broken" = some (.ref CB)
  xF : PySem.W.excIn K CB [.type "Exception", .type "BaseException", .type "object"] "Exception.__new__" = true
  kF : PySem.W.keepIn K (.ref CB) = true
  bF : PySem.W.subIn K (.ref CB) (.type "BaseException") = some true
  tF : PySem.W.typeIn K (.ref CB) = some (.type "type")
  eF : PySem.W.exmOne K (.ref CB) (.ref CB) = some true
theorem pmk_own0 {X : Cx} {C : Addr} {bmB : List Value} {B newId initId : String} {x : Str} {p pos : Pos} (F : ExcBaseFacts B newId initId bmB) (q : PySem.W.excIn X.K C bmB newId = true) (gC : X.mg x = some (.ref C)) (kC : PySem.W.keepIn X.K (.ref C) = true) (r : Raises X (.ref C)) (hg : Gl X x)
    (hdb : (x == ("__debug__" : Str)) = false := by decide) : L2N.PMk X (.Call (.Name x p) [] [] pos) (fun _ H Q => Q (.ref C) none H) := by
  intro pins s σ H Q I h
  refine wpAny_Call_Name_kw (ld_glob I hg gC ?_ hdb)
  refine PySem.W.callWith_K0 I.kIn kC ?_
  obtain ⟨bm, N, nm, qn, bs, hdct, sn, sub, ab, col, dd, k0, k1, k2, k3, k5, mN, hC, hN, hni, T⟩ := exc_obj I.kIn q
  refine wpAny_call_exc_subT F T hC hN hni (fun h' e hm => ?_) (Nat.zero_le _)
  exact L2N.mk_of I hm r h (I.hok.gone hm.new)
theorem passR {X : Cx} {E : XK} (hs : X.stack = X.env :: X.outer) (hf : X.env.frame = some X.env.locals) (hex : X.ex = []) {E₁ : Value → Shared → Prop}
    (hx : X.xe = fun e s' => wpAny (model X.prog X.w) X.A (leaving X.env e) (fun _ s'' => L2N.CX X.prog X.w X.outer X.H_0 X.s_0 E e s'') E₁ s') : Passes (L2N.CX X.prog X.w) X E :=
  L2N.passes_call (L2N.takes_of hs hf hex hx) (fun _ _ _ _ h => h)
theorem okN {P : Program} {w : World} {K : PySem.W.Frag} {mg : Str → Option Value} {base : Heap} {x qual : Str} {st : Stmt} {f : Addr} {fd : FuncData} {N ps : List Str} {k : Nat} {sp : Sp} (F : Fun K x qual st f fd) (S : FnScope N ps (defScope st)) (len : ∀ vs H Q E, sp vs H Q E → vs.length = ps.length)
    (hbody : ∀ (cdv : Value) (A : Around) (outer : List Env) (s : Shared) (H : Hp) (vs : List V) (Q : VK) (E : XK), Room k (A.deeper (envOfC qual (defScope st) s.heap.objs.size f cdv)) → sp vs H Q E →
      ∃ t, PSs (cxOf (L2N.CX P w) P w K mg base N qual (defScope st) f cdv A outer s H E) (defBody st) t ∧ t { nx := fun _ H' => Q .non H', rt := Q } (start N vs) H) : FnOk P w K mg base (L2N.CX P w) (k + 1) f fd ps sp := by
  obtain ⟨oc, od, kV, doc, pm, an, cdv, ct, osl, rfl, lk, hcd⟩ := F.ex
  exact fn_of lk hcd S len fun A outer s H vs Q E hr hsp => hbody cdv A outer s H vs Q E hr hsp
theorem op_raw {r : R2} {ta tb : TE} {σ : L2.St} {H : Hp} {Q : VK} (h : ta σ H fun x H1 => tb σ H1 fun y H2 => r x y H2 Q) : tOp r ta tb σ H Q := h
/-! ### Bits -/
def bF (r : Addr) (p e : Nat) : List (Str × V) := [("row", .ref r), ("place", nv p), ("end", nv e)]
theorem bF_r (r : Addr) (p e : Nat) : (bF r p e).lookup ("row" : Str) = some (.ref r) := lkH
theorem bF_p (r : Addr) (p e : Nat) : (bF r p e).lookup ("place" : Str) = some (nv p) := (lkP (by decide +kernel)).trans lkH
theorem bF_e (r : Addr) (p e : Nat) : (bF r p e).lookup ("end" : Str) = some (nv e) := (lkP (by decide +kernel)).trans ((lkP (by decide +kernel)).trans lkH)
theorem bF_no {m : Str} (r : Addr) (p e : Nat) (h1 : (m == ("row" : Str)) = false) (h2 : (m == ("place" : Str)) = false) (h3 : (m == ("end" : Str)) = false) : (bF r p e).lookup m = none := (lkP h1).trans ((lkP h2).trans ((lkP h3).trans rfl))
theorem bF_put (r : Addr) (p p2 e : Nat) : putF "place" (nv p2) (bF r p e) = bF r p2 e := (putP (by decide +kernel)).trans (congrArg _ putH)
theorem bF_len (r : Addr) (p e : Nat) : (bF r p e).length < 1000 := by show 3 < 1000; decide
structure BitsT (K : PySem.W.Frag) (C : Addr) : Prop where
  cl : Cls K C
  nR : NoAttr K C "row"
  nP : NoAttr K C "place"
  nE : NoAttr K C "end"
/-- the bits that are left, of the row at r -/
def BitsL (C : Addr) (H : Hp) (a r : Addr) (l : List Bool) : Prop := ∃ dx b p e, H a = some (.ins C dx (bF r p e)) ∧ H r = some (.lst (nvs (bs b))) ∧ p ≤ e ∧ e ≤ 8 * b.length ∧ l = ((toBits b).drop p).take (e - p)
theorem BitsL.ex {C a r : Addr} {H H' : Hp} {l : List Bool} (e : Ex H H') (h : BitsL C H a r l) : BitsL C H' a r l := by
  obtain ⟨dx, b, p, e2, h1, h2, h3⟩ := h
  exact ⟨dx, b, p, e2, e _ _ h1, e _ _ h2, h3⟩
theorem BitsL.ne {C a r : Addr} {H : Hp} {l : List Bool} (h : BitsL C H a r l) : H a ≠ none ∧ H r ≠ none := by
  obtain ⟨dx, b, p, e2, h1, h2, h3⟩ := h
  rw [h1, h2]
  constructor <;> (intro e; cases e)
/-- another list grows, the bits stay -/
theorem BitsL.exB {C a r t : Addr} {H H' : Hp} {l : List Bool} (k : ExB t H H') (ha : a ≠ t) (hr : r ≠ t) (h : BitsL C H a r l) : BitsL C H' a r l := by
  obtain ⟨dx, b, p, e2, h1, h2, h3⟩ := h
  exact ⟨dx, b, p, e2, k _ _ ha h1, k _ _ hr h2, h3⟩
section
variable {P : Program} {w : World} {K : PySem.W.Frag} {mg : Str → Option Value} {base : Heap} {f : Addr} {fd : FuncData} {aM C CB : Addr}
def spBitsInit (C : Addr) : Sp := fun vs H Q _ => ∃ p dx r i j, vs = [.ref p, .ref r, nv i, nv j] ∧ H p = some (.ins C dx []) ∧ ∀ H', ExB p H H' → H' p = some (.ins C dx (bF r (8 * i) (8 * j))) → Q .non H'
theorem ok_Bits_init (TI : BitsT K C) (F : Fun K "__init__" "Bits.__init__" s_Bits_init f fd) : FnOk P w K mg base CX0 1 f fd ["self", "row", "first", "behind"] (spBitsInit C) := by
  refine F.ok sc_Bits_init (fun vs H Q E h => ?_) (fun cdv A outer s H vs Q E hr h => ?_)
  · obtain ⟨p, dx, r, i, j, rfl, _⟩ := h
    rfl
  obtain ⟨p, dx, r, i, j, rfl, hp, q⟩ := h
  refine ⟨_, (pss_cons (ps_fld (pv 0) (pv 1) rfl)
    (pss_cons (ps_fld (pv 0) (pe_op op_mul pe_int (pv 2)) rfl)
    (pss_one (ps_fld (pv 0) (pe_op op_mul pe_int (pv 3)) rfl)))), ?_⟩
  refine q_fld (v := .ref r) (ev_var rfl) (ev_var rfl) hp TI.cl TI.nR (by decide) fun H1 e1 => ?_
  refine q_fld (v := nv (8 * i)) (ev_is (ev_I ev_c (ev_var rfl) (.inl ⟨by decide, by decide⟩)) (by show V.int _ = V.int _; congr 1)) (ev_var rfl) upd_same TI.cl TI.nP (by show 1 < 1000; decide) fun H2 e2 => ?_
  refine s_fld (v := nv (8 * j)) (ev_is (ev_I ev_c (ev_var rfl) (.inl ⟨by decide, by decide⟩)) (by show V.int _ = V.int _; congr 1)) (ev_var rfl) upd_same TI.cl TI.nE (by show 2 < 1000; decide) fun H3 e3 => ?_
  refine q _ ?_ ?_
  · exact (ex_b e1).trans (ExB.upd.trans ((ex_b e2).trans (ExB.upd.trans ((ex_b e3).trans ExB.upd))))
  · rw [upd_same]
    congr 2
/-! ### one -/
def spOne (C CB : Addr) : Sp := fun vs H Q E => ∃ a r l, vs = [.ref a] ∧ BitsL C H a r l ∧ (l = [] → ∀ H', Ex H H' → E (.ref CB) none H') ∧ ∀ c l', l = c :: l' → ∀ H', ExB a H H' → BitsL C H' a r l' → Q (nv (bit c)) H'
theorem ok_Bits_one (TI : BitsT K C) (TB : BrT K mg CB) (F : Fun K "one" "Bits.one" s_Bits_one f fd) : FnOk P w K mg base (L2N.CX P w) 1 f fd ["self"] (spOne C CB) := by
  refine okN F sc_Bits_one (fun vs H Q E h => ?_) (fun cdv A outer s H vs Q E hr h => ?_)
  · obtain ⟨a, r, l, rfl, _⟩ := h
    rfl
  obtain ⟨a, r, l, rfl, ⟨dx, b, p, e, ha, hb, hpe, he8, hl⟩, qE, q⟩ := h
  refine ⟨_, (pss_cons (ps_if (pt_cmpR op_eq (pe_fld (pv 0) rfl) (pe_fld (pv 0) rfl) (nomark _))
      (pss_one (L2N.ps_raise rfl (L2N.takes_of rfl rfl rfl rfl) (pmk_own0 PySem.F.excBase_Exception TB.xF TB.gF TB.kF (raises_own TB.bF TB.tF) (by exact rfl))))
      pss_nil)
    (pss_cons (ps_set (i := 1) sc_Bits_one.nd rfl (Or.inl rfl) (pe_op op_and (pe_op op_shr (pe_ix ix_list (pe_fld (pv 0) rfl) (pe_op op_fdiv (pe_fld (pv 0) rfl) pe_int) (fun _ _ => rfl)) (pe_op op_mod (pe_fld (pv 0) rfl) pe_int)) pe_int))
    (pss_cons (ps_fldaug (pv 0) pe_int in_add)
    (pss_one (ps_ret (pv 1)))))), ?_⟩
  refine q_when (b := decide (p = e)) (et_is (et_test (ev_eqI (ev_fld (ev_var rfl) ha TI.cl TI.nP (bF_p _ _ _)) (ev_fld (ev_var rfl) ha TI.cl TI.nE (bF_e _ _ _)))) (by rw [decide_eq_decide]; omega)) (fun hc H1 e1 => ?_) (fun hc H1 e1 => ?_)
  · have hc := of_decide_eq_true hc
    subst hc
    refine qE ?_ H1 e1
    rw [hl, Nat.sub_self, List.take_zero]
  · have hc := of_decide_eq_false hc
    have hlt : p / 8 < b.length := by omega
    have hbit := toBits_get b p _ (List.getElem?_eq_getElem hlt)
    have hll : l = b[p / 8].toNat.testBit (p % 8) :: ((toBits b).drop (p + 1)).take (e - (p + 1)) := by
      rw [hl]
      obtain ⟨h1, h2⟩ := List.getElem?_eq_some_iff.mp hbit
      rw [List.drop_eq_getElem_cons h1, h2, show e - p = (e - (p + 1)) + 1 by omega, List.take_succ_cons]
    have ha1 := e1 _ _ ha
    have hra : r ≠ a := fun z => by rw [z, ha] at hb; cases hb
    refine q_asg (v := nv (bit (b[p / 8].toNat.testBit (p % 8)))) (ev_is (ev_I0 (ev_I (ev_ix (ev_fld (ev_var rfl) ha1 TI.cl TI.nR (bF_r _ _ _)) (ev_I (ev_fld (ev_var rfl) ha1 TI.cl TI.nP (bF_p _ _ _)) ev_c ⟨by decide, by decide⟩) (sq_of (e1 _ _ hb)) (text_get hlt) (by omega)) (ev_I (ev_fld (ev_var rfl) ha1 TI.cl TI.nP (bF_p _ _ _)) ev_c (by show (0 : Int) < 8; decide)) (by show (0 : Int) ≤ (p : Int) % 8; omega)) ev_c) ?_) fun H2 e2 => ?_
    · show V.int _ = V.int _
      have : ((p : Int) % 8).toNat = p % 8 := by omega
      rw [this, and1, bit_testBit]
    refine q_fldaug (i := (p : Int)) (j := 1) (ev_var rfl) (e2 _ _ ha1) TI.cl TI.nP (bF_p _ _ _) ev_c (bF_len _ _ _) fun H3 e3 => ?_
    have ep : ((p : Nat) : Int) + 1 = ((p + 1 : Nat) : Int) := by omega
    rw [ep, bF_put]
    refine s_ret (ev_var rfl) fun H4 e4 => ?_
    have k4 : ExB a H1 H4 := ((ex_b (e2.trans e3)).trans ExB.upd).trans (ex_b e4)
    refine q _ _ hll H4 ((ex_b e1).trans k4) ⟨dx, b, p + 1, e, e4 _ _ upd_same, k4 _ _ hra (e1 _ _ hb), by omega, he8, rfl⟩
/-! ### number -/
def spNum (C CB : Addr) : Sp := fun vs H Q E => ∃ a r k l, vs = [.ref a, nv k] ∧ k ≤ 100 ∧ BitsL C H a r l ∧ (takeBits k l = none → ∀ H', ExB a H H' → E (.ref CB) none H') ∧ ∀ x l', takeBits k l = some (x, l') → ∀ H', ExB a H H' → BitsL C H' a r l' → Q (nv x) H'
theorem ok_Bits_number (T : Gs K mg aM) (M_one : DefM P w K mg base (L2N.CX P w) 1 C "one" ["self"] (spOne C CB)) (F : Fun K "number" "Bits.number" s_Bits_number f fd) : FnOk P w K mg base (L2N.CX P w) 2 f fd ["self", "count"] (spNum C CB) := by
  refine okN F sc_Bits_number (fun vs H Q E h => ?_) (fun cdv A outer s H vs Q E hr h => ?_)
  · obtain ⟨a, r, k, l, rfl, _⟩ := h
    rfl
  obtain ⟨a, r, k, l, rfl, hk, hL, qE, q⟩ := h
  refine ⟨_, (pss_cons (ps_set (i := 2) sc_Bits_number.nd rfl (Or.inl rfl) pe_int)
    (pss_cons (ps_for (passes_of rfl) rfl (pi_range1 (by rfl) T.b_range (pa_cons (pv 1) pa_nil)) (pg_name (i := 3) sc_Bits_number.nd rfl (Or.inl rfl) (Or.inl rfl))
      (pss_one (ps_aug (i := 2) sc_Bits_number.nd rfl (Or.inl rfl) (pe_op op_shl (pe_methD0 M_one (pv 0) hr (passR rfl rfl rfl rfl)) (pv 3)) ip_add)))
    (pss_one (ps_ret (pv 2))))), ?_⟩
  refine q_asg (v := nv 0) ev_c fun H1 e1 => ?_
  refine q_forR1 (n := (k : Int)) (ea_cons (ev_var rfl) ea_nil) ⟨by omega, by omega⟩ (fun i σ H' => ∃ v, σ = [some (.ref a), some (nv k), some (nv (numLow (l.take i))), v] ∧ ExB a H H' ∧ i ≤ l.length ∧ BitsL C H' a r (l.drop i)) (fun H2 e2 => ⟨none, rfl, ex_b (e1.trans e2), Nat.zero_le _, hL.ex (e1.trans e2)⟩) ?_ ?_
  · rintro i σ H2 hi ⟨v, rfl, k2, hil, hL2⟩
    have hi' : i < k := by omega
    refine ⟨_, rfl, op_raw (meth_raw ?_)⟩
    refine (ev_var (v := .ref a) rfl) H2 (Ex.refl _) _ fun H3 e3 => ?_
    have hL3 := hL2.ex e3
    obtain ⟨dx, b, p, e, ha3, _⟩ := id hL3
    refine ⟨a, dx, _, rfl, ha3, bF_no _ _ _ (by decide +kernel) (by decide +kernel) (by decide +kernel), ?_⟩
    refine ⟨a, r, l.drop i, rfl, hL3, fun hnil H4 e4 => qE (takeBits_none ?_) H4 (k2.trans (ex_b (e3.trans e4))), fun c l' hcl H4 k4 hL4 => ?_⟩
    · have := congrArg List.length hnil
      rw [List.length_drop] at this
      have h0 : ([] : List Bool).length = 0 := rfl
      omega
    refine (ev_var (v := nv i) rfl) H4 (Ex.refl _) _ fun H5 e5 => ?_
    have hbit := bit_le c
    refine ⟨(bit c : Int), (i : Int), rfl, rfl, ⟨by omega, by omega, by omega⟩, _, _, rfl, rfl, ?_⟩
    have hic : l[i]? = some c := by
      have := congrArg (fun l => l[0]?) hcl
      simp only [List.getElem?_drop, Nat.add_zero] at this
      rw [this]
      rfl
    have hlt := (List.getElem?_eq_some_iff.mp hic).1
    have hdr : l.drop (i + 1) = l' := by
      rw [← List.drop_drop, hcl]
      rfl
    refine ⟨some (nv i), ?_, (k2.trans (ex_b e3)).trans (k4.trans (ex_b e5)), by omega, ?_⟩
    · rw [numLow_more hic]
      have : (((numLow (l.take i) : Nat) : Int) + (bit c : Int) * 2 ^ ((i : Int)).toNat) = ((numLow (l.take i) + bit c * 2 ^ i : Nat) : Int) := by
        rw [Int.toNat_natCast, Int.natCast_add, Int.natCast_mul, Int.natCast_pow]
        rfl
      exact congrArg (fun z => [some (V.ref a), some (nv k), some (V.int z), some (nv i)]) this
    · rw [hdr]
      exact hL4.ex e5
  · rintro σ H2 ⟨v, rfl, k2, hil, hL2⟩
    rw [Int.toNat_natCast] at hil hL2
    refine s_ret (ev_var rfl) fun H3 e3 => ?_
    exact q _ _ (takeBits_some hil) H3 (k2.trans (ex_b e3)) (hL2.ex e3)
/-! ### read_lengths -/
def spReadLen (C CB : Addr) : Sp := fun vs H Q E => ∃ a r l, vs = [.ref a] ∧ BitsL C H a r l ∧ (readLengths 277 276 0 l = none → ∀ H', ExB a H H' → E (.ref CB) none H') ∧ ∀ y l', readLengths 277 276 0 l = some (y, l') → ∀ p H', H p = none → ExB a H H' → BitsL C H' a r l' → H' p = some (.lst (nvs y)) → y.length = 276 → (∀ n ∈ y, n ≤ 15) → Q (.ref p) H'
theorem ok_read_lengths (T : Gs K mg aM) (TB : BrT K mg CB) (M_number : DefM P w K mg base (L2N.CX P w) 2 C "number" ["self", "count"] (spNum C CB)) (F : Fun K "read_lengths" "read_lengths" s_read_lengths f fd) : FnOk P w K mg base (L2N.CX P w) 3 f fd ["bits"] (spReadLen C CB) := by
  refine okN F sc_read_lengths (fun vs H Q E h => ?_) (fun cdv A outer s H vs Q E hr h => ?_)
  · obtain ⟨a, r, l, rfl, _⟩ := h
    rfl
  obtain ⟨a, r, l, rfl, hL, qE, q⟩ := h
  refine ⟨_, (pss_cons (ps_set (i := 1) sc_read_lengths.nd rfl (Or.inl rfl) (pe_lst pa_nil))
    (pss_cons (ps_set (i := 2) sc_read_lengths.nd rfl (Or.inl rfl) pe_bl)
    (pss_cons (ps_while (passes_of rfl) (pt_cmpR op_lt (pe_callB call_len_seq (by rfl) T.b_len (by decide +kernel) (pa_cons (pv 1) pa_nil)) (pe_op op_add (pe_k T.SYMBOLS) (pe_k T.CLASSES)) (nomark _))
      (pss_cons (ps_set (i := 3) sc_read_lengths.nd rfl (Or.inl rfl) (pe_methD M_number (pv 0) hr (passR rfl rfl rfl rfl) (pa_cons pe_int pa_nil)))
    (pss_one (ps_if (pt_cmpR op_gt (pv 3) pe_int (nomark _))
      (pss_cons (ps_expr (pe_bm PySem.F.plainAttrs_list PySem.F.slot_list_append PySem.F.type_list_append mt_append (pv 1) (pa_cons (pv 3) pa_nil)))
    (pss_one (ps_set (i := 2) sc_read_lengths.nd rfl (Or.inl rfl) pe_bl)))
      (pss_cons (ps_set (i := 4) sc_read_lengths.nd rfl (Or.inl rfl) (pe_op op_add (pe_methD M_number (pv 0) hr (passR rfl rfl rfl rfl) (pa_cons pe_int pa_nil)) pe_int))
    (pss_cons (ps_if (PW.pt (pw_or (pt_val (pv 2)) (pw_or1 (pt_cmpR op_gt (pe_op op_add (pe_callB call_len_seq (by rfl) T.b_len (by decide +kernel) (pa_cons (pv 1) pa_nil)) (pv 4)) (pe_op op_add (pe_k T.SYMBOLS) (pe_k T.CLASSES)) (nomark _)))))
      (pss_one (L2N.ps_raise rfl (L2N.takes_of rfl rfl rfl rfl) (pmk_own0 PySem.F.excBase_Exception TB.xF TB.gF TB.kF (raises_own TB.bF TB.tF) (by exact rfl))))
      pss_nil)
    (pss_cons (ps_expr (pe_bm PySem.F.plainAttrs_list PySem.F.slot_list_extend PySem.F.type_list_extend mt_extend (pv 1) (pa_cons (pe_op op_rep (pe_lst (pa_cons pe_int pa_nil)) (pv 4)) pa_nil)))
    (pss_one (ps_set (i := 2) sc_read_lengths.nd rfl (Or.inl rfl) (pe_cmpR op_lt (pv 4) pe_int (nomark _)))))))))))
    (pss_one (ps_ret (pv 1)))))), ?_⟩
  refine q_asgL (el_lst ea_nil (by decide)) fun p H1 hp e1 h1 => ?_
  refine q_asg (v := .bl false) ev_c fun H2 e2 => ?_
  have hpa : p ≠ a := fun e => hL.ne.1 (e ▸ hp)
  have hrp : r ≠ p := fun e => hL.ne.2 (e ▸ hp)
  refine q_while (fun m σ H' => ∃ lens run l' v3 v4, σ = [some (.ref a), some (.ref p), some (.bl (decide (run ≠ 0 ∧ run < 256))), v3, v4] ∧ ExB a H H' ∧ H' p = some (.lst (nvs lens)) ∧ BitsL C H' a r l' ∧ LenTo l lens run l' ∧ m = 300 - lens.length) _
    ⟨[], 0, l, none, none, rfl, ex_b (e1.trans e2), e2 _ _ h1, hL.ex (e1.trans e2), lenTo_start l, rfl⟩ ?_
  rintro m σ H3 ⟨lens, run, l', v3, v4, rfl, k3, hp3, hL3, hT, rfl⟩
  have hle := hT.1
  refine ⟨decide (lens.length < 276), et_is (et_test (ev_I0 (ev_lenN (ev_var rfl) (sq_of hp3)) (ev_I0 ev_c ev_c))) (by rw [decide_eq_decide]; omega), fun hc H4 e4 => ?_, fun hc H4 e4 => ?_⟩
  · have hc := of_decide_eq_true hc
    refine ⟨fun σ H' => ∃ lens2 run2 l2 v3 v4, lens.length < lens2.length ∧ σ = [some (.ref a), some (.ref p), some (.bl (decide (run2 ≠ 0 ∧ run2 < 256))), v3, v4] ∧ ExB a H H' ∧ H' p = some (.lst (nvs lens2)) ∧ BitsL C H' a r l2 ∧ LenTo l lens2 run2 l2, ?_, ?_⟩
    · rintro σ2 H' ⟨lens2, run2, l2, v3, v4, hlt, h1, h2, h3, h4, h5⟩
      have := h5.1
      exact ⟨300 - lens2.length, by omega, lens2, run2, l2, v3, v4, h1, h2, h3, h4, h5, rfl⟩
    -- length = bits.number(4)
    refine q_raw (meth_raw ?_)
    refine (ev_var (v := .ref a) rfl) H4 (Ex.refl _) _ fun H5 e5 => ?_
    have e45 := e4.trans e5
    have hL5 := hL3.ex e45
    obtain ⟨dx, b, pp, ee, ha5, _⟩ := id hL5
    refine ⟨a, dx, _, rfl, ha5, bF_no _ _ _ (by decide +kernel) (by decide +kernel) (by decide +kernel), ?_⟩
    refine (ea_cons (x := nv 4) ev_c ea_nil) H5 (Ex.refl _) _ fun H6 e6 => ?_
    refine ⟨a, r, 4, l', rfl, by decide, hL5.ex e6, fun hn H7 k7 => qE (hT.none4 hc hn) H7 ((k3.trans (ex_b (e45.trans e6))).trans k7), fun x l2 hx H7 k7 hL7 => ?_⟩
    have kH7 : ExB a H H7 := (k3.trans (ex_b (e45.trans e6))).trans k7
    have hp7 : H7 p = some (.lst (nvs lens)) := k7 _ _ hpa ((e45.trans e6) _ _ hp3)
    show tIfS _ _ _ _ _ _
    refine s_if (b := decide (0 < x)) (et_is (et_test (ev_I0 (ev_var rfl) ev_c)) (by rw [decide_eq_decide]; omega)) (fun hx0 H8 e8 => ?_) (fun hx0 H8 e8 => ?_)
    · have hx0 := of_decide_eq_true hx0
      refine q_app (e8 _ _ hp7) (ev_var rfl) (v := nv x) (ev_var rfl) (by rw [nvs_length]; omega) fun H9 e9 => ?_
      have kB : ExB p H7 (upd H9 p (.lst (nvs lens ++ [nv x]))) := (ex_b (e8.trans e9)).trans ExB.upd
      refine s_asg (v := .bl false) ev_c fun H10 e10 => ⟨lens ++ [x], 0, l2, _, _, by rw [List.length_append]; exact Nat.lt_succ_self _, rfl, ?_, ?_, (hL7.exB kB hpa.symm hrp).ex e10, hT.one hc hx (by omega)⟩
      · intro o u ho hu
        exact e10 _ _ (kB _ _ (ne_of_none hu hp) (kH7 o u ho hu))
      · rw [nvs_append]
        exact e10 _ _ upd_same
    · have hx0 : x = 0 := by have := of_decide_eq_false hx0; omega
      subst hx0
      -- run = bits.number(8) + 1
      refine q_raw (op_raw (meth_raw ?_))
      refine (ev_var (v := .ref a) rfl) H8 (Ex.refl _) _ fun H9 e9 => ?_
      have hL9 := hL7.ex (e8.trans e9)
      obtain ⟨dx, b, pp, ee, ha9, _⟩ := id hL9
      refine ⟨a, dx, _, rfl, ha9, bF_no _ _ _ (by decide +kernel) (by decide +kernel) (by decide +kernel), ?_⟩
      refine (ea_cons (x := nv 8) ev_c ea_nil) H9 (Ex.refl _) _ fun H10 e10 => ?_
      have kH10 : ExB a H H10 := kH7.trans (ex_b ((e8.trans e9).trans e10))
      refine ⟨a, r, 8, l2, rfl, by decide, hL9.ex e10, fun hn H11 k11 => qE (hT.none8 hc hx hn) H11 (kH10.trans k11), fun k l3 hk H11 k11 hL11 => ?_⟩
      have hk8 := (takeBits_lt hk).1
      refine (ev_c (v := nv 1)) H11 (Ex.refl _) _ fun H12 e12 => ?_
      refine ⟨(k : Int), 1, rfl, rfl, ?_⟩
      have kH12 : ExB a H H12 := (kH10.trans k11).trans (ex_b e12)
      have hp12 : H12 p = some (.lst (nvs lens)) := e12 _ _ (k11 _ _ hpa (((e8.trans e9).trans e10) _ _ hp7))
      show tSeq _ _ _ _ _
      refine q_when (b := decide (run ≠ 0 ∧ run < 256) || decide (276 < lens.length + (k + 1))) (et_or (et_B (ev_var rfl)) fun _ => et_is (et_test (ev_I0 (ev_I0 (ev_lenN (ev_var rfl) (sq_of hp12)) (ev_var rfl)) (ev_I0 ev_c ev_c))) (by rw [decide_eq_decide]; omega)) (fun hb H13 e13 => ?_) (fun hb H13 e13 => ?_)
      · rw [Bool.or_eq_true, decide_eq_true_eq, decide_eq_true_eq] at hb
        exact qE (hT.bad hc hx hk hb) H13 (kH12.trans (ex_b e13))
      · rw [Bool.or_eq_false_iff, decide_eq_false_iff_not, decide_eq_false_iff_not] at hb
        have hb' : ¬ ((run ≠ 0 ∧ run < 256) ∨ 276 < lens.length + (k + 1)) := fun h => h.elim hb.1 hb.2
        refine q_ext (ys := nvs (List.replicate (k + 1) 0)) (e13 _ _ hp12) (ev_var rfl) (el_is (el_rep (x := nv 0) (k := k + 1) (el_lst (ea_cons ev_c ea_nil) (Nat.le_of_ble_eq_true rfl)) (ev_var rfl) (sz_of (by omega))) (nvs_rep _ _)) ?_ fun H14 e14 => ?_
        · rw [nvs_length, nvs_length, List.length_replicate]
          exact sz_of (by omega)
        rw [← nvs_append]
        have kB : ExB p H12 (upd H14 p (.lst (nvs (lens ++ List.replicate (k + 1) 0)))) := (ex_b (e13.trans e14)).trans ExB.upd
        refine s_asg (v := .bl (decide (k + 1 ≠ 0 ∧ k + 1 < 256))) (ev_is (ev_I0 (ev_var rfl) ev_c) ?_) fun H15 e15 => ⟨lens ++ List.replicate (k + 1) 0, k + 1, l3, _, _, by rw [List.length_append, List.length_replicate]; omega, rfl, ?_, e15 _ _ upd_same, ((hL11.ex e12).exB kB hpa.symm hrp).ex e15, hT.run hc hx hk hb'⟩
        · congr 1
          rw [decide_eq_decide]
          omega
        · intro o u ho hu
          exact e15 _ _ (kB _ _ (ne_of_none hu hp) (kH12 o u ho hu))
  · have hc := of_decide_eq_false hc
    have hl : lens.length = 276 := by omega
    refine s_ret (ev_var rfl) fun H5 e5 => q _ _ (hT.stop hl) p H5 hp (k3.trans (ex_b (e4.trans e5))) (hL3.ex (e4.trans e5)) ((e4.trans e5) _ _ hp3) hl hT.2.1
end
end Gz
end

/-! ## W16 -/
section
set_option Elab.async false
set_option linter.all false
set_option maxRecDepth 100000
set_option maxHeartbeats 4000000
namespace Gz
open PySem PySem.Spec PyProof.Rows L2 Evl
open SwSqueeze (toBits takeBits numLow readLengths readNumber readSymbol readSteps codewords wholeCode)
section
variable {P : Program} {w : World} {K : PySem.W.Frag} {mg : Str → Option Value} {base : Heap} {f : Addr} {fd : FuncData} {aM C CB : Addr}
/-! ### check_codes -/
def spCheck (K : PySem.W.Frag) (CB : Addr) : Sp := fun vs H Q E => ∃ a b c d, vs = [.ref a, .ref b] ∧ SqL K H a (nvs c) ∧ SqL K H b (nvs d) ∧ c.length ≤ 300 ∧ d.length ≤ 300 ∧ (∀ n ∈ c, n ≤ 15) ∧ (∀ n ∈ d, n ≤ 15) ∧
  (codesBad c d → ∀ H', Ex H H' → E (.ref CB) none H') ∧ (¬ codesBad c d → ∀ H', Ex H H' → Q .non H')
theorem cutV_to {xs : List V} {n : Nat} : cutV xs none (some (n : Int)) = xs.take n := by
  unfold cutV
  rw [HT.sIx_nat, HT.sIx_none, List.drop_zero, Nat.sub_zero, List.take_eq_take_iff]
  omega
theorem ok_check_codes (T : Gs K mg aM) (TB : BrT K mg CB) (D_is_whole : Def P w K mg base CX0 1 "is_whole" ["lengths"] (spWhole K)) (F : Fun K "check_codes" "check_codes" s_check_codes f fd) : FnOk P w K mg base (L2N.CX P w) 2 f fd ["first", "second"] (spCheck K CB) := by
  refine okN F sc_check_codes (fun vs H Q E h => ?_) (fun cdv A outer s H vs Q E hr h => ?_)
  · obtain ⟨a, b, c, d, rfl, _⟩ := h
    rfl
  obtain ⟨a, b, c, d, rfl, hC, hD, hcl, hdl, hc15, hd15, qE, q⟩ := h
  refine ⟨_, (pss_cons (ps_if (PW.pt (pw_or (pt_not (pt_val (pe_callD D_is_whole hr rfl pass0 (pa_cons (pv 0) pa_nil)))) (pw_or1 (pt_not (pt_val (pe_callD D_is_whole hr rfl pass0 (pa_cons (pv 1) pa_nil)))))))
      (pss_one (L2N.ps_raise rfl (L2N.takes_of rfl rfl rfl rfl) (pmk_own0 PySem.F.excBase_Exception TB.xF TB.gF TB.kF (raises_own TB.bF TB.tF) (by exact rfl))))
      pss_nil)
    (pss_cons (ps_if (pt_cmpR op_eq (pe_callB (cr_sum rfl) (by rfl) T.b_sum (by decide +kernel) (pa_cons (pv 0) pa_nil)) pe_int (nomark _))
      (pss_one (L2N.ps_raise rfl (L2N.takes_of rfl rfl rfl rfl) (pmk_own0 PySem.F.excBase_Exception TB.xF TB.gF TB.kF (raises_own TB.bF TB.tF) (by exact rfl))))
      pss_nil)
    (pss_one (ps_if (PW.pt (pw_and (pt_cmpR op_gt (pe_callB (cr_sum rfl) (by rfl) T.b_sum (by decide +kernel) (pa_cons (pe_slice sl_list (pv 0) (po_some (pe_k T.LETTERS)) po_none) pa_nil)) pe_int (nomark _)) (pw_and1 (pt_cmpR op_eq (pe_callB (cr_sum rfl) (by rfl) T.b_sum (by decide +kernel) (pa_cons (pv 1) pa_nil)) pe_int (nomark _)))))
      (pss_one (L2N.ps_raise rfl (L2N.takes_of rfl rfl rfl rfl) (pmk_own0 PySem.F.excBase_Exception TB.xF TB.gF TB.kF (raises_own TB.bF TB.tF) (by exact rfl))))
      pss_nil)))), ?_⟩
  refine q_when (b := !wholeCode c || !wholeCode d) (et_or (et_not (et_B (ev_call (ea_cons (ev_var rfl) ea_nil) fun H1 e1 Q1 q1 E1 => ⟨a, c, rfl, ex_l e1 hC, hcl, hc15, q1⟩))) fun _ => et_not (et_B (ev_call (ea_cons (ev_var rfl) ea_nil) fun H1 e1 Q1 q1 E1 => ⟨b, d, rfl, ex_l e1 hD, hdl, hd15, q1⟩))) (fun hb H1 e1 => ?_) (fun hb H1 e1 => ?_)
  · rw [Bool.or_eq_true, Bool.not_eq_true', Bool.not_eq_true'] at hb
    exact qE (hb.elim (fun h => .inl h) fun h => .inr (.inl h)) H1 e1
  rw [Bool.or_eq_false_iff, Bool.not_eq_false', Bool.not_eq_false'] at hb
  refine q_when (b := decide (c.sum = 0)) (et_is (et_test (ev_eqI (ev_sumS (ev_var rfl) (ex_l e1 hC)) ev_c)) (by rw [decide_eq_decide]; omega)) (fun hb2 H2 e2 => ?_) (fun hb2 H2 e2 => ?_)
  · exact qE (.inr (.inr (.inl ((sum_zero c).mp (of_decide_eq_true hb2))))) H2 (e1.trans e2)
  have hb2 := of_decide_eq_false hb2
  refine s_when (b := decide (0 < (c.drop 256).sum) && decide (d.sum = 0)) (et_and (et_is (et_test (ev_I0 (ev_sum (l := c.drop 256) (el_is (el_sl (ev_var rfl) (eo_some ev_c) eo_none (ex_l (e1.trans e2) hC)) ?_)) ev_c)) (by rw [decide_eq_decide]; omega)) fun _ => et_is (et_test (ev_eqI (ev_sumS (ev_var rfl) (ex_l (e1.trans e2) hD)) ev_c)) (by rw [decide_eq_decide]; omega)) (fun hb3 H3 e3 => ?_) (fun hb3 H3 e3 => ?_)
  · by_cases h : 256 ≤ (nvs c).length
    · exact (cutV_from h).trans (by unfold nvs; rw [List.map_drop])
    · unfold cutV
      rw [show HT.sIx (nvs c).length 0 (some ((256 : Nat) : Int)) = min 256 (nvs c).length from HT.sIx_nat _ _ _, HT.sIx_none, Nat.min_eq_right (by omega), Nat.sub_self, List.take_zero]
      rw [nvs_length] at h
      rw [List.drop_eq_nil_of_le (by omega)]
      rfl
  · rw [Bool.and_eq_true, decide_eq_true_eq, decide_eq_true_eq] at hb3
    exact qE (.inr (.inr (.inr ⟨(sum_any _).mp hb3.1, (sum_zero d).mp hb3.2⟩))) H3 ((e1.trans e2).trans e3)
  · refine q (fun hbad => ?_) H3 ((e1.trans e2).trans e3)
    rw [Bool.and_eq_false_iff, decide_eq_false_iff_not, decide_eq_false_iff_not] at hb3
    rcases hbad with h | h | h | ⟨h, h'⟩
    · rw [hb.1] at h; cases h
    · rw [hb.2] at h; cases h
    · exact hb2 ((sum_zero c).mpr h)
    · exact hb3.elim (fun x => x ((sum_any _).mpr h)) fun x => x ((sum_zero d).mpr h')
/-! ### table_of -/
def TblD (H : Hp) (p : Addr) (ws : List (Nat × Nat × Nat)) : Prop := ∃ kvs : List (Key × V), H p = some (.dK kvs) ∧ ∀ k : Nat, valV kvs (.inl (k : Int)) = (tblGet ws k).map nv
theorem TblD.ex {H H' : Hp} {p : Addr} {ws : List (Nat × Nat × Nat)} (e : Ex H H') (h : TblD H p ws) : TblD H' p ws := by
  obtain ⟨kvs, h1, h2⟩ := h
  exact ⟨kvs, e _ _ h1, h2⟩
theorem TblD.exB {H H' : Hp} {p a : Addr} {ws : List (Nat × Nat × Nat)} (k : ExB a H H') (hp : p ≠ a) (h : TblD H p ws) : TblD H' p ws := by
  obtain ⟨kvs, h1, h2⟩ := h
  exact ⟨kvs, k _ _ hp h1, h2⟩
theorem tbl_more {ws : List (Nat × Nat × Nat)} (W : Words ws) {k : Nat} {q : Nat × Nat × Nat} (hq : ws[k]? = some q) (x : Nat) : tblGet (ws.take (k + 1)) x = if x = tkey q then some q.1 else tblGet (ws.take k) x := by
  unfold tblGet
  rw [take_more hq, List.find?_append]
  by_cases hx : x = tkey q
  · rw [if_pos hx]
    have hno : (ws.take k).find? (fun t => tkey t == x) = none := by
      rw [List.find?_eq_none]
      intro t ht he
      have he : tkey t = x := by simpa using he
      obtain ⟨i, hi⟩ := List.mem_iff_getElem?.mp ht
      rw [List.getElem?_take] at hi
      split at hi
      · rename_i hik
        have hnd := W.keys
        obtain ⟨h5, h6⟩ := List.getElem?_eq_some_iff.mp hi
        obtain ⟨h7, h8⟩ := List.getElem?_eq_some_iff.mp hq
        have h9 := List.pairwise_iff_getElem.mp hnd i k (by rw [List.length_map]; exact h5) (by rw [List.length_map]; exact h7) hik
        rw [List.getElem_map, List.getElem_map, h6, h8] at h9
        exact h9 (by rw [he, hx])
      · cases hi
    rw [hno, Option.none_or, hx]
    simp
  · rw [if_neg hx]
    have : [q].find? (fun t => tkey t == x) = none := by
      rw [List.find?_eq_none]
      intro t ht he
      rw [List.mem_singleton.mp ht] at he
      exact hx (by simpa using (beq_iff_eq.mp he).symm)
    rw [this, Option.or_none]
def spTable (K : PySem.W.Frag) : Sp := fun vs H Q _ => ∃ (a : Addr) (l : List Nat), vs = [.ref a] ∧ SqL K H a (nvs l) ∧ l.length ≤ 300 ∧ (∀ n ∈ l, n ≤ 15) ∧ wholeCode l = true ∧ ∀ p H2, H p = none → Ex H H2 → TblD H2 p (codewords l) → Q (.ref p) H2
theorem ok_table_of (D_codewords : Def P w K mg base CX0 1 "codewords" ["lengths"] (spCodewords K)) (F : Fun K "table_of" "table_of" s_table_of f fd) : FnOk P w K mg base CX0 2 f fd ["lengths"] (spTable K) := by
  refine F.ok sc_table_of (fun vs H Q E h => ?_) (fun cdv A outer s H vs Q E hr h => ?_)
  · obtain ⟨a, l, rfl, _⟩ := h
    rfl
  obtain ⟨a, l, rfl, hS, hl, h15, hwh, q⟩ := h
  refine ⟨_, (pss_cons (ps_set (i := 1) sc_table_of.nd rfl (Or.inl rfl) pe_dnewK)
    (pss_cons (ps_for PassesOwn.never rfl (pi_list (pe_callD D_codewords hr rfl pass0 (pa_cons (pv 0) pa_nil))) (pg_tup rfl (pgs_cons (pg_name (i := 2) sc_table_of.nd rfl (Or.inl rfl) (Or.inl rfl)) (pgs_cons (pg_name (i := 3) sc_table_of.nd rfl (Or.inl rfl) (Or.inl rfl)) (pgs_cons (pg_name (i := 4) sc_table_of.nd rfl (Or.inl rfl) (Or.inl rfl)) pgs_nil))))
      (pss_one (ps_dput (u1 hr) (pv 1) (pe_op op_add (pe_op op_shl pe_int (pv 3)) (pv 4)) (pv 2) rfl)))
    (pss_one (ps_ret (pv 1))))), ?_⟩
  have W := words_of h15 hwh
  have hcl := codewords_len_le l h15
  refine q_raw ?_
  intro p hp
  have e1 : Ex H (upd H p (.dK [])) := Ex.new hp
  refine q_forTrN (ps := codewords l) (fun H2 e2 Q2 q2 => ?_) (fun r ys k σ H' => ∃ v2 v3 v4 kvs, σ = [some (.ref a), some (.ref p), v2, v3, v4] ∧ Ex H H' ∧ H' p = some (.dK kvs) ∧ kvs.length ≤ k ∧ (∀ x : Nat, valV kvs (.inl (x : Int)) = (tblGet ((codewords l).take k) x).map nv) ∧ H' r = some (.lst ys) ∧ Ts H' ys ((codewords l).map tr) ∧ r ≠ p) ?_ ?_ ?_ ?_
  · refine call_raw ?_
    refine (ea_cons (ev_var rfl) ea_nil) H2 (Ex.refl _) _ fun H3 e3 => ?_
    exact ⟨a, l, rfl, ex_l ((e1.trans e2).trans e3) hS, hl, h15, fun r H4 hr4 e4 h4 => q2 r H4 (fresh_back e3 hr4) (e3.trans e4) h4⟩
  · intro r ys H2 hr2 e2 h2 hts
    refine ⟨none, none, none, [], rfl, e1.trans e2, e2 _ _ upd_same, Nat.le_refl _, fun x => rfl, h2, hts, fun e => ?_⟩
    rw [e, upd_same] at hr2
    cases hr2
  · rintro r ys k σ H' ⟨_, _, _, _, _, _, _, _, _, h, h2, _⟩
    exact ⟨h, h2⟩
  · rintro r ys k q0 σ H2 hq ⟨v2, v3, v4, kvs, rfl, e2, hp2, hkl, hkv, hr2, hts2, hrp⟩
    obtain ⟨hq2, hq3, hq4⟩ := W.ok q0 (List.mem_of_getElem? hq)
    have hk := (List.getElem?_eq_some_iff.mp hq).1
    refine dp_raw ?_
    refine (ev_var (v := nv q0.1) rfl) H2 (Ex.refl _) _ fun H3 e3 => ?_
    refine (ev_var (v := .ref p) rfl) H3 (Ex.refl _) _ fun H4 e4 => ?_
    refine (ev_is (w := nv (tkey q0)) (ev_I0 (ev_I ev_c (ev_var rfl) ⟨by omega, by omega, by decide⟩) (ev_var rfl)) ?_) H4 (Ex.refl _) _ fun H5 e5 => ?_
    · show V.int _ = V.int _
      unfold tkey
      rw [Int.toNat_natCast, Int.one_mul, Int.natCast_add, Int.natCast_pow]
      rfl
    have e25 := (e3.trans e4).trans e5
    have hp5 := e25 _ _ hp2
    refine ⟨p, _, rfl, DPut.k (k := (.inl ((tkey q0 : Nat) : Int) : Key)) hp5 (sz_lt (by omega)), ?_⟩
    refine ⟨_, _, _, _, rfl, Ex.mut (e2.trans e25) hp, upd_same, ?_, fun x => ?_, ?_, ?_, hrp⟩
    · have := length_putK kvs (.inl ((tkey q0 : Nat) : Int) : Key) (nv q0.1)
      omega
    · rw [valV_put, tbl_more W hq]
      by_cases hx : x = tkey q0
      · rw [if_pos (by rw [hx]), if_pos hx]
        rfl
      · rw [if_neg (fun e => hx (by injection e with e; omega)), if_neg hx]
        exact hkv x
    · rw [upd_ne hrp]
      exact e25 _ _ hr2
    · refine Paired.mapP (hts2.ex e25) fun y x ⟨u, ey, hu⟩ => ⟨u, ey, ?_⟩
      rw [upd_ne (ne_of hu hp5 fun z => by cases z)]
      exact hu
  · rintro r ys σ H2 ⟨v2, v3, v4, kvs, rfl, e2, hp2, hkl, hkv, hr2, hts2, hrp⟩
    rw [List.take_length] at hkv
    exact s_ret (ev_var rfl) fun H3 e3 => q p H3 hp (e2.trans e3) ⟨kvs, e3 _ _ hp2, hkv⟩
/-! ### read_symbol -/
def spReadSym (C CB : Addr) : Sp := fun vs H Q E => ∃ a r l d ws, vs = [.ref a, .ref d] ∧ BitsL C H a r l ∧ TblD H d ws ∧ Words ws ∧ (readSymbol ws l = none → ∀ H', ExB a H H' → E (.ref CB) none H') ∧ ∀ s l', readSymbol ws l = some (s, l') → ∀ H', ExB a H H' → BitsL C H' a r l' → Q (nv s) H'
theorem ok_read_symbol (T : Gs K mg aM) (TB : BrT K mg CB) (M_one : DefM P w K mg base (L2N.CX P w) 1 C "one" ["self"] (spOne C CB)) (F : Fun K "read_symbol" "read_symbol" s_read_symbol f fd) : FnOk P w K mg base (L2N.CX P w) 2 f fd ["bits", "table"] (spReadSym C CB) := by
  refine okN F sc_read_symbol (fun vs H Q E h => ?_) (fun cdv A outer s H vs Q E hr h => ?_)
  · obtain ⟨a, r, l, d, ws, rfl, _⟩ := h
    rfl
  obtain ⟨a, r, l, d, ws, rfl, hL, ⟨kvs, hd, hkv⟩, W, qE, q⟩ := h
  refine ⟨_, (pss_cons (ps_set (i := 2) sc_read_symbol.nd rfl (Or.inl rfl) pe_int)
    (pss_cons (ps_for (passes_of rfl) rfl (pi_range1 (by rfl) T.b_range (pa_cons (pe_k T.LONGEST) pa_nil)) (pg_name (i := 3) sc_read_symbol.nd rfl (Or.inl rfl) (Or.inl rfl))
      (pss_cons (ps_set (i := 2) sc_read_symbol.nd rfl (Or.inl rfl) (pe_op op_add (pe_op op_mul pe_int (pv 2)) (pe_methD0 M_one (pv 0) hr (passR rfl rfl rfl rfl))))
    (pss_one (ps_if (pt_cmp (pc_din (u1 hr) (pv 2) (pv 1)))
      (pss_one (ps_ret (pe_dget (u1 hr) (pv 1) (pv 2) (fun _ _ => rfl))))
      pss_nil))))
    (pss_one (L2N.ps_raise rfl (L2N.takes_of rfl rfl rfl rfl) (pmk_own0 PySem.F.excBase_Exception TB.xF TB.gF TB.kF (raises_own TB.bF TB.tF) (by exact rfl)))))), ?_⟩
  have hda : d ≠ a := fun e => by
    obtain ⟨dx, b, p, e2, h1, _⟩ := hL
    rw [e, h1] at hd
    cases hd
  refine q_asg (v := nv 1) ev_c fun H1 e1 => ?_
  refine q_forR1 (n := 15) (ea_cons ev_c ea_nil) ⟨by decide, by decide⟩ (fun i σ H' => ∃ v, σ = [some (.ref a), some (.ref d), some (nv (keyBits (l.take i))), v] ∧ ExB a H H' ∧ i ≤ l.length ∧ BitsL C H' a r (l.drop i) ∧ ∀ j, 1 ≤ j → j ≤ i → tblGet ws (keyBits (l.take j)) = none)
    (fun H2 e2 => ⟨none, rfl, ex_b (e1.trans e2), Nat.zero_le _, hL.ex (e1.trans e2), fun j h1 h2 => by omega⟩) ?_ ?_
  · rintro i σ H2 hi ⟨v, rfl, k2, hil, hL2, hno⟩
    have hi' : i < 15 := by omega
    refine q_raw (op_raw ?_)
    refine (ev_is (w := nv (2 * keyBits (l.take i))) (ev_I ev_c (ev_var rfl) (.inl ⟨by decide, by decide⟩)) (by show V.int _ = V.int _; congr 1)) H2 (Ex.refl _) _ fun H3 e3 => ?_
    refine meth_raw ?_
    refine (ev_var (v := .ref a) rfl) H3 (Ex.refl _) _ fun H4 e4 => ?_
    have hL4 := hL2.ex (e3.trans e4)
    obtain ⟨dx, b, p, e, ha4, _⟩ := id hL4
    refine ⟨a, dx, _, rfl, ha4, bF_no _ _ _ (by decide +kernel) (by decide +kernel) (by decide +kernel), ?_⟩
    refine ⟨a, r, l.drop i, rfl, hL4, fun hnil H5 e5 => qE (readSymbol_none W fun j h1 h2 h3 => hno j h1 ?_) H5 (k2.trans (ex_b ((e3.trans e4).trans e5))), fun c l' hcl H5 k5 hL5 => ?_⟩
    · have := congrArg List.length hnil
      rw [List.length_drop] at this
      have h0 : ([] : List Bool).length = 0 := rfl
      omega
    have hic : l[i]? = some c := by
      have := congrArg (fun l => l[0]?) hcl
      simp only [List.getElem?_drop, Nat.add_zero] at this
      rw [this]
      rfl
    have hlt := (List.getElem?_eq_some_iff.mp hic).1
    have hdr : l.drop (i + 1) = l' := by
      rw [← List.drop_drop, hcl]
      rfl
    have hkey : keyBits (l.take (i + 1)) = 2 * keyBits (l.take i) + bit c := by rw [take_more hic, keyBits_snoc]
    refine ⟨_, _, rfl, rfl, ?_⟩
    have k25 : ExB a H H5 := (k2.trans (ex_b (e3.trans e4))).trans k5
    have hd5 := k25 _ _ hda hd
    have hvar : ([some (V.ref a), some (V.ref d), some (nv (keyBits (l.take i))), v].set 3 (some (V.int (i : Int)))).set 2 (some (V.int (((2 * keyBits (l.take i) : Nat) : Int) + (bit c : Int)))) = [some (.ref a), some (.ref d), some (nv (keyBits (l.take (i + 1)))), some (nv i)] := by
      rw [hkey]
      rfl
    show tIfS _ _ tNext _ (([some (V.ref a), some (V.ref d), some (nv (keyBits (l.take i))), v].set 3 (some (V.int (i : Int)))).set 2 (some (V.int (((2 * keyBits (l.take i) : Nat) : Int) + (bit c : Int))))) H5
    rw [hvar]
    refine s_when (b := (tblGet ws (keyBits (l.take (i + 1)))).isSome) (fun H6 e6 Q6 q6 => ?_) (fun hb H6 e6 => ?_) (fun hb H6 e6 => ?_)
    · refine tb_raw (di_raw ?_)
      refine (ev_var (v := nv (keyBits (l.take (i + 1)))) rfl) H6 (Ex.refl _) _ fun H7 e7 => ?_
      refine (ev_var (v := .ref d) rfl) H7 (Ex.refl _) _ fun H8 e8 => ?_
      refine ⟨d, _, rfl, DGet.k (k := (.inl ((keyBits (l.take (i + 1)) : Nat) : Int) : Key)) (((e6.trans e7).trans e8) _ _ hd5), _, rfl, ?_⟩
      rw [hkv, Option.isSome_map]
      exact q6 H8 (e7.trans e8)
    · obtain ⟨s, hs⟩ := Option.isSome_iff_exists.mp hb
      have hv := hkv (keyBits (l.take (i + 1)))
      rw [hs] at hv
      refine s_ret (ev_dget (ev_var rfl) (ev_var rfl) (e6 _ _ hd5) hv) fun H7 e7 => ?_
      refine q s _ (readSymbol_some W (m := i + 1) (by omega) (fun j h1 h2 => hno j h1 (by omega)) hs) H7 (k25.trans (ex_b (e6.trans e7))) ?_
      rw [hdr]
      exact hL5.ex (e6.trans e7)
    · refine ⟨some (nv i), rfl, k25.trans (ex_b e6), by omega, by rw [hdr]; exact hL5.ex e6, fun j h1 h2 => ?_⟩
      by_cases hj : j = i + 1
      · rw [hj]
        cases h : tblGet ws (keyBits (l.take (i + 1))) with
        | none => rfl
        | some s => rw [h] at hb; cases hb
      · exact hno j h1 (by omega)
  · rintro σ H2 ⟨v, rfl, k2, hil, hL2, hno⟩
    exact qE (readSymbol_none W fun j h1 h2 h3 => hno j h1 h2) H2 k2
/-! ### read_value -/
def spReadVal (C CB : Addr) : Sp := fun vs H Q E => ∃ a r l g, vs = [.ref a, nv g] ∧ g ≤ 20 ∧ BitsL C H a r l ∧ (readNumber g l = none → ∀ H', ExB a H H' → E (.ref CB) none H') ∧ ∀ x l', readNumber g l = some (x, l') → ∀ H', ExB a H H' → BitsL C H' a r l' → Q (nv x) H'
theorem ok_read_value (T : Gs K mg aM) (D_lowest : Def P w K mg base CX0 1 "lowest" ["group"] spLowest) (D_further : Def P w K mg base CX0 1 "further" ["group"] spFurther) (M_number : DefM P w K mg base (L2N.CX P w) 2 C "number" ["self", "count"] (spNum C CB))
    (F : Fun K "read_value" "read_value" s_read_value f fd) : FnOk P w K mg base (L2N.CX P w) 3 f fd ["bits", "group"] (spReadVal C CB) := by
  refine okN F sc_read_value (fun vs H Q E h => ?_) (fun cdv A outer s H vs Q E hr h => ?_)
  · obtain ⟨a, r, l, g, rfl, _⟩ := h
    rfl
  obtain ⟨a, r, l, g, rfl, hg, hL, qE, q⟩ := h
  refine ⟨_, (pss_one (ps_ret (pe_op op_add (pe_callD D_lowest hr rfl pass0 (pa_cons (pv 1) pa_nil)) (pe_methD M_number (pv 0) hr (passR rfl rfl rfl rfl) (pa_cons (pe_callD D_further hr rfl pass0 (pa_cons (pv 1) pa_nil)) pa_nil))))), ?_⟩
  refine r_raw (op_raw ?_)
  refine (ev_call (z := nv (if g = 0 then 0 else 2 ^ (g - 1))) (ea_cons (ev_var rfl) ea_nil) fun H1 e1 Q1 q1 E1 => ⟨g, rfl, by omega, q1⟩) H (Ex.refl _) _ fun H1 e1 => ?_
  refine meth_raw ?_
  refine (ev_var (v := .ref a) rfl) H1 (Ex.refl _) _ fun H2 e2 => ?_
  have hL2 := hL.ex (e1.trans e2)
  obtain ⟨dx, b, p, e, ha2, _⟩ := id hL2
  refine ⟨a, dx, _, rfl, ha2, bF_no _ _ _ (by decide +kernel) (by decide +kernel) (by decide +kernel), ?_⟩
  refine (ea_cons (x := nv (g - 1)) (ev_call (ea_cons (ev_var rfl) ea_nil) fun H3 e3 Q3 q3 E3 => ⟨g, rfl, q3⟩) ea_nil) H2 (Ex.refl _) _ fun H3 e3 => ?_
  have e13 := (e1.trans e2).trans e3
  have hrn : readNumber g l = (takeBits (g - 1) l).map fun x => ((if g = 0 then 0 else 2 ^ (g - 1)) + x.1, x.2) := by
    by_cases h0 : g = 0
    · subst h0
      rw [readNumber_zero, takeBits_some (Nat.zero_le _)]
      rfl
    · unfold readNumber
      rw [if_neg h0, if_neg h0]
  refine ⟨a, r, g - 1, l, rfl, by omega, hL2.ex e3, fun hn H4 k4 => qE (by rw [hrn, hn]; rfl) H4 ((ex_b e13).trans k4), fun x l' hx H4 k4 hL4 => ?_⟩
  refine ⟨_, _, rfl, rfl, ?_⟩
  exact q _ l' (by rw [hrn, hx]; rfl) H4 ((ex_b e13).trans k4) hL4
/-! ### copy_match -/
def spCopy : Sp := fun vs H Q _ => ∃ t out n d, vs = [.ref t, nv n, nv d] ∧ H t = some (.lst (nvs (bs out))) ∧ 1 ≤ d ∧ d ≤ out.length ∧ out.length + n ≤ 5000 ∧ ∀ H', ExB t H H' → H' t = some (.lst (nvs (bs (SwSqueeze.copy out.toArray d n).toList))) → Q .non H'
theorem ok_copy_match (T : Gs K mg aM) (F : Fun K "copy_match" "copy_match" s_copy_match f fd) : FnOk P w K mg base CX0 1 f fd ["text", "length", "distance"] spCopy := by
  refine F.ok sc_copy_match (fun vs H Q E h => ?_) (fun cdv A outer s H vs Q E hr h => ?_)
  · obtain ⟨t, out, n, d, rfl, _⟩ := h
    rfl
  obtain ⟨t, out, n, d, rfl, ht, hd1, hd, hn, q⟩ := h
  refine ⟨_, (pss_cons (ps_set (i := 3) sc_copy_match.nd rfl (Or.inl rfl) (pe_op op_sub (pe_callB call_len_seq (by rfl) T.b_len (by decide +kernel) (pa_cons (pv 0) pa_nil)) (pv 2)))
    (pss_one (ps_for PassesOwn.never rfl (pi_range1 (by rfl) T.b_range (pa_cons (pv 1) pa_nil)) (pg_name (i := 4) sc_copy_match.nd rfl (Or.inl rfl) (Or.inl rfl))
      (pss_one (ps_expr (pe_bm PySem.F.plainAttrs_list PySem.F.slot_list_append PySem.F.type_list_append mt_append (pv 0) (pa_cons (pe_ix ix_list (pv 0) (pe_op op_add (pv 3) (pv 4)) (fun _ _ => rfl)) pa_nil))))))), ?_⟩
  refine q_asg (v := nv (out.length - d)) (ev_is (ev_I0 (ev_lenT (ev_var rfl) (sq_of ht)) (ev_var rfl)) (by show V.int _ = V.int _; congr 1; omega)) fun H1 e1 => ?_
  refine s_forR1 (n := (n : Int)) (ea_cons (ev_var rfl) ea_nil) ⟨by omega, by omega⟩ (fun i σ H' => ∃ v, σ = [some (.ref t), some (nv n), some (nv d), some (nv (out.length - d)), v] ∧ ExB t H H' ∧ H' t = some (.lst (nvs (bs (SwSqueeze.copy out.toArray d i).toList)))) (fun H2 e2 => ⟨none, rfl, ex_b (e1.trans e2), (e1.trans e2) _ _ ht⟩) ?_ ?_
  · rintro i σ H2 hi ⟨v, rfl, k2, h2⟩
    have hi' : i < n := by omega
    have hsz : (SwSqueeze.copy out.toArray d i).size = out.length + i := by rw [copy_size, List.size_toArray]
    have hmore := copy_more i out.toArray d
    generalize SwSqueeze.copy out.toArray d i = c at h2 hsz hmore
    have hlt : out.length - d + i < c.toList.length := by rw [Array.length_toList (xs := c)]; omega
    refine s_app (v := nv (c.toList[out.length - d + i].toNat)) h2 (ev_var rfl) (ev_ix (ev_var rfl) (ev_I0 (ev_var rfl) (ev_var rfl)) (sq_of h2) (text_get hlt) (by omega)) (by rw [nvs_length, bs_length, Array.length_toList (xs := c)]; omega) fun H3 e3 => ⟨some (nv i), rfl, (k2.trans (ex_b e3)).trans ExB.upd, ?_⟩
    rw [upd_same, hmore, Array.toList_push, bs_append, nvs_append]
    have : c.getD (c.size - d) 0 = c.toList[out.length - d + i] := by
      have hlt2 : out.length - d + i < c.size := by omega
      rw [Array.getElem_toList, show c.size - d = out.length - d + i by omega]
      unfold Array.getD
      rw [dif_pos hlt2]
      rfl
    rw [this]
    rfl
  · rintro σ H2 ⟨v, rfl, k2, h2⟩
    rw [Int.toNat_natCast] at h2
    exact q H2 k2 h2
end
end Gz
end

/-! ## W17 -/
section
set_option Elab.async false
set_option linter.all false
set_option maxRecDepth 100000
set_option maxHeartbeats 4000000
namespace Gz
open PySem PySem.Spec PyProof.Rows L2 Evl
open SwSqueeze (toBits takeBits numLow readLengths readNumber readSymbol readSteps codewords wholeCode readCoded)
section
variable {P : Program} {w : World} {K : PySem.W.Frag} {mg : Str → Option Value} {base : Heap} {f : Addr} {fd : FuncData} {aM C CB : Addr}
theorem sym_lt {ws : List (Nat × Nat × Nat)} {l l' : List Bool} {s n : Nat} (hws : ∀ t ∈ ws, t.1 < n) (h : readSymbol ws l = some (s, l')) : s < n := by
  unfold readSymbol at h
  obtain ⟨t, ht, e⟩ := Option.map_eq_some_iff.mp h
  have := hws t (List.mem_of_find?_eq_some ht)
  have e1 : t.1 = s := congrArg Prod.fst e
  omega
theorem num_lt {g : Nat} {l l' : List Bool} {x : Nat} (h : readNumber g l = some (x, l')) : x < 2 ^ g := by
  unfold readNumber at h
  by_cases h0 : g = 0
  · rw [if_pos h0] at h
    have : x = 0 := (congrArg Prod.fst (Option.some.inj h)).symm
    rw [this]
    exact Nat.two_pow_pos g
  · rw [if_neg h0] at h
    obtain ⟨y, hy, e⟩ := Option.map_eq_some_iff.mp h
    have h1 := (takeBits_lt hy).1
    have e1 : 2 ^ (g - 1) + y.1 = x := congrArg Prod.fst e
    have h2 : 2 ^ g = 2 * 2 ^ (g - 1) := by
      conv => lhs; rw [show g = (g - 1) + 1 by omega, Nat.pow_succ, Nat.mul_comm]
    omega
theorem nil_raw {σ : L2.St} {H : Hp} {Q : List V → Hp → Prop} (h : Q [] H) : tNil σ H Q := h
theorem or_raw {t u : TT} {σ : L2.St} {H : Hp} {Q : Bool → Hp → Prop} (h : t σ H fun b H1 => if b = true then Q true H1 else u σ H1 Q) : tOr t u σ H Q := h
theorem if_raw {c : TT} {t u : TS} {σ : L2.St} {H : Hp} {D : Ends} (h : c σ H fun b H1 => if b = true then t D σ H1 else u D σ H1) : tIfS c t u D σ H := h
theorem tt_raw {te : TE} {σ : L2.St} {H : Hp} {Q : Bool → Hp → Prop} (h : te σ H fun x H' => ∃ k, x = .bl k ∧ Q k H') : tTest te σ H Q := h
/-! ### read_steps -/
def spReadSteps (C CB : Addr) : Sp := fun vs H Q E => ∃ a r l n b c ws wd, vs = [.ref a, nv n, .ref b, .ref c] ∧ BitsL C H a r l ∧ TblD H b ws ∧ TblD H c wd ∧ Words ws ∧ Words wd ∧ (∀ t ∈ ws, t.1 < 265) ∧ (∀ t ∈ wd, t.1 < 11) ∧ n ≤ 1024 ∧
  (readSteps ws wd n (n + 1) #[] l = none → ∀ H', ExB a H H' → E (.ref CB) none H') ∧ ∀ z l', readSteps ws wd n (n + 1) #[] l = some (z, l') → ∀ p H', H p = none → ExB a H H' → BitsL C H' a r l' → H' p = some (.lst (nvs (bs z.toList))) → Q (.ref p) H'
theorem TblD.neA {a r p : Addr} {H : Hp} {l : List Bool} {ws : List (Nat × Nat × Nat)} (h : TblD H p ws) (hL : BitsL C H a r l) : p ≠ a := fun e => by
  obtain ⟨dx, b, p2, e2, h1, _⟩ := hL
  obtain ⟨kvs, h2, _⟩ := h
  rw [e, h1] at h2
  cases h2
theorem TblD.ne {p : Addr} {H : Hp} {ws : List (Nat × Nat × Nat)} (h : TblD H p ws) : H p ≠ none := by
  obtain ⟨kvs, h2, _⟩ := h
  rw [h2]
  exact fun e => by cases e
theorem ok_read_steps (T : Gs K mg aM) (TB : BrT K mg CB) (D_read_symbol : Def P w K mg base (L2N.CX P w) 2 "read_symbol" ["bits", "table"] (spReadSym C CB)) (D_read_value : Def P w K mg base (L2N.CX P w) 3 "read_value" ["bits", "group"] (spReadVal C CB))
    (D_copy_match : Def P w K mg base CX0 1 "copy_match" ["text", "length", "distance"] spCopy) (F : Fun K "read_steps" "read_steps" s_read_steps f fd) : FnOk P w K mg base (L2N.CX P w) 4 f fd ["bits", "count", "symbols", "classes"] (spReadSteps C CB) := by
  refine okN F sc_read_steps (fun vs H Q E h => ?_) (fun cdv A outer s H vs Q E hr h => ?_)
  · obtain ⟨a, r, l, n, b, c, ws, wd, rfl, _⟩ := h
    rfl
  obtain ⟨a, r, l, n, b, c, ws, wd, rfl, hL, hB, hC, Ws, Wd, hws, hwd, hn, qE, q⟩ := h
  refine ⟨_, (pss_cons (ps_set (i := 4) sc_read_steps.nd rfl (Or.inl rfl) (pe_lst pa_nil))
    (pss_cons (ps_while (passes_of rfl) (pt_cmpR op_lt (pe_callB call_len_seq (by rfl) T.b_len (by decide +kernel) (pa_cons (pv 4) pa_nil)) (pv 1) (nomark _))
      (pss_cons (ps_set (i := 5) sc_read_steps.nd rfl (Or.inl rfl) (pe_callD D_read_symbol hr rfl (passR rfl rfl rfl rfl) (pa_cons (pv 0) (pa_cons (pv 2) pa_nil))))
    (pss_one (ps_if (pt_cmpR op_lt (pv 5) (pe_k T.LETTERS) (nomark _))
      (pss_one (ps_expr (pe_bm PySem.F.plainAttrs_list PySem.F.slot_list_append PySem.F.type_list_append mt_append (pv 4) (pa_cons (pv 5) pa_nil))))
      (pss_cons (ps_set (i := 6) sc_read_steps.nd rfl (Or.inl rfl) (pe_op op_add (pe_callD D_read_value hr rfl (passR rfl rfl rfl rfl) (pa_cons (pv 0) (pa_cons (pe_op op_sub (pv 5) (pe_k T.LETTERS)) pa_nil))) (pe_k T.LEAST)))
    (pss_cons (ps_set (i := 7) sc_read_steps.nd rfl (Or.inl rfl) (pe_op op_add (pe_callD D_read_value hr rfl (passR rfl rfl rfl rfl) (pa_cons (pv 0) (pa_cons (pe_callD D_read_symbol hr rfl (passR rfl rfl rfl rfl) (pa_cons (pv 0) (pa_cons (pv 3) pa_nil))) pa_nil))) pe_int))
    (pss_cons (ps_if (PW.pt (pw_or (pt_cmpR op_gt (pv 7) (pe_callB call_len_seq (by rfl) T.b_len (by decide +kernel) (pa_cons (pv 4) pa_nil)) (nomark _)) (pw_or1 (pt_cmpR op_gt (pe_op op_add (pe_callB call_len_seq (by rfl) T.b_len (by decide +kernel) (pa_cons (pv 4) pa_nil)) (pv 6)) (pv 1) (nomark _)))))
      (pss_one (L2N.ps_raise rfl (L2N.takes_of rfl rfl rfl rfl) (pmk_own0 PySem.F.excBase_Exception TB.xF TB.gF TB.kF (raises_own TB.bF TB.tF) (by exact rfl))))
      pss_nil)
    (pss_one (ps_expr (pe_callD D_copy_match hr rfl pass0 (pa_cons (pv 4) (pa_cons (pv 6) (pa_cons (pv 7) pa_nil)))))))))))))
    (pss_one (ps_ret (pv 4))))), ?_⟩
  have hba := hB.neA hL
  have hca := hC.neA hL
  refine q_asgL (el_lst ea_nil (by decide)) fun p H1 hp e1 h1 => ?_
  have hpa : p ≠ a := fun e => hL.ne.1 (e ▸ hp)
  have hrp : r ≠ p := fun e => hL.ne.2 (e ▸ hp)
  refine q_while (fun m σ H' => ∃ out l' v5 v6 v7, σ = [some (.ref a), some (nv n), some (.ref b), some (.ref c), some (.ref p), v5, v6, v7] ∧ ExB a H H' ∧ H' p = some (.lst (nvs (bs out))) ∧ BitsL C H' a r l' ∧ StepTo ws wd n l out l' ∧ m = 2000 - out.length) _
    ⟨[], l, none, none, none, rfl, ex_b e1, h1, hL.ex e1, stepTo_start, rfl⟩ ?_
  rintro m σ H3 ⟨out, l', v5, v6, v7, rfl, k3, hp3, hL3, hT, rfl⟩
  have hle := hT.1
  refine ⟨decide (out.length < n), et_is (et_test (ev_I0 (ev_lenT (ev_var rfl) (sq_of hp3)) (ev_var rfl))) (by rw [decide_eq_decide]; omega), fun hc H4 e4 => ?_, fun hc H4 e4 => ?_⟩
  · have hc := of_decide_eq_true hc
    refine ⟨fun σ H' => ∃ out2 l2 v5 v6 v7, out.length < out2.length ∧ σ = [some (.ref a), some (nv n), some (.ref b), some (.ref c), some (.ref p), v5, v6, v7] ∧ ExB a H H' ∧ H' p = some (.lst (nvs (bs out2))) ∧ BitsL C H' a r l2 ∧ StepTo ws wd n l out2 l2, ?_, ?_⟩
    · rintro σ2 H' ⟨out2, l2, v5, v6, v7, hlt, h1, h2, h3, h4, h5⟩
      have := h5.1
      exact ⟨2000 - out2.length, by omega, out2, l2, v5, v6, v7, h1, h2, h3, h4, h5, rfl⟩
    -- symbol = read_symbol(bits, symbols)
    refine q_raw (call_raw ?_)
    refine (ea_cons (ev_var rfl) (ea_cons (ev_var rfl) ea_nil)) H4 (Ex.refl _) _ fun H5 e5 => ?_
    have k5 : ExB a H H5 := k3.trans (ex_b (e4.trans e5))
    have e45 := e4.trans e5
    refine ⟨a, r, l', b, ws, rfl, hL3.ex e45, hB.exB k5 hba, Ws, fun hs H6 k6 => qE (hT.noSym hc hs) H6 (k5.trans k6), fun s l2 hs H6 k6 hL6 => ?_⟩
    have k6' := k5.trans k6
    have hs265 := sym_lt hws hs
    have hp6 : H6 p = some (.lst (nvs (bs out))) := k6 _ _ hpa (e45 _ _ hp3)
    show tIfS _ _ _ _ _ _
    refine s_if (b := decide (s < 256)) (et_is (et_test (ev_I0 (ev_var rfl) ev_c)) (by rw [decide_eq_decide]; omega)) (fun hb H7 e7 => ?_) (fun hb H7 e7 => ?_)
    · have hb := of_decide_eq_true hb
      refine s_app (v := nv s) (e7 _ _ hp6) (ev_var rfl) (ev_var rfl) (by rw [nvs_length, bs_length]; omega) fun H8 e8 => ?_
      have kB : ExB p H6 (upd H8 p (.lst (nvs (bs out) ++ [nv s]))) := (ex_b (e7.trans e8)).trans ExB.upd
      refine ⟨out ++ [UInt8.ofNat s], l2, _, _, _, by rw [List.length_append]; exact Nat.lt_succ_self _, rfl, fun o u ho hu => kB _ _ (ne_of_none hu hp) (k6' o u ho hu), ?_, hL6.exB kB hpa.symm hrp, hT.letter hc hs hb⟩
      rw [upd_same, bs_append, nvs_append]
      show some (HO.lst (_ ++ [nv s])) = some (HO.lst (_ ++ [nv (UInt8.ofNat s).toNat]))
      rw [toNat_ofNat_lt hb]
    · have hb := of_decide_eq_false hb
      -- length
      refine q_raw (op_raw (call_raw ?_))
      refine (ea_cons (ev_var (v := .ref a) rfl) (ea_cons (x := nv (s - 256)) (ev_is (ev_I0 (ev_var rfl) ev_c) (by show V.int _ = V.int _; congr 1; omega)) ea_nil)) H7 (Ex.refl _) _ fun H8 e8 => ?_
      have e68 := e7.trans e8
      have k8 : ExB a H H8 := k6'.trans (ex_b e68)
      refine ⟨a, r, l2, s - 256, rfl, by omega, hL6.ex e68, fun hy H9 k9 => qE (hT.noLen hc hs hb hy) H9 (k8.trans k9), fun y l3 hy H9 k9 hL9 => ?_⟩
      have hy9 := num_lt hy
      have hy9' : y < 512 := Nat.lt_of_lt_of_le hy9 (Nat.pow_le_pow_right (by decide) (by omega : s - 256 ≤ 9))
      refine (ev_c (v := nv 3)) H9 (Ex.refl _) _ fun H10 e10 => ?_
      refine ⟨_, _, rfl, rfl, ?_⟩
      have k10 : ExB a H H10 := (k8.trans k9).trans (ex_b e10)
      -- distance
      refine q_raw (op_raw (call_raw (cons_raw ?_)))
      refine (ev_var (v := .ref a) rfl) H10 (Ex.refl _) _ fun H11 e11 => ?_
      refine cons_raw (call_raw ?_)
      refine (ea_cons (ev_var (v := .ref a) rfl) (ea_cons (ev_var (v := .ref c) rfl) ea_nil)) H11 (Ex.refl _) _ fun H12 e12 => ?_
      have e9_12 := (e10.trans e11).trans e12
      have k12 : ExB a H H12 := (k8.trans k9).trans (ex_b e9_12)
      refine ⟨a, r, l3, c, wd, rfl, hL9.ex e9_12, hC.exB k12 hca, Wd, fun hz H13 k13 => qE (hT.noDist hc hs hb hy hz) H13 (k12.trans k13), fun z l4 hz H13 k13 hL13 => ?_⟩
      have hz11 := sym_lt hwd hz
      refine nil_raw ?_
      refine ⟨a, r, l4, z, rfl, by omega, hL13, fun hv H14 k14 => qE (hT.noVal hc hs hb hy hz hv) H14 ((k12.trans k13).trans k14), fun v l5 hv H14 k14 hL14 => ?_⟩
      have hv14 := num_lt hv
      have hv14' : v < 1024 := Nat.lt_of_lt_of_le hv14 (Nat.pow_le_pow_right (by decide) (by omega : z ≤ 10))
      refine (ev_c (v := nv 1)) H14 (Ex.refl _) _ fun H15 e15 => ?_
      refine ⟨_, _, rfl, rfl, ?_⟩
      have k15 : ExB a H H15 := ((k12.trans k13).trans k14).trans (ex_b e15)
      have hp15 : H15 p = some (.lst (nvs (bs out))) := e15 _ _ (k14 _ _ hpa (k13 _ _ hpa (e9_12 _ _ (k9 _ _ hpa (e68 _ _ hp6)))))
      obtain ⟨hboth1, hboth2⟩ := hT.both hc hs hb hy hz hv
      show tSeq _ _ _ _ _
      refine q_when (b := decide (out.length < v + 1) || decide (n < out.length + (y + 3))) (et_or (et_is (et_test (ev_I0 (ev_var rfl) (ev_lenT (ev_var rfl) (sq_of hp15)))) (by rw [decide_eq_decide]; omega)) fun _ => et_is (et_test (ev_I0 (ev_I0 (ev_lenT (ev_var rfl) (sq_of hp15)) (ev_var rfl)) (ev_var rfl))) (by rw [decide_eq_decide]; omega)) (fun hx H16 e16 => ?_) (fun hx H16 e16 => ?_)
      · rw [Bool.or_eq_true, decide_eq_true_eq, decide_eq_true_eq] at hx
        exact qE (hboth1 hx) H16 (k15.trans (ex_b e16))
      · rw [Bool.or_eq_false_iff, decide_eq_false_iff_not, decide_eq_false_iff_not] at hx
        have hx' : ¬ (out.length < v + 1 ∨ n < out.length + (y + 3)) := fun h => h.elim hx.1 hx.2
        have hstep := hboth2 hx'
        refine d_raw (call_raw ?_)
        refine (ea_cons (ev_var (v := .ref p) rfl) (ea_cons (ev_var (v := nv (y + 3)) rfl) (ea_cons (ev_var (v := nv (v + 1)) rfl) ea_nil))) H16 (Ex.refl _) _ fun H17 e17 => ?_
        refine ⟨p, out, y + 3, v + 1, rfl, (e16.trans e17) _ _ hp15, by omega, by omega, by omega, fun H18 k18 h18 => ?_⟩
        have kB : ExB p H14 H18 := (ex_b ((e15.trans e16).trans e17)).trans k18
        refine ⟨_, l5, _, _, _, ?_, rfl, fun o u ho hu => kB _ _ (ne_of_none hu hp) (((k12.trans k13).trans k14) o u ho hu), h18, hL14.exB kB hpa.symm hrp, hstep⟩
        have : (SwSqueeze.copy out.toArray (v + 1) (y + 3)).toList.length = out.length + (y + 3) := by rw [Array.length_toList, copy_size, List.size_toArray]
        omega
  · have hc := of_decide_eq_false hc
    have hl : out.length = n := by omega
    refine s_ret (ev_var rfl) fun H5 e5 => q _ _ (hT.stop hl) p H5 hp (k3.trans (ex_b (e4.trans e5))) (hL3.ex (e4.trans e5)) ((e4.trans e5) _ _ hp3)
/-! ### check_rest -/
def spRest (C CB : Addr) : Sp := fun vs H Q E => ∃ a r l, vs = [.ref a] ∧ BitsL C H a r l ∧ (¬ (l.length < 8 ∧ l.all (fun q : Bool => !q) = true) → ∀ H', ExB a H H' → E (.ref CB) none H') ∧ ((l.length < 8 ∧ l.all (fun q : Bool => !q) = true) → ∀ H', ExB a H H' → Q .non H')
theorem ok_check_rest (TI : BitsT K C) (TB : BrT K mg CB) (M_number : DefM P w K mg base (L2N.CX P w) 2 C "number" ["self", "count"] (spNum C CB)) (F : Fun K "check_rest" "check_rest" s_check_rest f fd) : FnOk P w K mg base (L2N.CX P w) 3 f fd ["bits"] (spRest C CB) := by
  refine okN F sc_check_rest (fun vs H Q E h => ?_) (fun cdv A outer s H vs Q E hr h => ?_)
  · obtain ⟨a, r, l, rfl, _⟩ := h
    rfl
  obtain ⟨a, r, l, rfl, hL, qE, q⟩ := h
  refine ⟨_, (pss_cons (ps_set (i := 1) sc_check_rest.nd rfl (Or.inl rfl) (pe_op op_sub (pe_fld (pv 0) rfl) (pe_fld (pv 0) rfl)))
    (pss_one (ps_if (PW.pt (pw_or (pt_cmpR op_ge (pv 1) pe_int (nomark _)) (pw_or1 (pt_cmpR op_gt (pe_methD M_number (pv 0) hr (passR rfl rfl rfl rfl) (pa_cons (pv 1) pa_nil)) pe_int (nomark _)))))
      (pss_one (L2N.ps_raise rfl (L2N.takes_of rfl rfl rfl rfl) (pmk_own0 PySem.F.excBase_Exception TB.xF TB.gF TB.kF (raises_own TB.bF TB.tF) (by exact rfl))))
      pss_nil))), ?_⟩
  obtain ⟨dx, b, p, e, ha, hb, hpe, he8, hl⟩ := id hL
  have hll : l.length = e - p := by rw [hl, List.length_take, List.length_drop, toBits_length]; omega
  refine q_asg (v := nv l.length) (ev_is (ev_I0 (ev_fld (ev_var rfl) ha TI.cl TI.nE (bF_e _ _ _)) (ev_fld (ev_var rfl) ha TI.cl TI.nP (bF_p _ _ _))) (by show V.int _ = V.int _; congr 1; omega)) fun H1 e1 => ?_
  by_cases h8 : 8 ≤ l.length
  · refine s_when (b := true) (fun H2 e2 Q2 q2 => ?_) (fun _ H2 e2 => qE (fun h => by omega) H2 (ex_b (e1.trans e2))) (fun h => by cases h)
    refine or_raw ?_
    refine (et_is (b := true) (et_test (ev_I0 (ev_var rfl) ev_c)) (by rw [decide_eq_true_eq]; omega)) H2 (Ex.refl _) _ fun H3 e3 => ?_
    exact q2 H3 e3
  · refine if_raw (or_raw ?_)
    refine (et_is (b := false) (et_test (ev_I0 (ev_var rfl) ev_c)) (by rw [decide_eq_false_iff_not]; omega)) H1 (Ex.refl _) _ fun H2 e2 => ?_
    refine tt_raw (op_raw (meth_raw ?_))
    refine (ev_var (v := .ref a) rfl) H2 (Ex.refl _) _ fun H3 e3 => ?_
    have e13 := (e1.trans e2).trans e3
    refine ⟨a, dx, _, rfl, e13 _ _ ha, bF_no _ _ _ (by decide +kernel) (by decide +kernel) (by decide +kernel), ?_⟩
    refine (ea_cons (x := nv l.length) (ev_var rfl) ea_nil) H3 (Ex.refl _) _ fun H4 e4 => ?_
    refine ⟨a, r, l.length, l, rfl, by omega, hL.ex (e13.trans e4), fun hn => ?_, fun x l' hx H5 k5 hL5 => ?_⟩
    · rw [takeBits_some (Nat.le_refl _)] at hn
      cases hn
    have hx2 := (takeBits_lt hx).2.2.2
    rw [List.take_length] at hx2
    refine (ev_c (v := nv 0)) H5 (Ex.refl _) _ fun H6 e6 => ?_
    refine ⟨_, _, rfl, rfl, _, rfl, ?_⟩
    have k6 : ExB a H H6 := ((ex_b (e13.trans e4)).trans k5).trans (ex_b e6)
    by_cases h0 : x = 0
    · have hd : decide ((0 : Int) < (x : Int)) = false := by rw [decide_eq_false_iff_not]; omega
      show if decide ((0 : Int) < (x : Int)) = true then _ else _
      rw [if_neg (by rw [hd]; decide)]
      exact q ⟨by omega, (numLow_zero l).mp (by omega)⟩ H6 k6
    · have hd : decide ((0 : Int) < (x : Int)) = true := by rw [decide_eq_true_eq]; omega
      show if decide ((0 : Int) < (x : Int)) = true then _ else _
      rw [if_pos hd]
      exact qE (fun h => h0 (by rw [hx2]; exact (numLow_zero l).mpr h.2)) H6 k6
end
end Gz
end

/-! ## W18 -/
section
set_option Elab.async false
set_option linter.all false
set_option maxRecDepth 100000
set_option maxHeartbeats 4000000
namespace Gz
open PySem PySem.Spec PyProof.Rows L2 Evl
open SwSqueeze (toBits takeBits numLow readLengths readNumber readSymbol readSteps codewords wholeCode readCoded)
section
variable {P : Program} {w : World} {K : PySem.W.Frag} {mg : Str → Option Value} {base : Heap} {f : Addr} {fd : FuncData} {aM C CB : Addr}
theorem make_raw {sp : Sp} {dvs : List V} {E : XK} {tr : TA} {σ : L2.St} {H : Hp} {Q : VK} (h : tr σ H fun vs H1 => ∀ x dx, H1 x = none → H1 dx = none → dx ≠ x → sp (.ref x :: (vs ++ dvs)) (upd (upd H1 dx (.own x)) x (.ins C dx [])) (fun v H2 => v = .non ∧ Q (.ref x) H2) E) : tMake C sp dvs E tr σ H Q := h
/-! ### coded_text -/
def spCodedText (CB : Addr) : Sp := fun vs H Q E => ∃ r b i j, vs = [.ref r, nv i, nv j] ∧ H r = some (.lst (nvs (bs b))) ∧ i ≤ j ∧ j ≤ b.length ∧ (readCoded (Sw.part b i (j - i)) = none → ∀ H', Ex H H' → E (.ref CB) none H') ∧ ∀ t, readCoded (Sw.part b i (j - i)) = some t → RetN (bs t) H Q
theorem ok_coded_text (T : Gs K mg aM) (TB : BrT K mg CB) (M_Bits : DefC P w K mg base CX0 1 C "Bits" ["self", "row", "first", "behind"] (spBitsInit C)) (M_number : DefM P w K mg base (L2N.CX P w) 2 C "number" ["self", "count"] (spNum C CB))
    (D_read_lengths : Def P w K mg base (L2N.CX P w) 3 "read_lengths" ["bits"] (spReadLen C CB)) (D_check_codes : Def P w K mg base (L2N.CX P w) 2 "check_codes" ["first", "second"] (spCheck K CB)) (D_table_of : Def P w K mg base CX0 2 "table_of" ["lengths"] (spTable K))
    (D_read_steps : Def P w K mg base (L2N.CX P w) 4 "read_steps" ["bits", "count", "symbols", "classes"] (spReadSteps C CB)) (D_check_rest : Def P w K mg base (L2N.CX P w) 3 "check_rest" ["bits"] (spRest C CB))
    (F : Fun K "coded_text" "coded_text" s_coded_text f fd) : FnOk P w K mg base (L2N.CX P w) 5 f fd ["row", "first", "behind"] (spCodedText CB) := by
  refine okN F sc_coded_text (fun vs H Q E h => ?_) (fun cdv A outer s H vs Q E hr h => ?_)
  · obtain ⟨r, b, i, j, rfl, _⟩ := h
    rfl
  obtain ⟨r, b, i, j, rfl, hr0, hij, hjb, qE, q⟩ := h
  refine ⟨_, (pss_cons (ps_set (i := 3) sc_coded_text.nd rfl (Or.inl rfl) (pe_makeD M_Bits hr rfl (pa_cons (pv 0) (pa_cons (pv 1) (pa_cons (pv 2) pa_nil)))))
    (pss_cons (ps_set (i := 4) sc_coded_text.nd rfl (Or.inl rfl) (pe_op op_add (pe_methD M_number (pv 3) hr (passR rfl rfl rfl rfl) (pa_cons pe_int pa_nil)) pe_int))
    (pss_cons (ps_set (i := 5) sc_coded_text.nd rfl (Or.inl rfl) (pe_callD D_read_lengths hr rfl (passR rfl rfl rfl rfl) (pa_cons (pv 3) pa_nil)))
    (pss_cons (ps_expr (pe_callD D_check_codes hr rfl (passR rfl rfl rfl rfl) (pa_cons (pe_slice sl_list (pv 5) po_none (po_some (pe_k T.SYMBOLS))) (pa_cons (pe_slice sl_list (pv 5) (po_some (pe_k T.SYMBOLS)) po_none) pa_nil))))
    (pss_cons (ps_set (i := 6) sc_coded_text.nd rfl (Or.inl rfl) (pe_callD D_read_steps hr rfl (passR rfl rfl rfl rfl) (pa_cons (pv 3) (pa_cons (pv 4) (pa_cons (pe_callD D_table_of hr rfl pass0 (pa_cons (pe_slice sl_list (pv 5) po_none (po_some (pe_k T.SYMBOLS))) pa_nil)) (pa_cons (pe_callD D_table_of hr rfl pass0 (pa_cons (pe_slice sl_list (pv 5) (po_some (pe_k T.SYMBOLS)) po_none) pa_nil)) pa_nil))))))
    (pss_cons (ps_expr (pe_callD D_check_rest hr rfl (passR rfl rfl rfl rfl) (pa_cons (pv 3) pa_nil)))
    (pss_one (ps_ret (pv 6))))))))), ?_⟩
  -- bits = Bits(row, first, behind)
  refine q_raw (make_raw ?_)
  refine (ea_cons (ev_var rfl) (ea_cons (ev_var rfl) (ea_cons (ev_var rfl) ea_nil))) H (Ex.refl _) _ fun H1 e1 => ?_
  intro a dx ha hdx hda
  refine ⟨a, dx, r, i, j, rfl, upd_same, fun H2 k2 h2 => ⟨rfl, ?_⟩⟩
  have haH : H a = none := fresh_back e1 ha
  have eH2 : Ex H H2 := by
    have : Ex H1 (upd (upd H1 dx (.own a)) a (.ins C dx [])) := Ex.mut (Ex.new hdx) ha
    exact ExB.ex k2 (e1.trans this) haH
  rw [readCoded_eq, toBits_part] at qE q
  have hbits : BitsL C H2 a r (((toBits b).drop (8 * i)).take (8 * (j - i))) := ⟨dx, b, 8 * i, 8 * j, h2, eH2 _ _ hr0, by omega, by omega, by rw [show 8 * j - 8 * i = 8 * (j - i) by omega]⟩
  generalize ((toBits b).drop (8 * i)).take (8 * (j - i)) = l at hbits qE q
  have hex : ∀ {H' : Hp}, ExB a H2 H' → Ex H H' := fun k => k.ex eH2 haH
  -- count
  refine q_raw (op_raw (meth_raw ?_))
  refine (ev_var (v := .ref a) rfl) H2 (Ex.refl _) _ fun H3 e3 => ?_
  refine ⟨a, dx, _, rfl, e3 _ _ h2, bF_no _ _ _ (by decide +kernel) (by decide +kernel) (by decide +kernel), ?_⟩
  refine (ea_cons (x := nv 10) ev_c ea_nil) H3 (Ex.refl _) _ fun H4 e4 => ?_
  have e24 := e3.trans e4
  refine ⟨a, r, 10, l, rfl, by decide, hbits.ex e24, fun hn H5 k5 => qE (by rw [hn]; rfl) H5 (hex ((ex_b e24).trans k5)), fun x l1 hx H5 k5 hL5 => ?_⟩
  have hx10 := (takeBits_lt hx).1
  rw [hx] at qE q
  have k25 := (ex_b (a := a) e24).trans k5
  refine (ev_c (v := nv 1)) H5 (Ex.refl _) _ fun H6 e6 => ?_
  refine ⟨_, _, rfl, rfl, ?_⟩
  -- lengths
  refine q_raw (call_raw ?_)
  refine (ea_cons (ev_var (v := .ref a) rfl) ea_nil) H6 (Ex.refl _) _ fun H7 e7 => ?_
  have k27 := k25.trans (ex_b (e6.trans e7))
  refine ⟨a, r, l1, rfl, hL5.ex (e6.trans e7), fun hn H8 k8 => qE ?_ H8 (hex (k27.trans k8)), fun y l2 hy p H8 hp k8 hL8 hp8 hyl hy15 => ?_⟩
  · show (readLengths 277 276 0 l1).bind _ = none
    rw [hn]
    rfl
  have k28 := k27.trans k8
  have qE : (if codesBad (y.take 265) (y.drop 265) then none else (readSteps (codewords (y.take 265)) (codewords (y.drop 265)) (x + 1) (x + 2) #[] l2).bind fun (z : Array UInt8 × List Bool) => if z.2.length < 8 ∧ z.2.all (fun (q : Bool) => !q) = true then some z.1.toList else none) = none → ∀ H', Ex H H' → E (.ref CB) none H' := fun h => qE (by
    show (readLengths 277 276 0 l1).bind _ = none
    rw [hy]
    exact h)
  have q : ∀ t, (if codesBad (y.take 265) (y.drop 265) then none else (readSteps (codewords (y.take 265)) (codewords (y.drop 265)) (x + 1) (x + 2) #[] l2).bind fun (z : Array UInt8 × List Bool) => if z.2.length < 8 ∧ z.2.all (fun (q : Bool) => !q) = true then some z.1.toList else none) = some t → RetN (bs t) H Q := fun t h => q t (by
    show (readLengths 277 276 0 l1).bind _ = some t
    rw [hy]
    exact h)
  have hpa : p ≠ a := fun e => hL8.ne.1 (by
    have := (hL5.ex (e6.trans e7)).ne.1
    exact absurd (e ▸ hp) this)
  have hc15 : ∀ n ∈ y.take 265, n ≤ 15 := fun n hn => hy15 n (List.mem_of_mem_take hn)
  have hd15 : ∀ n ∈ y.drop 265, n ≤ 15 := fun n hn => hy15 n (List.mem_of_mem_drop hn)
  have hcl : (y.take 265).length = 265 := by rw [List.length_take]; omega
  have hdl : (y.drop 265).length = 11 := by rw [List.length_drop]; omega
  have sl1 : ∀ {σ : L2.St} {H' : Hp}, ExB a H8 H' → σ[5]? = some (some (.ref p)) → EvL (tSl (rSlL K) (tVar 5) tNoPart (tPart (tC (nv 265)))) σ H' (nvs (y.take 265)) := fun k hσ => el_is (el_sl (ev_var hσ) eo_none (eo_some ev_c) (sq_of (k _ _ hpa hp8))) (cutV_to.trans (by unfold nvs; rw [List.map_take]))
  have sl2 : ∀ {σ : L2.St} {H' : Hp}, ExB a H8 H' → σ[5]? = some (some (.ref p)) → EvL (tSl (rSlL K) (tVar 5) (tPart (tC (nv 265))) tNoPart) σ H' (nvs (y.drop 265)) := fun k hσ => el_is (el_sl (ev_var hσ) (eo_some ev_c) eo_none (sq_of (k _ _ hpa hp8))) ((cutV_from (by rw [nvs_length]; omega)).trans (by unfold nvs; rw [List.map_drop]))
  -- check_codes
  refine qd_raw (call_raw (cons_raw ?_))
  refine (sl1 (ExB.refl _ _) rfl) H8 (Ex.refl _) _ fun c H9 hc9 e9 h9 => ?_
  refine cons_raw ?_
  refine (sl2 (ex_b e9) rfl) H9 (Ex.refl _) _ fun d H10 hd10 e10 h10 => nil_raw ?_
  have e810 := e9.trans e10
  refine ⟨c, d, _, _, rfl, sq_of (e10 _ _ h9), sq_of h10, by omega, by omega, hc15, hd15, fun hbad H11 e11 => qE (by rw [if_pos hbad]) H11 (hex (k28.trans (ex_b (e810.trans e11)))), fun hgood H11 e11 => ?_⟩
  rw [if_neg hgood] at qE
  have q : ∀ t, ((readSteps (codewords (y.take 265)) (codewords (y.drop 265)) (x + 1) (x + 2) #[] l2).bind fun (z : Array UInt8 × List Bool) => if z.2.length < 8 ∧ z.2.all (fun (q : Bool) => !q) = true then some z.1.toList else none) = some t → RetN (bs t) H Q := fun t h => q t (by rw [if_neg hgood]; exact h)
  have hwc : wholeCode (y.take 265) = true := by
    cases h : wholeCode (y.take 265) with
    | true => rfl
    | false => exact absurd (.inl h) hgood
  have hwd : wholeCode (y.drop 265) = true := by
    cases h : wholeCode (y.drop 265) with
    | true => rfl
    | false => exact absurd (.inr (.inl h)) hgood
  have e811 := e810.trans e11
  -- text = read_steps(..)
  refine q_raw (call_raw (cons_raw ?_))
  refine (ev_var (v := .ref a) rfl) H11 (Ex.refl _) _ fun H12 e12 => ?_
  refine cons_raw ?_
  refine (ev_var (v := nv (x + 1)) rfl) H12 (Ex.refl _) _ fun H13 e13 => ?_
  refine cons_raw (call_raw (cons_raw ?_))
  have e813 := (e811.trans e12).trans e13
  refine (sl1 (ex_b e813) rfl) H13 (Ex.refl _) _ fun c2 H14 hc14 e14 h14 => nil_raw ?_
  refine ⟨c2, _, rfl, sq_of h14, by omega, hc15, hwc, fun t1 H15 ht1 e15 h15 => ?_⟩
  refine cons_raw (call_raw (cons_raw ?_))
  have e815 := (e813.trans e14).trans e15
  refine (sl2 (ex_b e815) rfl) H15 (Ex.refl _) _ fun d2 H16 hd16 e16 h16 => nil_raw ?_
  refine ⟨d2, _, rfl, sq_of h16, by omega, hd15, hwd, fun t2 H17 ht2 e17 h17 => nil_raw ?_⟩
  have e817 := (e815.trans e16).trans e17
  refine ⟨a, r, l2, x + 1, t1, t2, _, _, rfl, hL8.ex e817, h15.ex (e16.trans e17), h17, words_of hc15 hwc, words_of hd15 hwd, fun t ht => by have := (codewords_syms_le t ht).1; omega, fun t ht => by have := (codewords_syms_le t ht).1; omega, by omega, fun hn H18 k18 => qE ?_ H18 (hex ((k28.trans (ex_b e817)).trans k18)), fun z l3 hz tx H18 htx k18 hL18 h18 => ?_⟩
  · show Option.bind (readSteps _ _ (x + 1) (x + 1 + 1) #[] l2) _ = none
    rw [hn]
    rfl
  have hz : readSteps (codewords (y.take 265)) (codewords (y.drop 265)) (x + 1) (x + 2) #[] l2 = some (z, l3) := hz
  rw [hz] at qE
  have q : ∀ t, (if l3.length < 8 ∧ l3.all (fun (q : Bool) => !q) = true then some z.toList else none) = some t → RetN (bs t) H Q := fun t h => q t (by rw [hz]; exact h)
  have qE : (if l3.length < 8 ∧ l3.all (fun (q : Bool) => !q) = true then some z.toList else none) = none → ∀ H', Ex H H' → E (.ref CB) none H' := qE
  have k218 := (k28.trans (ex_b e817)).trans k18
  have htxH : H tx = none := by
    have h1 : H8 tx = none := fresh_back e817 htx
    cases h : H tx with
    | none => rfl
    | some o =>
      have hta : tx ≠ a := fun e => by rw [e, haH] at h; cases h
      have := k28 _ _ hta (eH2 _ _ h)
      rw [h1] at this
      cases this
  -- check_rest
  refine qd_raw (call_raw ?_)
  refine (ea_cons (ev_var (v := .ref a) rfl) ea_nil) H18 (Ex.refl _) _ fun H19 e19 => ?_
  have hta : tx ≠ a := fun e => hL18.ne.1 (by
    have := (hL8.ex e817).ne.1
    exact absurd (e ▸ htx) this)
  refine ⟨a, r, l3, rfl, hL18.ex e19, fun hbad H20 k20 => qE (by rw [if_neg hbad]) H20 (hex ((k218.trans (ex_b e19)).trans k20)), fun hok H20 k20 => ?_⟩
  refine s_ret (ev_var (v := .ref tx) rfl) fun H21 e21 => ?_
  exact q _ (by rw [if_pos hok]) tx H21 htxH ((hex ((k218.trans (ex_b e19)).trans k20)).trans e21) (e21 _ _ (k20 _ _ hta (e19 _ _ h18)))
end
end Gz
end

/-! ## WFx -/
section
set_option Elab.async false
set_option linter.all false
set_option maxRecDepth 100000
set_option maxHeartbeats 4000000
/-! ### an own exception over Exception whose __init__ stores two fields -/
namespace Gz
open PySem PySem.Spec PyProof.Rows L2 Evl
abbrev bmE : List Value := [.type "Exception", .type "BaseException", .type "object"]
structure FxC (K : PySem.W.Frag) (C : Addr) : Prop where
  ini : PySem.W.excInitIn K C bmE "Exception.__new__" = true
  over : PySem.W.excOver K C bmE = true
  hd : PySem.W.hasDictIn K C = true
  sa : PySem.W.findIn K (.ref C) "__setattr__" = some (some (.builtin "object.__setattr__"))
  exC : PySem.W.subIn K (.ref C) (.type "BaseException") = some true
  tyC : PySem.W.typeIn K (.ref C) = some (.type "type")
  kC : PySem.W.keepIn K (.ref C) = true
section
open PySem.W PySem.Calls PySem.HandSPX
open Builtin Builtin.ObjectAttr
variable {prog : Program} {w : World} {A : Around} {E : Value → Shared → Prop} {R : Result → Shared → Prop} {hp : Heap} {g : Array GenState} {d : Drawn} {t : Nat} {os : OsState}
theorem fx_osa {K : W.Frag} {name : Str} {tk : Tok} {v : Value} {x C : Addr} {fv : Array Value} (X : K.In hp) (hx : hp.get? x = some { cls := .ref C, data := .fields fv }) (ov : excOver K C bmE = true) (hh : hasDictIn K C = true) (ha : takerIn K C name = some none)
    (hq : ∀ h' tk' dx, (∀ b o, b ≠ x → hp.get? b = some o → h'.get? b = some o) → hp.objs.size ≤ dx → dx ≠ x → h'.get? x = some { cls := .ref C, dict := some dx, data := .fields fv } →
      h'.Ns1 dx (fun y => if y = name then some v else none) → R (.ok (.ret .none)) ⟨h', g, d, tk', os⟩) :
    codeAny (model prog w) A (.call (.builtin "object.__setattr__") ⟨[.ref x, .str name tk, v], []⟩) R ⟨hp, g, d, t, os⟩ := by
  have hxs : x ≠ hp.objs.size := Nat.ne_of_lt (Heap.lt_size hx)
  refine osa_openX (s := ⟨hp, g, d, t, os⟩) (od := none) PySem.F.store_Exception X ⟨hx, rfl, rfl, trivial⟩ ov ha fun b => ?_
  obtain ⟨cd, hcd, hd⟩ := any_some hh
  have hcls : W.Looks (model prog w) hp (classData C) cd := looks_clsIn X hcd
  obtain ⟨nm, bs, mro, ns, qn, hd', sn, sb, ab, col, del⟩ := cd
  dsimp only at hd
  subst hd
  show wpAny _ _ (storeInOwnDict (.ref x) (.ref C) (.str name tk) name v b) _ _ _
  unfold storeInOwnDict ownDictForStores
  repeat (first | with_reducible refine store_in_new ?_ ?_ | with_reducible refine wpAny_loadPart_at hx ?_ | with_reducible refine hcls.at ?_ | wp_step)
  · exact ⟨_, #[], _, (Heap.get?_update_ne _ _ _ _ hxs.symm).trans (Heap.get?_push_at rfl rfl), rfl, fun e he => absurd he (by simp), fun _ => rfl⟩
  · intro h' tk' hn' hs
    have hx₁ : (hp.push { cls := .type "dict", data := .dict #[] }).get? x = some { cls := .ref C, data := .fields fv } := Heap.get?_push_of_some _ hx
    refine hq h' tk' hp.objs.size (fun b o hb ho => ?_) (Nat.le_refl _) hxs.symm ?_ hn'
    · exact (hs.2 b (Nat.ne_of_lt (Heap.lt_size ho))).trans ((Heap.get?_update_ne _ _ _ _ hb).trans (Heap.get?_push_of_some _ ho))
    · exact (hs.2 x hxs).trans (Heap.get?_update_self _ hx₁ rfl)
theorem fx_osa2 {K : W.Frag} {name : Str} {tk : Tok} {v : Value} {x C dx : Addr} {fv : Array Value} {m0 : Str → Option Value} {nl : List Str} (X : K.In hp) (hx : hp.get? x = some { cls := .ref C, dict := some dx, data := .fields fv }) (hns : hp.Ns1 dx m0) (hw : Within m0 nl) (hz : nl.length ≤ 1000)
    (ov : excOver K C bmE = true) (hh : hasDictIn K C = true) (ha : takerIn K C name = some none)
    (hq : ∀ h' tk', (∀ b o, b ≠ dx → hp.get? b = some o → h'.get? b = some o) → h'.Ns1 dx (fun y => if y = name then some v else m0 y) → R (.ok (.ret .none)) ⟨h', g, d, tk', os⟩) :
    codeAny (model prog w) A (.call (.builtin "object.__setattr__") ⟨[.ref x, .str name tk, v], []⟩) R ⟨hp, g, d, t, os⟩ := by
  obtain ⟨oD, esD, epD, hoD, hdD, _⟩ := hns.count hw
  refine osa_openX (s := ⟨hp, g, d, t, os⟩) (od := some oD) PySem.F.store_Exception X ⟨hx, rfl, rfl, hoD⟩ ov ha fun b => ?_
  obtain ⟨cd, hcd, hd⟩ := any_some hh
  have hcls : W.Looks (model prog w) hp (classData C) cd := looks_clsIn X hcd
  obtain ⟨nm, bs, mro, ns, qn, hd', sn, sb, ab, col, del⟩ := cd
  dsimp only at hd
  subst hd
  show wpAny _ _ (storeInOwnDict (.ref x) (.ref C) (.str name tk) name v b) _ _ _
  unfold storeInOwnDict ownDictForStores
  repeat (first | with_reducible refine PySem.OEX.store_in_old hns hw hz ?_ | with_reducible refine wpAny_loadPart_at hx ?_ | with_reducible refine hcls.at ?_ | wp_step)
  intro h' tk' hn' hs
  exact hq h' tk' (fun b o hb ho => (hs.2 b hb).trans ho) hn'
end
section
variable {X : Cx} {pins : List (Addr × Obj)} {σ : L2.St} {H : Hp} {s : Shared} {a C dx : Addr} {f : Str} {y : V} {u : Value} {fs : List (Str × V)} {Q : Unit → Shared → Prop} {E : Value → Shared → Prop} {A : Around}
theorem fst_new (T : FxC X.K C) (I : Inv X pins σ H s) (e : H a = some (exo a C none)) (hno : PySem.W.findIn X.K (.ref C) f = some none) (ry : RelV y u)
    (h : ∀ dx s', H dx = none → dx ≠ a → Inv X pins σ (upd (upd H dx (exd dx [(f, y)])) a (exo a C (some dx))) s' → Q () s') : wpAny (model X.prog X.w) A (setAttr (.ref a) f u) Q E s := by
  obtain ⟨t1, ho⟩ := exo_at I.hok e
  obtain ⟨hp, g, d, t, os⟩ := s
  refine PySem.W.set_plain I.kIn (ox := { cls := .ref C, dict := none, data := .fields #[.ref t1, .none, .none, .none, .bool false, .none] }) (od := none) ⟨ho, rfl, rfl, trivial⟩ T.sa ?_
  refine fx_osa I.kIn ho T.over T.hd (NoAttr.taker hno) (fun h' tk' dx k dn dne hx hn => ?_)
  have hnd : H dx = none := I.hok.fresh dn
  have nd : ∀ {b : Addr} {o : Obj}, hp.get? b = some o → b ≠ dx := fun {b o} q => Nat.ne_of_lt (Nat.lt_of_lt_of_le (Heap.lt_size q) dn)
  have na : ∀ {b : Addr}, H b = none → b ≠ a := fun {b} n z => by
    rw [z, e] at n
    cases n
  have Un1 : Un X.fs [] H (upd (upd H dx (exd dx [(f, y)])) a (exo a C (some dx))) hp h' := {
    keep := fun b o q n _ _ => k b o (na n) q
    slot := fun b o q n _ _ => ⟨o.slots, k b o (na n) q⟩
    free := fun b o q n _ => by rw [upd_ne (na n), upd_ne (nd q)]; exact n
    there := fun b o q _ => by
      by_cases hb : b = a
      · exact ⟨_, by rw [hb]; exact hx⟩
      · exact ⟨o, k b o hb q⟩
    tups := fun b xs q => by rw [upd_ne (at_ne e q exo_tup), upd_ne (ne_of_none q hnd)]; exact q
    frzs := fun b o v q => by rw [upd_ne (at_ne e q exo_frz), upd_ne (ne_of_none q hnd)]; exact q
    tbls := fun b ps q => ⟨#[], by rw [upd_ne (at_ne e q exo_tbl), upd_ne (ne_of_none q hnd), q]; simp⟩ }
  refine h dx _ hnd dne (I.un (t' := tk') Un1 fun b o q => ?_)
  by_cases hb : b = a
  · subst hb
    rw [upd_same] at q
    cases q
    exact exo_ok hx
  · rw [upd_ne hb] at q
    by_cases hd : b = dx
    · subst hd
      rw [upd_same] at q
      cases q
      exact exd_ok hn (relO_put (fs := []) ry fun g => True.intro)
    · rw [upd_ne hd] at q
      exact (I.hok b o q).stay (fun c v hc z => k c v (by
          rcases hc with hc | hc
          · rw [hc]
            exact hb
          · exact at_ne e hc exo_own) z)
        (fun c hc => by rw [upd_ne (at_ne e hc exo_own), upd_ne (ne_of_none hc hnd)]; exact hc) (fun c xs hc => by rw [upd_ne (at_ne e hc exo_tup), upd_ne (ne_of_none hc hnd)]; exact hc)
theorem fst_old (T : FxC X.K C) (I : Inv X pins σ H s) (e : H a = some (exo a C (some dx))) (ed : H dx = some (exd dx fs)) (hl : fs.length ≤ 900) (hno : PySem.W.findIn X.K (.ref C) f = some none) (ry : RelV y u)
    (h : ∀ s', Inv X pins σ (upd H dx (exd dx ((f, y) :: fs))) s' → Q () s') : wpAny (model X.prog X.w) A (setAttr (.ref a) f u) Q E s := by
  obtain ⟨t1, ho⟩ := exo_at I.hok e
  obtain ⟨mA, hns, rel⟩ := exd_at I.hok ed
  have hw := within_of rel
  obtain ⟨hp, g, d, t, os⟩ := s
  obtain ⟨oD, _, _, hoD, _, _⟩ := hns.count hw
  refine PySem.W.set_plain I.kIn (ox := { cls := .ref C, dict := some dx, data := .fields #[.ref t1, .none, .none, .none, .bool false, .none] }) (od := some oD) ⟨ho, rfl, rfl, hoD⟩ T.sa ?_
  refine fx_osa2 I.kIn ho hns hw (by rw [List.length_map]; omega) T.over T.hd (NoAttr.taker hno) (fun h' tk' k hn => ?_)
  have hd : ∃ o, h'.get? dx = some o := by
    obtain ⟨o, _, _, e', _⟩ := hn
    exact ⟨o, e'⟩
  exact h _ (I.write (t' := tk') (x := dx) (e := dx) (o := exd dx ((f, y) :: fs)) (by rw [ed]; exact True.intro) (.inl rfl) k hd (exd_ok hn (relO_put ry rel)))
end
/-- self.f = e, self an exception that is being made -/
def tFst (K : PySem.W.Frag) (f : Str) (to te : TE) : TS := fun D σ H => te σ H fun y H1 => to σ H1 fun x H2 => ∃ a C : Addr, x = .ref a ∧ FxC K C ∧ PySem.W.findIn K (.ref C) f = some none ∧
  ((H2 a = some (exo a C none) ∧ ∀ dx, H2 dx = none → dx ≠ a → D.nx σ (upd (upd H2 dx (exd dx [(f, y)])) a (exo a C (some dx)))) ∨
    ∃ (dx : Addr) (fs : List (Str × V)), H2 a = some (exo a C (some dx)) ∧ H2 dx = some (exd dx fs) ∧ fs.length ≤ 900 ∧ D.nx σ (upd H2 dx (exd dx ((f, y) :: fs))))
section
variable {X : Cx} {o e : Expr} {es : List Expr} {to te : TE} {ta : TA} {f : Str} {p p' pos : Pos}
theorem ps_fst (ho : PE X o to) (he : PE X e te) (hs : swapsWith e (some (.Attribute o f p')) pos.line X.env = pure false := by rfl) : PS X (.Assign [.Attribute o f p'] e pos) (tFst X.K f to te) := by
  refine ⟨fun pins s σ H D I h => ?_⟩
  refine plainObj_wpAny_Assign_Attribute (thn (he.run pins s σ H _ I h) fun v s1 ⟨y, H1, I1, r1, q1⟩ => thn (ho.run pins s1 σ H1 _ I1 q1) fun u s2 ⟨x, H2, I2, r2, a, C, ex, T, hno, q⟩ => ?_) hs
  subst ex
  obtain rfl : u = Value.ref a := r2
  rcases q with ⟨ea, q⟩ | ⟨dx, fs, ea, ed, hl, q⟩
  · exact fst_new T I2 ea hno r1 fun dx s' n ne J => ⟨σ, _, J, q dx n ne⟩
  · exact fst_old T I2 ea ed hl hno r1 fun s' J => ⟨σ, _, J, q⟩
theorem pmk_fex {CX : CXT} {x : Str} {C fI : Addr} {k : Nat} {fd : FuncData} {ps : List Str} {sp : Sp} (T : FxC X.K C) (iC : PySem.W.findIn X.K (.ref C) "__init__" = some (some (.ref fI))) (tI : PySem.W.typeIn X.K (.ref fI) = some (.type "function"))
    (F1 : FnOk X.prog X.w X.K X.mg X.base CX k fI fd ps sp) (hr : Room (k + 1) X.A) (hb : Binds X.K fd ps []) (hx : Passes CX X (fun _ _ _ => False)) (hg : Gl X x) (hm : X.mg x = some (.ref C)) (ha : PA X (e :: es) ta)
    (hdb : (x == ("__debug__" : Str)) = false := by decide) (he : starEach (e :: es) X.env = (false, eval e X.env) :: starEach es X.env := by rfl) (hpl : (backTo pos (starEach es X.env)).any (·.1) = false := by rfl) :
    PMk X (.Call (.Name x p) (e :: es) [] pos) (tMkO C sp [] ta) := by
  intro pins s σ H Q I h
  refine wpAny_Call_Name_kw (ld_glob I hg hm ?_ hdb)
  refine PySem.W.callWith_K (h₀ := X.base) I.ok.mod.kin T.kC (thn (ha.run pos pins s σ H _ I h) fun us s1 ⟨vs, H1, I1, r1, hz, q1⟩ => ⟨I1.kIn, ?_⟩) he hpl
  show wpAny _ _ (call (.ref C) us) _ _ _
  obtain ⟨nm, N, q, bs, bm, hdct, sn, sub, ab, col, dd, k0, k1, k2, k3, k5, hC, hT⟩ := PySem.W.excInit_of I1.kIn T.ini
  obtain ⟨hp, g, dr, tk, os⟩ := s1
  have hsz : hp.objs.size ≤ hp.objs.size + 1 := Nat.le_succ _
  have hn : H1 (hp.objs.size + 1) = none := I1.hok.fresh hsz
  have hq := q1 (hp.objs.size + 1) hn
  rw [List.append_nil] at hq
  have kk : ∀ b o, hp.get? b = some o → ((hp.push (PySem.W.kdv_tup us)).push (PySem.HandSPX.excO C hp.objs.size)).get? b = some o := fun b o e => Heap.get?_push_of_some _ (Heap.get?_push_of_some _ e)
  have hget : ((hp.push (PySem.W.kdv_tup us)).push (PySem.HandSPX.excO C hp.objs.size)).get? (hp.objs.size + 1) = some (PySem.HandSPX.excO C hp.objs.size) := by heap_get
  have I2 : Inv X pins σ (upd H1 (hp.objs.size + 1) (exo (hp.objs.size + 1) C none)) ⟨(hp.push (PySem.W.kdv_tup us)).push (PySem.HandSPX.excO C hp.objs.size), g, dr, tk, os⟩ :=
    I1.laid (t' := tk) (a := hp.objs.size + 1) (o := exo (hp.objs.size + 1) C none) (h' := (hp.push (PySem.W.kdv_tup us)).push (PySem.HandSPX.excO C hp.objs.size)) kk hsz (exo_ok hget)
  have r2 : Vals (V.ref (hp.objs.size + 1) :: vs) (Value.ref (hp.objs.size + 1) :: us) := .cons rfl r1
  have hl : (Value.ref (hp.objs.size + 1) :: us ++ []).length = ps.length := by
    have e := r2.length
    rw [F1.len _ _ _ _ hq] at e
    rw [List.append_nil]
    exact e.symm
  have hus : us.length ≤ sizeLine := by
    rw [← Paired.length r1, sizeLine_eq]
    omega
  have b2 := hb _ (Value.ref (hp.objs.size + 1) :: us) I2.kIn hl
  rw [List.append_nil] at b2
  refine wpAny_call (PySem.HandSPX.call_own F.excBase_Exception hT hC (PySem.W.looks_findIn I1.kIn iC) (fun self => PySem.W.bind_fn I1.kIn self tI) hus
    (codeAny_mono (F1.run _ X.stack _ _ ⟨Value.ref (hp.objs.size + 1) :: us, []⟩ (Value.ref (hp.objs.size + 1) :: us) _ _ (fun _ _ _ => False) (hr.make C us []) (I2.env0.make C us []) b2 r2 hq) fun r s' hq' => ?_))
  cases r with
  | error er => exact hx pins σ _ _ er s' I2 hq'
  | ok fl =>
    cases fl with
    | ret u =>
      obtain ⟨v, H2, os2, bare2, un2, hok2, rv, ev, d, fs, ea, ed, hd1, q2⟩ := hq'
      subst ev
      obtain ⟨h2, g2, d2, t2, os'⟩ := s'
      exact ⟨rv, mk_end (raises_own T.exC T.tyC) I1 hsz kk un2 hok2 os2 bare2 ea ed hd1 q2⟩
    | next => exact False.elim hq'
    | brk => exact False.elim hq'
    | cont => exact False.elim hq'
open L2H HotX in
theorem pmk5_fexH {CX : CXT} {x : Str} {C fI : Addr} {k : Nat} {fd : FuncData} {ps : List Str} {sp : Sp} (T : FxC X.K C) (iC : PySem.W.findIn X.K (.ref C) "__init__" = some (some (.ref fI))) (tI : PySem.W.typeIn X.K (.ref fI) = some (.type "function"))
    (F1 : FnH X.prog X.w X.K X.mg X.base CX k fI fd ps sp) (hr : RoomH (k + 1) X.A) (hc : HotC X) (hb : Binds X.K fd ps []) (hx : Passes CX X (fun _ _ _ => False)) (hg : Gl X x) (hm : X.mg x = some (.ref C)) (ha : PA X (e :: es) ta)
    (hdb : (x == ("__debug__" : Str)) = false := by decide) (he : starEach (e :: es) X.env = (false, eval e X.env) :: starEach es X.env := by rfl) (hpl : (backTo pos (starEach es X.env)).any (·.1) = false := by rfl) :
    PMk5 X (.Call (.Name x p) (e :: es) [] pos) (tMkO C sp [] ta) := by
  intro pins s σ H Q I h
  obtain ⟨pn, hot, hpn⟩ := hc
  refine wpAny_Call_Name_kw (ld_glob I hg hm ?_ hdb)
  refine PySem.W.callWith_K (h₀ := X.base) I.ok.mod.kin T.kC (thn (ha.run pos pins s σ H _ I h) fun us s1 ⟨vs, H1, I1, r1, hz, q1⟩ => ⟨I1.kIn, ?_⟩) he hpl
  show wpAny _ _ (call (.ref C) us) _ _ _
  obtain ⟨nm, N, q, bs, bm, hdct, sn, sub, ab, col, dd, k0, k1, k2, k3, k5, hC, hT⟩ := PySem.W.excInit_of I1.kIn T.ini
  obtain ⟨hp, g, dr, tk, os⟩ := s1
  have hsz : hp.objs.size ≤ hp.objs.size + 1 := Nat.le_succ _
  have hn : H1 (hp.objs.size + 1) = none := I1.hok.fresh hsz
  have hq := q1 (hp.objs.size + 1) hn
  rw [List.append_nil] at hq
  have kk : ∀ b o, hp.get? b = some o → ((hp.push (PySem.W.kdv_tup us)).push (PySem.HandSPX.excO C hp.objs.size)).get? b = some o := fun b o e => Heap.get?_push_of_some _ (Heap.get?_push_of_some _ e)
  have hget : ((hp.push (PySem.W.kdv_tup us)).push (PySem.HandSPX.excO C hp.objs.size)).get? (hp.objs.size + 1) = some (PySem.HandSPX.excO C hp.objs.size) := by heap_get
  have I2 : Inv X pins σ (upd H1 (hp.objs.size + 1) (exo (hp.objs.size + 1) C none)) ⟨(hp.push (PySem.W.kdv_tup us)).push (PySem.HandSPX.excO C hp.objs.size), g, dr, tk, os⟩ :=
    I1.laid (t' := tk) (a := hp.objs.size + 1) (o := exo (hp.objs.size + 1) C none) (h' := (hp.push (PySem.W.kdv_tup us)).push (PySem.HandSPX.excO C hp.objs.size)) kk hsz (exo_ok hget)
  have r2 : Vals (V.ref (hp.objs.size + 1) :: vs) (Value.ref (hp.objs.size + 1) :: us) := .cons rfl r1
  have hl : (Value.ref (hp.objs.size + 1) :: us ++ []).length = ps.length := by
    have e := r2.length
    rw [F1.len _ _ _ _ hq] at e
    rw [List.append_nil]
    exact e.symm
  have hus : us.length ≤ sizeLine := by
    rw [← Paired.length r1, sizeLine_eq]
    omega
  have b2 := hb _ (Value.ref (hp.objs.size + 1) :: us) I2.kIn hl
  rw [List.append_nil] at b2
  have P1 := I2.pin pn (List.mem_append_left _ hpn)
  have hpin : PinOk X.stack (upd H1 (hp.objs.size + 1) (exo (hp.objs.size + 1) C none)) ⟨(hp.push (PySem.W.kdv_tup us)).push (PySem.HandSPX.excO C hp.objs.size), g, dr, tk, os⟩ pn :=
    ⟨P1.1, P1.2.1, fun hmm => (List.mem_cons.mp (I2.stkSub pn.1 hmm)).elim P1.2.2.1 P1.2.2.2.1, P1.2.2.2.2⟩
  refine wpAny_call (PySem.HandSPX.call_own F.excBase_Exception hT hC (PySem.W.looks_findIn I1.kIn iC) (fun self => PySem.W.bind_fn I1.kIn self tI) hus
    (codeAny_mono (F1.run _ X.stack _ _ ⟨Value.ref (hp.objs.size + 1) :: us, []⟩ (Value.ref (hp.objs.size + 1) :: us) _ _ (fun _ _ _ => False) pn (hr.make C us []) ⟨hot.1, hot.2⟩ hpin (I2.env0.make C us []) b2 r2 hq) fun r s' hq' => ?_))
  cases r with
  | error er => exact hx pins σ _ _ er s' I2 hq'
  | ok fl =>
    cases fl with
    | ret u =>
      obtain ⟨v, H2, os2, bare2, un2, hok2, rv, ev, d, fs, ea, ed, hd1, q2⟩ := hq'
      subst ev
      obtain ⟨h2, g2, d2, t2, os'⟩ := s'
      obtain ⟨t0, G, J, kG, ge, hoe, na⟩ := mk_end0 (d2 := d2) (t2 := t2) I1 hsz kk un2 hok2 os2 bare2 ea ed hd1
      refine ⟨rv, ⟨hp.objs.size + 1, _, _, ⟨G, g2, d2, t2, os'⟩, _, .ref C, some d, rfl, J, kG, ge, hoe, ⟨rfl, rfl, fun vs hv => ?_⟩, rfl, rfl, na, rfl, bare2, raises_own T.exC T.tyC, q2⟩, fun a oe vs ea2 hg2 hd2 => ?_⟩
      · cases hv
        rfl
      · cases ea2
        have hg3 : h2.get? (hp.objs.size + 1) = some oe := hg2
        rw [hoe] at hg3
        cases hg3
        cases hd2
        show (4 : Nat) < 6
        decide
    | next => exact False.elim hq'
    | brk => exact False.elim hq'
    | cont => exact False.elim hq'
end
end Gz
end

/-! ## WFy -/
section
set_option Elab.async false
set_option linter.all false
set_option maxRecDepth 100000
set_option maxHeartbeats 4000000
namespace Gz
open PySem PySem.Spec PyProof.Rows L2 Evl
section
variable {P : Program} {w : World} {K : PySem.W.Frag} {mg : Str → Option Value} {base : Heap} {f : Addr} {fd : FuncData} {CF : Addr}
/-! ### Fault -/
def xF (k p : V) : List (Str × V) := [("place", p), ("kind", k)]
def spFx (CF : Addr) : Sp := fun vs H Q _ => ∃ a x y, vs = [.ref a, x, y] ∧ H a = some (exo a CF none) ∧ ∀ dx, H dx = none → dx ≠ a → Q .non (upd (upd (upd H dx (exd dx [("kind", x)])) a (exo a CF (some dx))) dx (exd dx (xF x y)))
structure FaultT (K : PySem.W.Frag) (CF : Addr) : Prop where
  fx : FxC K CF
  nK : PySem.W.findIn K (.ref CF) "kind" = some none
  nP : PySem.W.findIn K (.ref CF) "place" = some none
  xf : XfC K CF
  eF : PySem.W.exmOne K (.ref CF) (.ref CF) = some true
theorem pure_fx {σ : L2.St} (TF : FaultT K CF) (vs : List V) (H : Hp) (Q : VK) (E : XK) (h : spFx CF vs H Q E) : tSeq (tFst K "kind" (tVar 0) (tVar 1)) (tFst K "place" (tVar 0) (tVar 2)) { nx := fun _ H' => Q .non H', rt := Q } (L2.start ["self", "kind", "place"] vs) H := by
  obtain ⟨a, x, y, rfl, ha, q⟩ := h
  refine ⟨x, rfl, .ref a, rfl, a, CF, rfl, TF.fx, TF.nK, .inl ⟨ha, fun dx hdx hne => ?_⟩⟩
  refine ⟨y, rfl, .ref a, rfl, a, CF, rfl, TF.fx, TF.nP, .inr ⟨dx, _, upd_same, ?_, (by show 1 ≤ 900; decide), q dx hdx hne⟩⟩
  rw [upd_ne hne, upd_same]
theorem ok_Fault_init (TF : FaultT K CF) (F : Fun K "__init__" "Fault.__init__" s_Fault_init f fd) : FnOk P w K mg base CX0 1 f fd ["self", "kind", "place"] (spFx CF) := by
  refine F.ok sc_Fault_init (fun vs H Q E h => ?_) (fun cdv A outer s H vs Q E hr h => ?_)
  · obtain ⟨a, x, y, rfl, _⟩ := h
    rfl
  exact ⟨_, (pss_cons (ps_fst (pv 0) (pv 1)) (pss_one (ps_fst (pv 0) (pv 2)))), pure_fx (σ := []) TF vs H Q E h⟩
open L2H in
theorem okH_Fault_init (TF : FaultT K CF) (F : Fun K "__init__" "Fault.__init__" s_Fault_init f fd) : FnH P w K mg base CX0 1 f fd ["self", "kind", "place"] (spFx CF) := by
  obtain ⟨oc, od, kV, doc, pm, an, cdv, ct, osl, rfl, lk, hcd⟩ := F.ex
  refine fn_ofH lk hcd sc_Fault_init (fun vs H Q E h => ?_) fun A outer s H vs Q E p hot hr h => ?_
  · obtain ⟨a, x, y, rfl, _⟩ := h
    rfl
  exact ⟨_, (pss_cons (ps_fst (pv 0) (pv 1)) (pss_one (ps_fst (pv 0) (pv 2)))), pure_fx (σ := []) TF vs H Q E h⟩
/-- the class, by its name -/
structure FaultD (P : Program) (w : World) (K : PySem.W.Frag) (mg : Str → Option Value) (base : Heap) (CF : Addr) : Prop where
  tf : FaultT K CF
  gF : mg "Fault" = some (.ref CF)
  ini : ∃ fI fd, PySem.W.findIn K (.ref CF) "__init__" = some (some (.ref fI)) ∧ PySem.W.typeIn K (.ref fI) = some (.type "function") ∧ Binds K fd ["self", "kind", "place"] [] ∧ FnOk P w K mg base CX0 1 fI fd ["self", "kind", "place"] (spFx CF) ∧ L2H.FnH P w K mg base CX0 1 fI fd ["self", "kind", "place"] (spFx CF)
end
section
variable {X : Cx} {CF : Addr} {j : Nat} {e : Expr} {es : List Expr} {ta : TA} {p pos : Pos}
theorem pmk_fexD (D : FaultD X.prog X.w X.K X.mg X.base CF) (hr : Room j X.A) (hg : Gl X "Fault") (ha : PA X (e :: es) ta) (hj : 2 ≤ j := by decide) (he : starEach (e :: es) X.env = (false, eval e X.env) :: starEach es X.env := by rfl) (hpl : (backTo pos (starEach es X.env)).any (·.1) = false := by rfl) :
    PMk X (.Call (.Name "Fault" p) (e :: es) [] pos) (tMkO CF (spFx CF) [] ta) := by
  obtain ⟨fI, fd, i1, i2, b, F, _⟩ := D.ini
  exact pmk_fex D.tf.fx i1 i2 F (hr.mono hj) b pass0 hg D.gF ha (by decide) he hpl
theorem pmk5_fexD (D : FaultD X.prog X.w X.K X.mg X.base CF) (hr : L2H.RoomH j X.A) (hc : L2H.HotC X) (hg : Gl X "Fault") (ha : PA X (e :: es) ta) (hj : 2 ≤ j := by decide) (he : starEach (e :: es) X.env = (false, eval e X.env) :: starEach es X.env := by rfl) (hpl : (backTo pos (starEach es X.env)).any (·.1) = false := by rfl) :
    L2H.PMk5 X (.Call (.Name "Fault" p) (e :: es) [] pos) (tMkO CF (spFx CF) [] ta) := by
  obtain ⟨fI, fd, i1, i2, b, _, F⟩ := D.ini
  exact pmk5_fexH D.tf.fx i1 i2 F (hr.mono hj) hc b pass0 hg D.gF ha (by decide) he hpl
theorem passF {X : Cx} {E : XK} (hs : X.stack = X.env :: X.outer) (hf : X.env.frame = some X.env.locals) (hex : X.ex = []) {E₁ : Value → Shared → Prop}
    (hx : X.xe = fun e s' => wpAny (model X.prog X.w) X.A (leaving X.env e) (fun _ s'' => L2.CX X.prog X.w X.outer X.H_0 X.s_0 E e s'') E₁ s') : Passes (L2.CX X.prog X.w) X E :=
  passes_call (takes_of hs hf hex hx) (fun _ _ _ _ h => h)
end
/-- a promise's fault -/
def FaultE (CF : Addr) (k p : Nat) (H : Hp) (E : XK) : Prop := ∀ d H', Ex H H' → H' d = some (.xd (xF (nv k) (nv p))) → E (.ref CF) (some d) H'
theorem FaultE.ex {CF : Addr} {k p : Nat} {H H' : Hp} {E : XK} (e : Ex H H') (h : FaultE CF k p H E) : FaultE CF k p H' E := fun d H2 e2 hd => h d H2 (e.trans e2) hd
theorem fault_raw {CF : Addr} {ta : TA} {σ : L2.St} {H : Hp} {Q : XK} {k p : Nat} (ha : EvA ta σ H [nv k, nv p]) (q : FaultE CF k p H Q) : tMkO CF (spFx CF) [] ta σ H Q := by
  refine ha H (Ex.refl H) _ fun H1 e1 => ⟨(by show 2 ≤ 1000; decide), fun a na => ?_⟩
  refine ⟨a, nv k, nv p, rfl, upd_same, fun dx hdx hne => ⟨rfl, ?_⟩⟩
  have hdx1 : H1 dx = none := by rw [upd_ne hne] at hdx; exact hdx
  refine ⟨dx, xF (nv k) (nv p), ?_, upd_same, hdx1, q dx _ ?_ upd_same⟩
  · rw [upd_ne (Ne.symm hne), upd_same]
  · intro b o hb
    have hb1 := e1 b o hb
    have hba : b ≠ a := ne_of_none hb1 na
    have hbd : b ≠ dx := ne_of_none hb1 hdx1
    rw [upd_ne hbd, del_ne hba, upd_ne hbd, upd_ne hba, upd_ne hbd, upd_ne hba]
    exact hb1
/-- a call within a try -/
theorem pe_callDS {X : Cx} {CX : CXT} {k j : Nat} {ps : List Str} {sp : Sp} {E : L2.St → XK} {x : Str} {p pos : Pos} {e : Expr} {es : List Expr} {t : TA} (D : Def X.prog X.w X.K X.mg X.base CX k x ps sp) (hr : Room j X.A) (hg : Gl X x) (hx : ∀ σ, PassesAt CX X σ (E σ)) (ha : PA X (e :: es) t) (hk : k ≤ j := by decide)
    (hdb : (x == ("__debug__" : Str)) = false := by decide) (he : starEach (e :: es) X.env = (false, eval e X.env) :: starEach es X.env := by rfl) (hpl : (backTo pos (starEach es X.env)).any (·.1) = false := by rfl) :
    PE X (.Call (.Name x p) (e :: es) [] pos) (tCallS sp E t) := by
  obtain ⟨f, fd, hm, kp, b, F⟩ := D.ex
  exact pe_callS F (hr.mono hk) hg hm kp b hx ha hdb he hpl
theorem callS_raw {sp : Sp} {E : L2.St → XK} {tr : TA} {σ : L2.St} {H : Hp} {Q : VK} (h : tr σ H fun vs H1 => sp vs H1 Q (E σ)) : tCallS sp E tr σ H Q := h
/-! ### a call in an except suite, whatever is handled -/
open L2H
structure FnW (P : Program) (w : World) (K : PySem.W.Frag) (mg : Str → Option Value) (base : Heap) (CX : CXT) (k : Nat) (f : Addr) (fd : FuncData) (ps : List Str) (sp : Sp) : Prop where
  len : ∀ vs H Q E, sp vs H Q E → vs.length = ps.length
  run : ∀ (A : Around) (outer : List Env) (s : Shared) (H : Hp) (args : Args) (us : List Value) (vs : List V) (Q : VK) (E : XK) (p : Addr × Obj), RoomH k A → PinOk outer H s p → Env0 P w K mg base A outer s H → BindsTo s fd args (ps.zip us) → Vals vs us → sp vs H Q E →
    codeAny (model P w) A (.call (.ref f) args) (CR CX outer P w H s Q E) s
theorem okW {P : Program} {w : World} {K : PySem.W.Frag} {mg : Str → Option Value} {base : Heap} {CX : CXT} {x qual : Str} {st : Stmt} {f : Addr} {fd : FuncData} {N ps : List Str} {k : Nat} {sp : Sp} (F : Fun K x qual st f fd) (S : FnScope N ps (defScope st)) (len : ∀ vs H Q E, sp vs H Q E → vs.length = ps.length)
    (hbody : ∀ (cdv : Value) (A : Around) (outer : List Env) (s : Shared) (H : Hp) (vs : List V) (Q : VK) (E : XK) (p : Addr × Obj), sp vs H Q E →
      ∃ t, PSs (cxH CX P w K mg base N qual (defScope st) f cdv A outer s H E p) (defBody st) t ∧ t { nx := fun _ H' => Q .non H', rt := Q } (start N vs) H) : FnW P w K mg base CX (k + 1) f fd ps sp := by
  obtain ⟨oc, od, kV, doc, pm, an, cdv, ct, osl, rfl, lk, hcd⟩ := F.ex
  refine ⟨len, fun A outer s H args us vs Q E p hr hpin e0 hb r hsp => ?_⟩
  have hl := len _ _ _ _ hsp
  have KX : K.In s.heap := e0.mod.kin.keeps fun b o e => (e0.bs b o e).1
  have lim : s.heap.NoLimit := e0.mod.nolimit.keeps fun b o e => (e0.bs b o e).1
  have hkind : ∀ y ∈ ps.zip us, (defScope st).names.lookup y.1 = some .local ∨ ((defScope st).names.lookup y.1 = some .cell ∧ ((cellsFrom (s.heap.objs.size + 1) (defScope st).names []).lookup y.1).isSome = true) := fun ⟨n, v⟩ hy => by
    rcases S.par n (List.of_mem_zip hy).1 with q | q
    · exact .inl q
    · exact .inr ⟨q, PySem.W.cellsFrom_some _ _ _ (.inl q)⟩
  refine codeAny_call_function hr.depth (KX _ _ lk) rfl S.co S.gen rfl (PySem.W.codeRec_of KX hcd) (hb _ _ _ _ ?_)
  refine wpAny_newFunctionEnv_cells S.kind hkind fun env he s1 x => ?_
  subst he
  refine ⟨lim.keeps x.toInCall.keep, codeAny_func ?_⟩
  obtain ⟨t, ht, hq⟩ := hbody cdv A outer s H vs Q E p hsp
  have I : Inv (cxH CX P w K mg base N qual (defScope st) f cdv A outer s H E p) [] (L2.start N vs) H s1 := inv_startH S hpin e0 hl r x
  refine wpAny_mono (ht.run [] s1 (L2.start N vs) H _ I hq) (fun fl s' hs => ?_) fun e s' hs => hs
  have fin : ∀ {σ' : L2.St} {H' : Hp} {v : V} {u : Value}, Inv (cxH CX P w K mg base N qual (defScope st) f cdv A outer s H E p) [] σ' H' s' → RelV v u → Q v H' → CE outer P w H s Q u s' :=
    fun {σ' H' v u} J rv q => ⟨v, H', J.os, J.bare, J.base, J.hok, rv, q⟩
  cases fl with
  | ret u =>
    obtain ⟨v, σ', H', J, rv, q⟩ := hs
    exact fin J rv q
  | next =>
    obtain ⟨σ', H', J, q⟩ := hs
    exact fin (v := V.non) (u := Value.none) J rfl q
  | brk =>
    obtain ⟨_, _, _, q⟩ := hs
    exact False.elim q
  | cont =>
    obtain ⟨_, _, _, q⟩ := hs
    exact False.elim q
/-- a def that keeps its promise there, by its name -/
structure DefW (P : Program) (w : World) (K : PySem.W.Frag) (mg : Str → Option Value) (base : Heap) (k : Nat) (x : Str) (ps : List Str) (sp : Sp) : Prop where
  ex : ∃ f fd, mg x = some (.ref f) ∧ PySem.W.keepIn K (.ref f) = true ∧ Binds K fd ps [] ∧ FnW P w K mg base CX0 k f fd ps sp
theorem pe_callW {X : Cx} {k j : Nat} {ps : List Str} {sp : Sp} {x : Str} {q pos : Pos} {e : Expr} {es : List Expr} {t : TA} {p : Addr × Obj} (D : DefW X.prog X.w X.K X.mg X.base k x ps sp) (hr : RoomH j X.A) (hp : p ∈ X.pn) (hg : Gl X x) (ha : PA X (e :: es) t) (hk : k ≤ j := by decide)
    (hdb : (x == ("__debug__" : Str)) = false := by decide) (he : starEach (e :: es) X.env = (false, eval e X.env) :: starEach es X.env := by rfl) (hpl : (backTo pos (starEach es X.env)).any (·.1) = false := by rfl) :
    PE X (.Call (.Name x q) (e :: es) [] pos) (tCall sp [] E0 t) := by
  obtain ⟨f, fd, hm, kp, hb, F⟩ := D.ex
  refine ⟨fun pins s σ H Q I h => ?_⟩
  refine wpAny_Call_Name_kw (ld_glob I hg hm ?_ hdb)
  refine PySem.W.callWith_K (h₀ := X.base) I.ok.mod.kin kp (thn (ha.run pos pins s σ H _ I h) fun us s1 ⟨vs, H1, I1, r, q⟩ => ⟨I1.kIn, ?_⟩) he hpl
  have q : sp vs H1 Q E0 := by
    have q' : sp (vs ++ []) H1 Q E0 := q
    rw [List.append_nil] at q'
    exact q'
  have hl : us.length = ps.length := by rw [← r.length]; exact F.len _ _ _ _ q
  have b := hb s1 us I1.kIn (by rw [List.append_nil]; exact hl)
  rw [List.append_nil] at b
  have P1 := I1.pin p (List.mem_append_left _ hp)
  have hpin : PinOk X.stack H1 s1 p := ⟨P1.1, P1.2.1, fun hmm => (List.mem_cons.mp (I1.stkSub p.1 hmm)).elim P1.2.2.1 P1.2.2.2.1, P1.2.2.2.2⟩
  refine wpAny_call (codeAny_mono (F.run X.A X.stack s1 H1 ⟨us, []⟩ us vs Q E0 p (hr.mono hk) hpin I1.env0 b r q) fun r s' hq => ?_)
  cases r with
  | error e => exact False.elim hq
  | ok fl =>
    cases fl with
    | ret u => exact I1.after hq
    | next => exact False.elim hq
    | brk => exact False.elim hq
    | cont => exact False.elim hq
end Gz
end

/-! ## W19 -/
section
set_option Elab.async false
set_option linter.all false
set_option maxRecDepth 100000
set_option maxHeartbeats 4000000
namespace Gz
open PySem PySem.Spec PyProof.Rows L2 Evl
section
variable {P : Program} {w : World} {K : PySem.W.Frag} {mg : Str → Option Value} {base : Heap} {f : Addr} {fd : FuncData} {aM CF CB : Addr}
/-! ### need -/
def spNeed (CF : Addr) : Sp := fun vs H Q E => ∃ (r : Addr) (b : List UInt8) (k : Nat), vs = [.ref r, nv k] ∧ H r = some (.lst (nvs (bs b))) ∧ (b.length < k → FaultE CF 1 b.length H E) ∧ (¬ b.length < k → RetV .non H Q)
theorem ok_need (T : Gs K mg aM) (DF : FaultD P w K mg base CF) (F : Fun K "need" "need" s_need f fd) : FnOk P w K mg base (L2.CX P w) 3 f fd ["row", "behind"] (spNeed CF) := by
  refine F.okX sc_need (fun vs H Q E h => ?_) (fun cdv A outer s H vs Q E hr h => ?_)
  · obtain ⟨r, b, k, rfl, _⟩ := h
    rfl
  obtain ⟨r, b, k, rfl, hb, qE, q⟩ := h
  refine ⟨_, (pss_one (ps_if (pt_cmpR op_lt (pe_callB call_len_seq (by rfl) T.b_len (by decide +kernel) (pa_cons (pv 0) pa_nil)) (pv 1) (nomark _))
      (pss_one (ps_raise rfl (takes_of rfl rfl rfl rfl) (pmk_fexD DF hr rfl (pa_cons (pe_k T.ENDS) (pa_cons (pe_callB call_len_seq (by rfl) T.b_len (by decide +kernel) (pa_cons (pv 0) pa_nil)) pa_nil)))))
      pss_nil)), ?_⟩
  refine s_when (b := decide (b.length < k)) (et_is (et_test (ev_I0 (ev_lenT (ev_var rfl) (sq_of hb)) (ev_var rfl))) (by rw [decide_eq_decide]; omega)) (fun hc H1 e1 => ?_) (fun hc H1 e1 => q (of_decide_eq_false hc) H1 e1)
  exact fault_raw (ea_cons ev_c (ea_cons (ev_lenT (ev_var rfl) (sq_of (e1 _ _ hb))) ea_nil)) ((qE (of_decide_eq_true hc)).ex e1)
/-! ### check_beginning -/
def magicB : List UInt8 := [83, 87, 90, 49]
def spBeg (CF : Addr) : Sp := fun vs H Q E => ∃ (r : Addr) (b : List UInt8), vs = [.ref r] ∧ H r = some (.lst (nvs (bs b))) ∧ (∀ e, SwSqueeze.must 0 magicB b = some e → FaultE CF e.kind e.place H E) ∧ (SwSqueeze.must 0 magicB b = none → RetV .non H Q)
theorem must_at (b : List UInt8) : ∀ k, k ≤ 4 → (∀ i, i < k → b[i]? = magicB[i]?) → SwSqueeze.must 0 magicB b = SwSqueeze.must k (magicB.drop k) (b.drop k)
  | 0, _, _ => rfl
  | k + 1, hk, h => by
    rw [must_at b k (by omega) fun i hi => h i (by omega)]
    have hm : k < magicB.length := by show k < 4; omega
    have hbk := h k (by omega)
    rw [List.getElem?_eq_getElem hm] at hbk
    have hlt := (List.getElem?_eq_some_iff.mp hbk).1
    have hv := (List.getElem?_eq_some_iff.mp hbk).2
    rw [List.drop_eq_getElem_cons hm, List.drop_eq_getElem_cons hlt, hv]
    show (if magicB[k] = magicB[k] then _ else _) = _
    rw [if_pos rfl]
theorem must_short {b : List UInt8} {k : Nat} (hk : k < 4) (h : ∀ i, i < k → b[i]? = magicB[i]?) (hb : b.length = k) : SwSqueeze.must 0 magicB b = some ⟨1, k⟩ := by
  have hm : k < magicB.length := by show k < 4; omega
  rw [must_at b k (by omega) h, List.drop_eq_nil_of_le (by omega : b.length ≤ k), List.drop_eq_getElem_cons hm]
  rfl
theorem must_wrong {b : List UInt8} {k : Nat} (hk : k < 4) (h : ∀ i, i < k → b[i]? = magicB[i]?) (hb : k < b.length) (hne : b[k]? ≠ magicB[k]?) : SwSqueeze.must 0 magicB b = some ⟨2, k⟩ := by
  have hm : k < magicB.length := by show k < 4; omega
  rw [must_at b k (by omega) h, List.drop_eq_getElem_cons hm, List.drop_eq_getElem_cons hb]
  show (if b[k] = magicB[k] then _ else _) = _
  rw [List.getElem?_eq_getElem hb, List.getElem?_eq_getElem hm] at hne
  rw [if_neg fun e => hne (by rw [e])]
theorem ok_check_beginning (T : Gs K mg aM) (DF : FaultD P w K mg base CF) (D_need : Def P w K mg base (L2.CX P w) 3 "need" ["row", "behind"] (spNeed CF)) (F : Fun K "check_beginning" "check_beginning" s_check_beginning f fd) : FnOk P w K mg base (L2.CX P w) 4 f fd ["row"] (spBeg CF) := by
  refine F.okX sc_check_beginning (fun vs H Q E h => ?_) (fun cdv A outer s H vs Q E hr h => ?_)
  · obtain ⟨r, b, rfl, _⟩ := h
    rfl
  obtain ⟨r, b, rfl, hb, qE, q⟩ := h
  refine ⟨_, (pss_one (ps_for (passes_of rfl) rfl (pi_range1 (by rfl) T.b_range (pa_cons (pe_callB call_len_seq (by rfl) T.b_len (by decide +kernel) (pa_cons (pe_k T.MAGIC) pa_nil)) pa_nil)) (pg_name (i := 1) sc_check_beginning.nd rfl (Or.inl rfl) (Or.inl rfl))
      (pss_cons (ps_expr (pe_callD D_need hr rfl (passF rfl rfl rfl rfl) (pa_cons (pv 0) (pa_cons (pe_op op_add (pv 1) pe_int) pa_nil))))
    (pss_one (ps_if (pt_cmpR op_ne (pe_ix ix_list (pv 0) (pv 1) (fun _ _ => rfl)) (pe_ix ix_tup (pe_k T.MAGIC) (pv 1) (fun _ _ => rfl)) (nomark _))
      (pss_one (ps_raise rfl (takes_of rfl rfl rfl rfl) (pmk_fexD DF hr rfl (pa_cons (pe_k T.WRONG) (pa_cons (pv 1) pa_nil)))))
      pss_nil))))), ?_⟩
  refine s_forR1 (n := 4) (ea_cons (fun H1 e1 Q1 q1 => ⟨aM, _, rfl, .inr (T.magic _), q1 H1 (Ex.refl _)⟩) ea_nil) ⟨by decide, by decide⟩ (fun k σ H' => ∃ v, σ = [some (.ref r), v] ∧ Ex H H' ∧ ∀ i, i < k → b[i]? = magicB[i]?) (fun H1 e1 => ⟨none, rfl, e1, fun i hi => by omega⟩) ?_ ?_
  · rintro k σ H1 hk ⟨v, rfl, e1, hm⟩
    have hk' : k < 4 := by omega
    refine qd_raw (call_raw ?_)
    refine (ea_cons (ev_var (v := .ref r) rfl) (ea_cons (x := nv (k + 1)) (ev_is (ev_I0 (ev_var rfl) ev_c) rfl) ea_nil)) H1 (Ex.refl _) _ fun H2 e2 => ?_
    have hkl : k ≤ b.length := by
      refine Nat.le_of_not_lt fun h => ?_
      have := hm (b.length) h
      rw [List.getElem?_eq_none (Nat.le_refl _), List.getElem?_eq_getElem (show b.length < magicB.length by show b.length < 4; omega)] at this
      cases this
    refine ⟨r, b, k + 1, rfl, (e1.trans e2) _ _ hb, fun hs => ?_, fun hs H3 e3 => ?_⟩
    · have hbk : b.length = k := by omega
      have := qE _ (must_short hk' hm hbk)
      rw [hbk]
      exact this.ex (e1.trans e2)
    · have hlt : k < b.length := by omega
      have hmk : k < magicB.length := by show k < 4; omega
      have hmv : ([nv 83, nv 87, nv 90, nv 49] : List V)[k]? = some (nv (magicB[k].toNat)) := by
        rcases (by omega : k = 0 ∨ k = 1 ∨ k = 2 ∨ k = 3) with h | h | h | h <;> subst h <;> rfl
      have e13 := (e1.trans e2).trans e3
      refine s_when (b := !decide (((b[k].toNat : Nat) : Int) = ((magicB[k].toNat : Nat) : Int))) (et_test (ev_neI (ev_ix (j := k) (ev_var rfl) (ev_var rfl) (sq_of (e13 _ _ hb)) (text_get hlt) rfl) (ev_ixt (j := k) ev_c (ev_var rfl) (T.magic _) hmv rfl))) (fun hc H4 e4 => ?_) (fun hc H4 e4 => ?_)
      · have hne : ¬ ((b[k].toNat : Nat) : Int) = ((magicB[k].toNat : Nat) : Int) := by
          rw [Bool.not_eq_true', decide_eq_false_iff_not] at hc
          exact hc
        have := qE _ (must_wrong hk' hm hlt (by
          rw [List.getElem?_eq_getElem hlt, List.getElem?_eq_getElem hmk]
          intro e
          exact hne (by rw [Option.some.inj e])))
        exact fault_raw (ea_cons ev_c (ea_cons (ev_var rfl) ea_nil)) (this.ex (e13.trans e4))
      · rw [Bool.not_eq_false', decide_eq_true_eq] at hc
        refine ⟨some (nv k), rfl, e13.trans e4, fun i hi => ?_⟩
        by_cases hik : i = k
        · subst hik
          rw [List.getElem?_eq_getElem hlt, List.getElem?_eq_getElem hmk]
          congr 1
          exact UInt8.toNat_inj.mp (by omega)
        · exact hm i (by omega)
  · rintro σ H1 ⟨v, rfl, e1, hm⟩
    refine q ?_ H1 e1
    rw [must_at b 4 (by decide) hm]
    rfl
/-! ### count_at -/
def spCountAt (CF : Addr) : Sp := fun vs H Q E => ∃ (r : Addr) (b : List UInt8) (p : Nat), vs = [.ref r, nv p] ∧ H r = some (.lst (nvs (bs b))) ∧ (b.length < p + 4 → FaultE CF 1 b.length H E) ∧ (¬ b.length < p + 4 → RetV (nv (cnt b p)) H Q)
theorem ok_count_at (DF : FaultD P w K mg base CF) (D_need : Def P w K mg base (L2.CX P w) 3 "need" ["row", "behind"] (spNeed CF)) (D_heard : Def P w K mg base CX0 1 "heard" ["data", "at", "count"] (spHeard K)) (F : Fun K "count_at" "count_at" s_count_at f fd) :
    FnOk P w K mg base (L2.CX P w) 4 f fd ["row", "at"] (spCountAt CF) := by
  refine F.okX sc_count_at (fun vs H Q E h => ?_) (fun cdv A outer s H vs Q E hr h => ?_)
  · obtain ⟨r, b, p, rfl, _⟩ := h
    rfl
  obtain ⟨r, b, p, rfl, hb, qE, q⟩ := h
  refine ⟨_, (pss_cons (ps_expr (pe_callD D_need hr rfl (passF rfl rfl rfl rfl) (pa_cons (pv 0) (pa_cons (pe_op op_add (pv 1) pe_int) pa_nil))))
    (pss_one (ps_ret (pe_callD D_heard hr rfl pass0 (pa_cons (pv 0) (pa_cons (pv 1) (pa_cons pe_int pa_nil))))))), ?_⟩
  refine qd_raw (call_raw ?_)
  refine (ea_cons (ev_var (v := .ref r) rfl) (ea_cons (x := nv (p + 4)) (ev_is (ev_I0 (ev_var rfl) ev_c) rfl) ea_nil)) H (Ex.refl _) _ fun H1 e1 => ?_
  refine ⟨r, b, p + 4, rfl, e1 _ _ hb, fun hs => (qE hs).ex e1, fun hs H2 e2 => ?_⟩
  refine s_ret (ev_call (ea_cons (ev_var rfl) (ea_cons (ev_var rfl) (ea_cons ev_c ea_nil))) fun H3 e3 Q3 q3 E3 => ⟨r, b, p, 4, rfl, sq_of (((e1.trans e2).trans e3) _ _ hb), by decide, by omega, q3⟩) fun H3 e3 => q hs H3 ((e1.trans e2).trans e3)
/-! ### check_count -/
def spCheckCount (CF : Addr) : Sp := fun vs H Q E => ∃ p n odd : Nat, vs = [nv p, nv n, nv odd] ∧ (0 < odd → FaultE CF 3 odd H E) ∧ (odd = 0 → n = 1 ∨ 1025 < n → FaultE CF 3 p H E) ∧ (odd = 0 → ¬ (n = 1 ∨ 1025 < n) → RetV .non H Q)
theorem ok_check_count (T : Gs K mg aM) (DF : FaultD P w K mg base CF) (F : Fun K "check_count" "check_count" s_check_count f fd) : FnOk P w K mg base (L2.CX P w) 3 f fd ["at", "count", "odd"] (spCheckCount CF) := by
  refine F.okX sc_check_count (fun vs H Q E h => ?_) (fun cdv A outer s H vs Q E hr h => ?_)
  · obtain ⟨p, n, odd, rfl, _⟩ := h
    rfl
  obtain ⟨p, n, odd, rfl, qE1, qE2, q⟩ := h
  refine ⟨_, (pss_cons (ps_if (pt_cmpR op_gt (pv 2) pe_int (nomark _))
      (pss_one (ps_raise rfl (takes_of rfl rfl rfl rfl) (pmk_fexD DF hr rfl (pa_cons (pe_k T.COUNTS) (pa_cons (pv 2) pa_nil)))))
      pss_nil)
    (pss_one (ps_if (PW.pt (pw_or (pt_cmpR op_eq (pv 1) pe_int (nomark _)) (pw_or1 (pt_cmpR op_gt (pv 1) (pe_op op_add (pe_k T.BLOCK) pe_int) (nomark _)))))
      (pss_one (ps_raise rfl (takes_of rfl rfl rfl rfl) (pmk_fexD DF hr rfl (pa_cons (pe_k T.COUNTS) (pa_cons (pv 0) pa_nil)))))
      pss_nil))), ?_⟩
  refine q_when (b := decide (0 < odd)) (et_is (et_test (ev_I0 (ev_var rfl) ev_c)) (by rw [decide_eq_decide]; omega)) (fun hc H1 e1 => ?_) (fun hc H1 e1 => ?_)
  · exact fault_raw (ea_cons ev_c (ea_cons (ev_var rfl) ea_nil)) ((qE1 (of_decide_eq_true hc)).ex e1)
  have hc : odd = 0 := by have := of_decide_eq_false hc; omega
  refine s_when (b := decide (n = 1) || decide (1025 < n)) (et_or (et_is (et_test (ev_eqI (ev_var rfl) ev_c)) (by rw [decide_eq_decide]; omega)) fun _ => et_is (et_test (ev_I0 (ev_var rfl) (ev_I0 ev_c ev_c))) (by rw [decide_eq_decide]; omega)) (fun hd H2 e2 => ?_) (fun hd H2 e2 => ?_)
  · rw [Bool.or_eq_true, decide_eq_true_eq, decide_eq_true_eq] at hd
    exact fault_raw (ea_cons ev_c (ea_cons (ev_var rfl) ea_nil)) ((qE2 hc hd).ex (e1.trans e2))
  · rw [Bool.or_eq_false_iff, decide_eq_false_iff_not, decide_eq_false_iff_not] at hd
    exact q hc (fun h => h.elim hd.1 hd.2) H2 (e1.trans e2)
/-! ### length_at -/
def kindAt (b : List UInt8) (p : Nat) : Nat := (b.getD (p + 4) 0).toNat
def spLengthAt (CF : Addr) : Sp := fun vs H Q E => ∃ (r : Addr) (b : List UInt8) (p n : Nat), vs = [.ref r, nv p, nv n] ∧ H r = some (.lst (nvs (bs b))) ∧ 2 ≤ n ∧ (b.length < p + 4 + n → FaultE CF 1 b.length H E) ∧
  (¬ b.length < p + 4 + n → (1 < kindAt b p → FaultE CF 2 (p + 4) H E) ∧ (kindAt b p = 1 → n < 3 → FaultE CF 5 (p + 4) H E) ∧ (¬ 1 < kindAt b p → ¬ (kindAt b p = 1 ∧ n < 3) → RetV (nv (sizeAt b p n)) H Q))
theorem getD_b {b : List UInt8} {i : Nat} (h : i < b.length) : b.getD i 0 = b[i] := by
  rw [List.getD_eq_getElem?_getD, List.getElem?_eq_getElem h]
  rfl
theorem ok_length_at (T : Gs K mg aM) (DF : FaultD P w K mg base CF) (D_need : Def P w K mg base (L2.CX P w) 3 "need" ["row", "behind"] (spNeed CF)) (F : Fun K "length_at" "length_at" s_length_at f fd) : FnOk P w K mg base (L2.CX P w) 4 f fd ["row", "at", "count"] (spLengthAt CF) := by
  refine F.okX sc_length_at (fun vs H Q E h => ?_) (fun cdv A outer s H vs Q E hr h => ?_)
  · obtain ⟨r, b, p, n, rfl, _⟩ := h
    rfl
  obtain ⟨r, b, p, n, rfl, hb, hn, qE1, qq⟩ := h
  refine ⟨_, (pss_cons (ps_expr (pe_callD D_need hr rfl (passF rfl rfl rfl rfl) (pa_cons (pv 0) (pa_cons (pe_op op_add (pe_op op_add (pv 1) pe_int) (pv 2)) pa_nil))))
    (pss_cons (ps_if (pt_cmpR op_gt (pe_ix ix_list (pv 0) (pe_op op_add (pv 1) pe_int) (fun _ _ => rfl)) (pe_k T.CODED) (nomark _))
      (pss_one (ps_raise rfl (takes_of rfl rfl rfl rfl) (pmk_fexD DF hr rfl (pa_cons (pe_k T.WRONG) (pa_cons (pe_op op_add (pv 1) pe_int) pa_nil)))))
      pss_nil)
    (pss_cons (ps_if (pt_cmpR op_eq (pe_ix ix_list (pv 0) (pe_op op_add (pv 1) pe_int) (fun _ _ => rfl)) (pe_k T.STORED) (nomark _))
      (pss_one (ps_ret (pe_op op_sub (pv 2) pe_int)))
      pss_nil)
    (pss_cons (ps_if (pt_cmpR op_lt (pv 2) pe_int (nomark _))
      (pss_one (ps_raise rfl (takes_of rfl rfl rfl rfl) (pmk_fexD DF hr rfl (pa_cons (pe_k T.NO_BLOCK) (pa_cons (pe_op op_add (pv 1) pe_int) pa_nil)))))
      pss_nil)
    (pss_one (ps_ret (pe_op op_add (pe_op op_add (pe_ix ix_list (pv 0) (pe_op op_add (pv 1) pe_int) (fun _ _ => rfl)) (pe_op op_mul pe_int (pe_op op_mod (pe_ix ix_list (pv 0) (pe_op op_add (pv 1) pe_int) (fun _ _ => rfl)) pe_int))) pe_int))))))), ?_⟩
  refine qd_raw (call_raw ?_)
  refine (ea_cons (ev_var (v := .ref r) rfl) (ea_cons (x := nv (p + 4 + n)) (ev_is (ev_I0 (ev_I0 (ev_var rfl) ev_c) (ev_var rfl)) rfl) ea_nil)) H (Ex.refl _) _ fun H1 e1 => ?_
  refine ⟨r, b, p + 4 + n, rfl, e1 _ _ hb, fun hs => (qE1 hs).ex e1, fun hs H2 e2 => ?_⟩
  obtain ⟨qE2, qE3, q⟩ := qq hs
  have e12 := e1.trans e2
  have hlt : p + 4 < b.length := by omega
  have hk : kindAt b p = b[p + 4].toNat := by unfold kindAt; rw [getD_b hlt]
  have ev4 : ∀ {σ : L2.St} {H' : Hp}, Ex H2 H' → σ[0]? = some (some (.ref r)) → σ[1]? = some (some (nv p)) → Ev (tOp (rIxL K) (tVar 0) (tOp (rI0 fun i j => .int (i + j)) (tVar 1) (tC (.int 4)))) σ H' (nv (kindAt b p)) := fun e h0 h1 => by
    rw [hk]
    exact ev_ix (j := p + 4) (ev_var h0) (ev_I0 (ev_var h1) ev_c) (sq_of ((e12.trans e) _ _ hb)) (text_get hlt) rfl
  have ev4p : ∀ {σ : L2.St} {H' : Hp}, σ[1]? = some (some (nv p)) → Ev (tOp (rI0 fun i j => .int (i + j)) (tVar 1) (tC (.int 4))) σ H' (nv (p + 4)) := fun h1 => ev_is (ev_I0 (ev_var h1) ev_c) rfl
  refine q_when (b := decide (1 < kindAt b p)) (et_is (et_test (ev_I0 (ev4 (Ex.refl _) rfl rfl) ev_c)) (by rw [decide_eq_decide]; omega)) (fun hc H3 e3 => ?_) (fun hc H3 e3 => ?_)
  · exact fault_raw (ea_cons ev_c (ea_cons (ev4p rfl) ea_nil)) ((qE2 (of_decide_eq_true hc)).ex (e12.trans e3))
  have hc := of_decide_eq_false hc
  refine q_when (b := decide (kindAt b p = 0)) (et_is (et_test (ev_eqI (ev4 e3 rfl rfl) ev_c)) (by rw [decide_eq_decide]; omega)) (fun hc2 H4 e4 => ?_) (fun hc2 H4 e4 => ?_)
  · have hc2 := of_decide_eq_true hc2
    have hsz : sizeAt b p n = n - 1 := by unfold sizeAt; exact if_pos hc2
    have q := q hc (by omega)
    rw [hsz] at q
    exact s_ret (ev_is (ev_I0 (ev_var rfl) ev_c) (by show V.int _ = V.int _; congr 1; omega)) fun H5 e5 => q H5 ((e12.trans (e3.trans e4)).trans e5)
  have hc2 := of_decide_eq_false hc2
  have hk1 : kindAt b p = 1 := by omega
  refine q_when (b := decide (n < 3)) (et_is (et_test (ev_I0 (ev_var rfl) ev_c)) (by rw [decide_eq_decide]; omega)) (fun hc3 H5 e5 => ?_) (fun hc3 H5 e5 => ?_)
  · exact fault_raw (ea_cons ev_c (ea_cons (ev4p rfl) ea_nil)) ((qE3 hk1 (of_decide_eq_true hc3)).ex (e12.trans ((e3.trans e4).trans e5)))
  have hc3 := of_decide_eq_false hc3
  have h5 : p + 5 < b.length := by omega
  have h6 : p + 6 < b.length := by omega
  have e25 := (e3.trans e4).trans e5
  have hsz : sizeAt b p n = b[p + 5].toNat + 256 * (b[p + 6].toNat % 4) + 1 := by
    unfold sizeAt
    refine (if_neg hc2).trans ?_
    have : (Sw.part b (p + 5) (n - 1)).take 2 = [b[p + 5], b[p + 6]] := by
      unfold Sw.part
      rw [List.take_take, Nat.min_eq_left (by omega), List.drop_eq_getElem_cons h5, List.drop_eq_getElem_cons h6]
      rfl
    rw [this]
    show (b[p + 5].toNat + 256 * (b[p + 6].toNat + 256 * 0)) % 1024 + 1 = _
    have := b[p + 5].toNat_lt
    omega
  have q := q hc (by omega)
  rw [hsz] at q
  refine s_ret (ev_is (ev_I0 (ev_I0 (ev_ix (j := p + 5) (ev_var rfl) (ev_I0 (ev_var rfl) ev_c) (sq_of ((e12.trans e25) _ _ hb)) (text_get h5) rfl) (ev_I ev_c (ev_I (ev_ix (j := p + 6) (ev_var rfl) (ev_I0 (ev_var rfl) ev_c) (sq_of ((e12.trans e25) _ _ hb)) (text_get h6) rfl) ev_c (by show (0 : Int) < 4; decide)) (.inl ⟨by decide, by decide⟩))) ev_c) ?_) fun H6 e6 => q H6 ((e12.trans e25).trans e6)
  show V.int _ = V.int _
  congr 1
/-! ### check_ending -/
def spCheckEnd (CF : Addr) : Sp := fun vs H Q E => ∃ (r : Addr) (b : List UInt8) (p t : Nat), vs = [.ref r, nv p, nv t] ∧ H r = some (.lst (nvs (bs b))) ∧ (b.length < p + 8 → FaultE CF 1 b.length H E) ∧
  (¬ b.length < p + 8 → (Sw.ofLe (Sw.part b p 8) ≠ t → FaultE CF 3 p H E) ∧ (Sw.ofLe (Sw.part b p 8) = t → (p + 8 < b.length → FaultE CF 4 (p + 8) H E) ∧ (¬ p + 8 < b.length → RetV .non H Q)))
theorem ok_check_ending (T : Gs K mg aM) (DF : FaultD P w K mg base CF) (D_need : Def P w K mg base (L2.CX P w) 3 "need" ["row", "behind"] (spNeed CF)) (D_heard : Def P w K mg base CX0 1 "heard" ["data", "at", "count"] (spHeard K)) (F : Fun K "check_ending" "check_ending" s_check_ending f fd) :
    FnOk P w K mg base (L2.CX P w) 4 f fd ["row", "at", "total"] (spCheckEnd CF) := by
  refine F.okX sc_check_ending (fun vs H Q E h => ?_) (fun cdv A outer s H vs Q E hr h => ?_)
  · obtain ⟨r, b, p, t, rfl, _⟩ := h
    rfl
  obtain ⟨r, b, p, t, rfl, hb, qE1, qq⟩ := h
  refine ⟨_, (pss_cons (ps_expr (pe_callD D_need hr rfl (passF rfl rfl rfl rfl) (pa_cons (pv 0) (pa_cons (pe_op op_add (pv 1) pe_int) pa_nil))))
    (pss_cons (ps_if (pt_cmpR op_ne (pe_callD D_heard hr rfl pass0 (pa_cons (pv 0) (pa_cons (pv 1) (pa_cons pe_int pa_nil)))) (pv 2) (nomark _))
      (pss_one (ps_raise rfl (takes_of rfl rfl rfl rfl) (pmk_fexD DF hr rfl (pa_cons (pe_k T.COUNTS) (pa_cons (pv 1) pa_nil)))))
      pss_nil)
    (pss_one (ps_if (pt_cmpR op_gt (pe_callB call_len_seq (by rfl) T.b_len (by decide +kernel) (pa_cons (pv 0) pa_nil)) (pe_op op_add (pv 1) pe_int) (nomark _))
      (pss_one (ps_raise rfl (takes_of rfl rfl rfl rfl) (pmk_fexD DF hr rfl (pa_cons (pe_k T.LEFT_OVER) (pa_cons (pe_op op_add (pv 1) pe_int) pa_nil)))))
      pss_nil)))), ?_⟩
  refine qd_raw (call_raw ?_)
  refine (ea_cons (ev_var (v := .ref r) rfl) (ea_cons (x := nv (p + 8)) (ev_is (ev_I0 (ev_var rfl) ev_c) rfl) ea_nil)) H (Ex.refl _) _ fun H1 e1 => ?_
  refine ⟨r, b, p + 8, rfl, e1 _ _ hb, fun hs => (qE1 hs).ex e1, fun hs H2 e2 => ?_⟩
  obtain ⟨qE2, q⟩ := qq hs
  have e12 := e1.trans e2
  generalize hx : Sw.ofLe (Sw.part b p 8) = x at qE2 q
  refine q_when (b := !decide ((x : Int) = (t : Int))) (et_test (ev_neI (i := (x : Int)) (ev_call (z := nv x) (ea_cons (ev_var rfl) (ea_cons (ev_var rfl) (ea_cons ev_c ea_nil))) fun H3 e3 Q3 q3 E3 => ⟨r, b, p, 8, rfl, sq_of ((e12.trans e3) _ _ hb), by decide, by omega, by rw [hx]; exact q3⟩) (ev_var rfl))) (fun hc H3 e3 => ?_) (fun hc H3 e3 => ?_)
  · rw [Bool.not_eq_true', decide_eq_false_iff_not] at hc
    exact fault_raw (ea_cons ev_c (ea_cons (ev_var rfl) ea_nil)) ((qE2 (fun h => hc (by omega))).ex (e12.trans e3))
  · rw [Bool.not_eq_false', decide_eq_true_eq] at hc
    obtain ⟨qE3, q⟩ := q (by omega)
    refine s_when (b := decide (p + 8 < b.length)) (et_is (et_test (ev_I0 (ev_lenT (ev_var rfl) (sq_of ((e12.trans e3) _ _ hb))) (ev_I0 (ev_var rfl) ev_c))) (by rw [decide_eq_decide]; omega)) (fun hd H4 e4 => ?_) (fun hd H4 e4 => q (of_decide_eq_false hd) H4 ((e12.trans e3).trans e4))
    exact fault_raw (ea_cons ev_c (ea_cons (ev_is (w := nv (p + 8)) (ev_I0 (ev_var rfl) ev_c) rfl) ea_nil)) ((qE3 (of_decide_eq_true hd)).ex ((e12.trans e3).trans e4))
end
end Gz
end

/-! ## W20 -/
section
set_option Elab.async false
set_option linter.all false
set_option maxRecDepth 100000
set_option maxHeartbeats 4000000
namespace Gz
open PySem PySem.Spec PyProof.Rows L2 Evl
open SwSqueeze (readCoded Block)
section
variable {P : Program} {w : World} {K : PySem.W.Frag} {mg : Str → Option Value} {base : Heap} {f : Addr} {fd : FuncData} {aM CF CB : Addr}
/-! ### text_at -/
def spTextAt (CF : Addr) : Sp := fun vs H Q E => ∃ (r : Addr) (b : List UInt8) (p n t : Nat), vs = [.ref r, nv p, nv n] ∧ H r = some (.lst (nvs (bs b))) ∧ 1 ≤ n ∧ p + 4 + n ≤ b.length ∧
  (kindAt b p ≠ 0 → readCoded (Sw.part b (p + 5) (n - 1)) = none → FaultE CF 5 (p + 4) H E) ∧ ((kindAt b p ≠ 0 → readCoded (Sw.part b (p + 5) (n - 1)) ≠ none) → RetN (bs (blkAt b p t n).text) H Q)
theorem ok_text_at (T : Gs K mg aM) (DF : FaultD P w K mg base CF) (TB : BrT K mg CB) (D_coded_text : Def P w K mg base (L2N.CX P w) 5 "coded_text" ["row", "first", "behind"] (spCodedText CB)) (F : Fun K "text_at" "text_at" s_text_at f fd) :
    FnOk P w K mg base (L2.CX P w) 6 f fd ["row", "at", "count"] (spTextAt CF) := by
  refine F.okX sc_text_at (fun vs H Q E h => ?_) (fun cdv A outer s H vs Q E hr h => ?_)
  · obtain ⟨r, b, p, n, t, rfl, _⟩ := h
    rfl
  obtain ⟨r, b, p, n, t, rfl, hb, hn, hl, qE, q⟩ := h
  refine ⟨_, (pss_cons (ps_if (pt_cmpR op_eq (pe_ix ix_list (pv 0) (pe_op op_add (pv 1) pe_int) (fun _ _ => rfl)) (pe_k T.STORED) (nomark _))
      (pss_one (ps_ret (pe_slice sl_list (pv 0) (po_some (pe_op op_add (pv 1) pe_int)) (po_some (pe_op op_add (pe_op op_add (pv 1) pe_int) (pv 2))))))
      pss_nil)
    (pss_one (L2H.ps_try_onlyX (tb := fun W => tRet (tCallS (spCodedText CB) (WE W) (tCons (tVar 0) (tCons (tOp (rI0 fun i j => .int (i + j)) (tVar 1) (tC (.int 5))) (tCons (tOp (rI0 fun i j => .int (i + j)) (tOp (rI0 fun i j => .int (i + j)) (tVar 1) (tC (.int 4))) (tVar 2)) tNil)))))
      (ts := fun _ _ _ => fun D σ H => tMkO CF (spFx CF) [] (tCons (tC (nv 5)) (tCons (tOp (rI0 fun i j => .int (i + j)) (tVar 1) (tC (.int 4))) tNil)) σ H fun cls d H' => E cls d H') (Wout := fun cls d _ H => E cls d H)
      rfl rfl ⟨rfl, by decide, Or.inl TB.gF⟩ (L2H.passesAt_of rfl) (takes_of rfl rfl rfl rfl)
      (fun W pn xe tk _ _ => pss_one (ps_ret (pe_callDS D_coded_text hr rfl (fun σ => L2N.passAt tk σ) (pa_cons (pv 0) (pa_cons (pe_op op_add (pv 1) pe_int) (pa_cons (pe_op op_add (pe_op op_add (pv 1) pe_int) (pv 2)) pa_nil))))))
      (fun a oe cls d pn zn hf tk hot => pss_one (L2H.ps_raiseHN hot tk (pmk5_fexD DF (L2H.roomH_mark hr _) hot rfl (pa_cons (pe_k T.NO_BLOCK) (pa_cons (pe_op op_add (pv 1) pe_int) pa_nil)))))))), ?_⟩
  have hlt : p + 4 < b.length := by omega
  have hk : kindAt b p = b[p + 4].toNat := by unfold kindAt; rw [getD_b hlt]
  have hbt : (blkAt b p t n).text = if kindAt b p = 0 then Sw.part b (p + 5) (n - 1) else (readCoded (Sw.part b (p + 5) (n - 1))).getD [] := rfl
  rw [hbt] at q
  refine q_when (b := decide (kindAt b p = 0)) (et_is (et_test (ev_eqI (ev_ix (j := p + 4) (ev_var rfl) (ev_I0 (ev_var rfl) ev_c) (sq_of hb) (text_get hlt) rfl) ev_c)) (by rw [decide_eq_decide, hk]; omega)) (fun hc H1 e1 => ?_) (fun hc H1 e1 => ?_)
  · have hc := of_decide_eq_true hc
    have q := q (fun h => absurd hc h)
    rw [if_pos hc] at q
    refine s_retL (el_is (el_slS (n := 0) (lo := p + 5) (hi := p + 4 + n) (ev_var rfl) (eo_some (ev_is (ev_I0 (ev_var rfl) ev_c) rfl)) (eo_some (ev_is (ev_I0 (ev_I0 (ev_var rfl) ev_c) (ev_var rfl)) rfl)) (sq_of (e1 _ _ hb))) ?_) fun u H2 hu e2 h2 => q u H2 (fresh_back e1 hu) (e1.trans e2) h2
    rw [show p + 4 + n - (p + 5) = n - 1 by omega, bs_part]
  · have hc := of_decide_eq_false hc
    rw [if_neg hc] at q
    refine r_raw (callS_raw ?_)
    refine (ea_cons (ev_var (v := .ref r) rfl) (ea_cons (x := nv (p + 5)) (ev_is (ev_I0 (ev_var rfl) ev_c) rfl) (ea_cons (x := nv (p + 4 + n)) (ev_is (ev_I0 (ev_I0 (ev_var rfl) ev_c) (ev_var rfl)) rfl) ea_nil))) H1 (Ex.refl _) _ fun H2 e2 => ?_
    refine ⟨r, b, p + 5, p + 4 + n, rfl, (e1.trans e2) _ _ hb, by omega, by omega, fun hno H3 e3 => ?_, fun tx htx => ?_⟩
    · rw [show p + 4 + n - (p + 5) = n - 1 by omega] at hno
      refine ⟨true, TB.eF, fun _ a0 _ => ?_, fun h => by cases h⟩
      exact fault_raw (ea_cons ev_c (ea_cons (ev_is (w := nv (p + 4)) (ev_I0 (ev_var rfl) ev_c) rfl) ea_nil)) ((qE hc hno).ex ((e1.trans e2).trans e3))
    · rw [show p + 4 + n - (p + 5) = n - 1 by omega] at htx
      have q := q (fun _ => by rw [htx]; exact fun h => by cases h)
      rw [htx] at q
      exact fun u H3 hu e3 h3 => q u H3 (fresh_back (e1.trans e2) hu) ((e1.trans e2).trans e3) h3
/-! ### part_at -/
def spPartAt (CF : Addr) : Sp := fun vs H Q E => ∃ (r : Addr) (b : List UInt8) (p n t low high : Nat), vs = [.ref r, nv p, nv n, nv t, nv low, nv high] ∧ H r = some (.lst (nvs (bs b))) ∧ 1 ≤ n ∧ p + 4 + n ≤ b.length ∧ t ≤ high ∧
  (kindAt b p ≠ 0 → readCoded (Sw.part b (p + 5) (n - 1)) = none → FaultE CF 5 (p + 4) H E) ∧ ((kindAt b p ≠ 0 → readCoded (Sw.part b (p + 5) (n - 1)) ≠ none) → RetN (bs (slice low high (blkAt b p t n))) H Q)
theorem ok_part_at (T : Gs K mg aM) (D_text_at : Def P w K mg base (L2.CX P w) 6 "text_at" ["row", "at", "count"] (spTextAt CF)) (F : Fun K "part_at" "part_at" s_part_at f fd) : FnOk P w K mg base (L2.CX P w) 7 f fd ["row", "at", "count", "start", "low", "high"] (spPartAt CF) := by
  refine F.okX sc_part_at (fun vs H Q E h => ?_) (fun cdv A outer s H vs Q E hr h => ?_)
  · obtain ⟨r, b, p, n, t, low, high, rfl, _⟩ := h
    rfl
  obtain ⟨r, b, p, n, t, low, high, rfl, hb, hn, hl, hth, qE, q⟩ := h
  refine ⟨_, (pss_cons (ps_set (i := 6) sc_part_at.nd rfl (Or.inl rfl) (pe_callD D_text_at hr rfl (passF rfl rfl rfl rfl) (pa_cons (pv 0) (pa_cons (pv 1) (pa_cons (pv 2) pa_nil)))))
    (pss_one (ps_ret (pe_slice sl_list (pv 6) (po_some (pe_callB (call_max2 rfl) (by rfl) T.b_max (by decide +kernel) (pa_cons (pe_op op_sub (pv 4) (pv 3)) (pa_cons pe_int pa_nil)))) (po_some (pe_callB (call_min2 rfl) (by rfl) T.b_min (by decide +kernel) (pa_cons (pe_op op_sub (pv 5) (pv 3)) (pa_cons (pe_callB call_len_seq (by rfl) T.b_len (by decide +kernel) (pa_cons (pv 6) pa_nil)) pa_nil)))))))), ?_⟩
  refine q_raw (call_raw ?_)
  refine (ea_cons (ev_var (v := .ref r) rfl) (ea_cons (ev_var (v := nv p) rfl) (ea_cons (ev_var (v := nv n) rfl) ea_nil))) H (Ex.refl _) _ fun H1 e1 => ?_
  refine ⟨r, b, p, n, t, rfl, e1 _ _ hb, hn, hl, fun h1 h2 => (qE h1 h2).ex e1, fun hok u H2 hu e2 h2 => ?_⟩
  have q := q hok
  unfold slice at q
  have hfrom : (blkAt b p t n).from_ = t := rfl
  rw [hfrom] at q
  generalize (blkAt b p t n).text = tx at h2 q
  refine s_retL (el_is (el_slS (n := 0) (lo := low - t) (hi := min (high - t) tx.length) (ev_var rfl) (eo_some (ev_is (ev_max (ev_I0 (ev_var rfl) (ev_var rfl)) ev_c) ?_)) (eo_some (ev_is (ev_min (ev_I0 (ev_var rfl) (ev_var rfl)) (ev_lenT (ev_var rfl) (sq_of h2))) ?_)) (sq_of h2)) ?_) fun v H3 hv e3 h3 => q v H3 (fresh_back (e1.trans e2) hv) ((e1.trans e2).trans e3) h3
  · show V.int _ = V.int _
    congr 1
    omega
  · show V.int _ = V.int _
    congr 1
    omega
  · rw [bs_part]
end
end Gz
end

/-! ## W21 -/
section
set_option Elab.async false
set_option linter.all false
set_option maxRecDepth 100000
set_option maxHeartbeats 4000000
namespace Gz
open PySem PySem.Spec PyProof.Rows L2 Evl
open SwSqueeze (readCoded Block)
theorem q_whenM {σ : L2.St} {H : Hp} {D : Ends} {tz tu : TS} {t : TT} {b : Bool} {M : Hp → Prop} (k : ∀ H', M H' → tz D σ H') (h : EvT t σ H b) (h1 : b = true → ∀ H1, Ex H H1 → (∀ H', M H' → tz D σ H') → tu { D with nx := tz D } σ H1) (h2 : b = false → ∀ H1, Ex H H1 → M H1) : tSeq (tIfS t tu tNext) tz D σ H :=
  q_when h (fun hb H1 e => h1 hb H1 e k) (fun hb H1 e => k H1 (h2 hb H1 e))
theorem coll_len {low high : Nat} : ∀ {l : List Block} {t0 t : Nat}, Cont (lookAt low high) t0 l t → (coll low high l).length + t0 ≤ t
  | [], t0, t, h => by
    have : t0 = t := h
    simp [coll, this]
  | q :: l, t0, t, h => by
    obtain ⟨h1, h2, h3⟩ := h
    have ih := coll_len h3
    have e : coll low high (q :: l) = (if lookAt low high q.from_ q.size = true then slice low high q else []) ++ coll low high l := rfl
    rw [e, List.length_append]
    split
    · rename_i hl
      have h4 := h2.len hl
      have h5 : (slice low high q).length ≤ q.text.length := by
        unfold slice Sw.part
        rw [List.length_take, List.length_drop]
        omega
      omega
    · simp only [List.length_nil]
      omega
section
variable {P : Program} {w : World} {K : PySem.W.Frag} {mg : Str → Option Value} {base : Heap} {f : Addr} {fd : FuncData} {aM CF CB : Addr}
/-! ### walked -/
def spWalked (CF : Addr) : Sp := fun vs H Q E => ∃ (r : Addr) (b : List UInt8) (low high : Nat), vs = [.ref r, nv low, nv high] ∧ H r = some (.lst (nvs (bs b))) ∧ b.length ≤ 16000 ∧
  (∀ e, SwSqueeze.read b (lookAt low high) = .error e → FaultE CF e.kind e.place H E) ∧
  (∀ l t, SwSqueeze.read b (lookAt low high) = .ok (l, t) → Cont (lookAt low high) 0 l t → t < 1024 * b.length → ∀ u tx H2, H u = none → H tx = none → Ex H H2 → H2 u = some (.tup [nv t, nv l.length, .ref tx]) → H2 tx = some (.lst (nvs (bs (coll low high l)))) → Q (.ref u) H2)
theorem cont_len {look : Nat → Nat → Bool} : ∀ {l : List Block} {t0 t : Nat}, Cont look t0 l t → t0 + l.length ≤ t
  | [], t0, t, h => by
    have : t0 = t := h
    simp [this]
  | q :: l, t0, t, h => by
    have := cont_len h.2.2
    have := h.2.1.pos
    rw [List.length_cons]
    omega
theorem ok_walked (T : Gs K mg aM) (D_check_beginning : Def P w K mg base (L2.CX P w) 4 "check_beginning" ["row"] (spBeg CF)) (D_count_at : Def P w K mg base (L2.CX P w) 4 "count_at" ["row", "at"] (spCountAt CF)) (D_check_count : Def P w K mg base (L2.CX P w) 3 "check_count" ["at", "count", "odd"] (spCheckCount CF))
    (D_length_at : Def P w K mg base (L2.CX P w) 4 "length_at" ["row", "at", "count"] (spLengthAt CF)) (D_part_at : Def P w K mg base (L2.CX P w) 7 "part_at" ["row", "at", "count", "start", "low", "high"] (spPartAt CF)) (D_check_ending : Def P w K mg base (L2.CX P w) 4 "check_ending" ["row", "at", "total"] (spCheckEnd CF))
    (F : Fun K "walked" "walked" s_walked f fd) : FnOk P w K mg base (L2.CX P w) 8 f fd ["row", "low", "high"] (spWalked CF) := by
  refine F.okX sc_walked (fun vs H Q E h => ?_) (fun cdv A outer s H vs Q E hr h => ?_)
  · obtain ⟨r, b, low, high, rfl, _⟩ := h
    rfl
  obtain ⟨r, b, low, high, rfl, hb, hbl, qE, q⟩ := h
  refine ⟨_, (pss_cons (ps_expr (pe_callD D_check_beginning hr rfl (passF rfl rfl rfl rfl) (pa_cons (pv 0) pa_nil)))
    (pss_cons (ps_set (i := 3) sc_walked.nd rfl (Or.inl rfl) (pe_lst pa_nil))
    (pss_cons (ps_set (i := 4) sc_walked.nd rfl (Or.inl rfl) pe_int)
    (pss_cons (ps_set (i := 5) sc_walked.nd rfl (Or.inl rfl) pe_int)
    (pss_cons (ps_set (i := 6) sc_walked.nd rfl (Or.inl rfl) pe_int)
    (pss_cons (ps_set (i := 7) sc_walked.nd rfl (Or.inl rfl) pe_int)
    (pss_cons (ps_set (i := 8) sc_walked.nd rfl (Or.inl rfl) (pe_callD D_count_at hr rfl (passF rfl rfl rfl rfl) (pa_cons (pv 0) (pa_cons (pv 7) pa_nil))))
    (pss_cons (ps_while (passes_of rfl) (pt_cmpR op_gt (pv 8) pe_int (nomark _))
      (pss_cons (ps_expr (pe_callD D_check_count hr rfl (passF rfl rfl rfl rfl) (pa_cons (pv 7) (pa_cons (pv 8) (pa_cons (pv 6) pa_nil)))))
    (pss_cons (ps_set (i := 9) sc_walked.nd rfl (Or.inl rfl) (pe_callD D_length_at hr rfl (passF rfl rfl rfl rfl) (pa_cons (pv 0) (pa_cons (pv 7) (pa_cons (pv 8) pa_nil)))))
    (pss_cons (ps_if (pt_cmpR op_lt (pe_callB (call_max2 rfl) (by rfl) T.b_max (by decide +kernel) (pa_cons (pv 4) (pa_cons (pv 1) pa_nil))) (pe_callB (call_min2 rfl) (by rfl) T.b_min (by decide +kernel) (pa_cons (pe_op op_add (pv 4) (pv 9)) (pa_cons (pv 2) pa_nil))) (nomark _))
      (pss_one (ps_expr (pe_bm PySem.F.plainAttrs_list PySem.F.slot_list_extend PySem.F.type_list_extend mt_extend (pv 3) (pa_cons (pe_callD D_part_at hr rfl (passF rfl rfl rfl rfl) (pa_cons (pv 0) (pa_cons (pv 7) (pa_cons (pv 8) (pa_cons (pv 4) (pa_cons (pv 1) (pa_cons (pv 2) pa_nil))))))) pa_nil))))
      pss_nil)
    (pss_cons (ps_if (pt_cmpR op_ne (pv 9) (pe_k T.BLOCK) (nomark _))
      (pss_one (ps_set (i := 6) sc_walked.nd rfl (Or.inl rfl) (pe_op op_add (pv 7) pe_int)))
      pss_nil)
    (pss_cons (ps_aug (i := 4) sc_walked.nd rfl (Or.inl rfl) (pv 9) ip_add)
    (pss_cons (ps_aug (i := 5) sc_walked.nd rfl (Or.inl rfl) pe_int ip_add)
    (pss_cons (ps_aug (i := 7) sc_walked.nd rfl (Or.inl rfl) (pe_op op_add pe_int (pv 8)) ip_add)
    (pss_one (ps_set (i := 8) sc_walked.nd rfl (Or.inl rfl) (pe_callD D_count_at hr rfl (passF rfl rfl rfl rfl) (pa_cons (pv 0) (pa_cons (pv 7) pa_nil)))))))))))))
    (pss_cons (ps_expr (pe_callD D_check_ending hr rfl (passF rfl rfl rfl rfl) (pa_cons (pv 0) (pa_cons (pe_op op_add (pv 7) pe_int) (pa_cons (pv 4) pa_nil)))))
    (pss_one (ps_ret (pe_tup (pa_cons (pv 4) (pa_cons (pv 5) (pa_cons (pv 3) pa_nil))))))))))))))), ?_⟩
  rw [read_eq] at qE q
  -- check_beginning(row)
  refine qd_raw (call_raw ?_)
  refine (ea_cons (ev_var (v := .ref r) rfl) ea_nil) H (Ex.refl _) _ fun H1 e1 => ?_
  refine ⟨r, b, rfl, e1 _ _ hb, fun e he => (qE e (by have he' : SwSqueeze.must 0 [83, 87, 90, 49] b = some e := he; rw [he'])).ex e1, fun hno H2 e2 => ?_⟩
  have hno' : SwSqueeze.must 0 [83, 87, 90, 49] b = none := hno
  rw [hno'] at qE
  have q : ∀ l t, overall b (lookAt low high) = .ok (l, t) → Cont (lookAt low high) 0 l t → t < 1024 * b.length → ∀ u tx H2, H u = none → H tx = none → Ex H H2 → H2 u = some (.tup [nv t, nv l.length, .ref tx]) → H2 tx = some (.lst (nvs (bs (coll low high l)))) → Q (.ref u) H2 := fun l t h => q l t (by rw [hno']; exact h)
  have qE : ∀ e, overall b (lookAt low high) = .error e → FaultE CF e.kind e.place H E := qE
  have h4 : 4 ≤ b.length := by
    refine Nat.le_of_not_lt fun h => ?_
    by_cases hx : ∀ i, i < b.length → b[i]? = magicB[i]?
    · have := must_short h hx rfl
      rw [show SwSqueeze.must 0 magicB b = none from hno] at this
      cases this
    · -- the first that's wrong
      have : ∃ k, k < b.length ∧ (∀ i, i < k → b[i]? = magicB[i]?) ∧ b[k]? ≠ magicB[k]? := by
        have key : ∀ n, n ≤ b.length → (∀ i, i < n → b[i]? = magicB[i]?) ∨ ∃ k, k < n ∧ (∀ i, i < k → b[i]? = magicB[i]?) ∧ b[k]? ≠ magicB[k]? := by
          intro n
          induction n with
          | zero => exact fun _ => .inl fun i hi => by omega
          | succ n ih =>
            intro hn
            rcases ih (by omega) with h | ⟨k, h1, h2⟩
            · by_cases he : b[n]? = magicB[n]?
              · exact .inl fun i hi => by
                  by_cases hin : i = n
                  · rw [hin]; exact he
                  · exact h i (by omega)
              · exact .inr ⟨n, by omega, h, he⟩
            · exact .inr ⟨k, by omega, h2⟩
        rcases key b.length (Nat.le_refl _) with h | h
        · exact absurd h hx
        · exact h
      obtain ⟨k, hk1, hk2, hk3⟩ := this
      have := must_wrong (by omega) hk2 hk1 hk3
      rw [show SwSqueeze.must 0 magicB b = none from hno] at this
      cases this
  have e12 := e1.trans e2
  refine q_asgL (el_lst ea_nil (by decide)) fun tx H3 htx e3 h3 => ?_
  have htxH : H tx = none := fresh_back e12 htx
  refine q_asg (v := nv 0) ev_c fun H4 e4 => ?_
  refine q_asg (v := nv 0) ev_c fun H5 e5 => ?_
  refine q_asg (v := nv 0) ev_c fun H6 e6 => ?_
  refine q_asg (v := nv 4) ev_c fun H7 e7 => ?_
  have e37 := ((e4.trans e5).trans e6).trans e7
  have e17 := (e12.trans e3).trans e37
  -- count
  have hR0 := rowTo_start (look := lookAt low high) h4
  refine q_raw (call_raw ?_)
  refine (ea_cons (ev_var (v := .ref r) rfl) (ea_cons (ev_var (v := nv 4) rfl) ea_nil)) H7 (Ex.refl _) _ fun H8 e8 => ?_
  refine ⟨r, b, 4, rfl, (e17.trans e8) _ _ hb, fun hs => (qE _ (hR0.short hs)).ex (e17.trans e8), fun hs H9 e9 => ?_⟩
  refine q_while (fun m σ H' => ∃ t odd p last done v9, σ = [some (.ref r), some (nv low), some (nv high), some (.ref tx), some (nv t), some (nv done.length), some (nv odd), some (nv p), some (nv (cnt b p)), v9] ∧ Ex H H' ∧ H' tx = some (.lst (nvs (bs (coll low high done)))) ∧ RowTo b (lookAt low high) p t last done ∧ OddIs last odd ∧ ¬ b.length < p + 4 ∧ 4 ≤ p ∧ m = b.length + 5 - p) _
    ⟨0, 0, 4, none, [], none, rfl, (e17.trans e8).trans e9, ((e37.trans e8).trans e9) _ _ h3, hR0, rfl, hs, Nat.le_refl _, rfl⟩ ?_
  rintro m σ H10 ⟨t, odd, p, last, done, v9, rfl, e10, htx10, hR, hO, hs2, hp4, rfl⟩
  refine ⟨decide (0 < cnt b p), et_is (et_test (ev_I0 (ev_var rfl) ev_c)) (by rw [decide_eq_decide]; omega), fun hc H11 e11 => ?_, fun hc H11 e11 => ?_⟩
  · have hc := of_decide_eq_true hc
    have h0 : cnt b p ≠ 0 := by omega
    refine ⟨fun σ H' => ∃ t odd p2 last done v9, p < p2 ∧ σ = [some (.ref r), some (nv low), some (nv high), some (.ref tx), some (nv t), some (nv done.length), some (nv odd), some (nv p2), some (nv (cnt b p2)), v9] ∧ Ex H H' ∧ H' tx = some (.lst (nvs (bs (coll low high done)))) ∧ RowTo b (lookAt low high) p2 t last done ∧ OddIs last odd ∧ ¬ b.length < p2 + 4, ?_, ?_⟩
    · rintro σ2 H' ⟨t2, odd2, p2, last2, done2, v, hlt, h1, h2, h3, h4, h5, h6⟩
      exact ⟨b.length + 5 - p2, by omega, t2, odd2, p2, last2, done2, v, h1, h2, h3, h4, h5, h6, by omega, rfl⟩
    -- check_count
    refine qd_raw (call_raw ?_)
    refine (ea_cons (ev_var (v := nv p) rfl) (ea_cons (ev_var (v := nv (cnt b p)) rfl) (ea_cons (ev_var (v := nv odd) rfl) ea_nil))) H11 (Ex.refl _) _ fun H12 e12 => ?_
    have x12 := (e10.trans e11).trans e12
    refine ⟨p, cnt b p, odd, rfl, fun ho => (qE _ (hR.odd hs2 h0 hO ho)).ex x12, fun ho hbad => (qE _ (hR.bad hs2 h0 (ho ▸ hO) hbad)).ex x12, fun ho hgood H13 e13 => ?_⟩
    subst ho
    have x13 := x12.trans e13
    have hn2 : 2 ≤ cnt b p := by
      have := fun h => hgood (.inl h)
      omega
    -- length
    refine q_raw (call_raw ?_)
    refine (ea_cons (ev_var (v := .ref r) rfl) (ea_cons (ev_var (v := nv p) rfl) (ea_cons (ev_var (v := nv (cnt b p)) rfl) ea_nil))) H13 (Ex.refl _) _ fun H14 e14 => ?_
    have x14 := x13.trans e14
    refine ⟨r, b, p, cnt b p, rfl, x14 _ _ hb, hn2, fun hl => (qE _ (hR.cut hs2 h0 hO hgood hl)).ex x14, fun hl => ⟨fun hk => (qE _ (hR.kind hs2 h0 hO hgood hl hk)).ex x14, fun hk hn => (qE _ (hR.coded hs2 h0 hO hgood hl hk (.inl hn))).ex x14, fun hk hkn H15 e15 => ?_⟩⟩
    have x15 := x14.trans e15
    have htx15 : H15 tx = some (.lst (nvs (bs (coll low high done)))) := ((((e11.trans e12).trans e13).trans e14).trans e15) _ _ htx10
    have hcl := coll_len hR.cont
    have hbig := hR.big
    have hple := hR.le
    have hcs := coll_snoc low high done (blkAt b p t (cnt b p))
    have hsz : 1 ≤ sizeAt b p (cnt b p) ∧ sizeAt b p (cnt b p) ≤ 1024 := by
      unfold sizeAt
      split
      · have := fun h => hgood (.inr h)
        omega
      · omega
    have hsl := sizeLine_eq
    refine q_whenM (M := fun H' => Ex H H' ∧ H' tx = some (.lst (nvs (bs (coll low high (done ++ [blkAt b p t (cnt b p)]))))) ∧ ¬ (kindAt b p = 1 ∧ (cnt b p < 3 ∨ (lookAt low high t (sizeAt b p (cnt b p)) = true ∧ (readCoded (Sw.part b (p + 5) (cnt b p - 1))).isNone = true)))) (b := lookAt low high t (sizeAt b p (cnt b p))) ?_ ?_ (fun hlk H16 e16 rest => ?_) (fun hlk H16 e16 => ?_)
    · -- behind it
      rintro H16 ⟨x16, htx16, hok⟩
      have hnext := hR.next hs2 h0 hO hgood hl hk hok
      refine q_ifAsg (v := nv (if sizeAt b p (cnt b p) = 1024 then 0 else p + 4)) (b := !decide (sizeAt b p (cnt b p) = 1024)) (et_is (et_test (ev_neI (ev_var rfl) ev_c)) ?_) (fun hx => ?_) (fun hx => ?_) fun H17 e17 => ?_
      · congr 1
        rw [decide_eq_decide]
        omega
      · rw [Bool.not_eq_true', decide_eq_false_iff_not] at hx
        rw [if_neg hx]
        exact ev_is (ev_I0 (ev_var rfl) ev_c) rfl
      · rw [Bool.not_eq_false', decide_eq_true_eq] at hx
        rw [if_pos hx]
        rfl
      refine q_aug (a := (t : Int)) (b := ((sizeAt b p (cnt b p) : Nat) : Int)) rfl (ev_var rfl) fun H18 e18 => ?_
      refine q_aug (a := (done.length : Int)) (b := 1) rfl ev_c fun H19 e19 => ?_
      refine q_aug (a := (p : Int)) (b := (4 : Int) + ((cnt b p : Nat) : Int)) rfl (ev_I0 ev_c (ev_var rfl)) fun H20 e20 => ?_
      have x20 := x16.trans (((e17.trans e18).trans e19).trans e20)
      have htx20 := (((e17.trans e18).trans e19).trans e20) _ _ htx16
      -- count
      refine s_raw (call_raw ?_)
      refine (ea_cons (ev_var (v := .ref r) rfl) (ea_cons (x := nv (p + 4 + cnt b p)) (ev_is (ev_var (v := .int ((p : Int) + (4 + ((cnt b p : Nat) : Int)))) rfl) (by show V.int _ = V.int _; congr 1; omega)) ea_nil)) H20 (Ex.refl _) _ fun H21 e21 => ?_
      refine ⟨r, b, p + 4 + cnt b p, rfl, (x20.trans e21) _ _ hb, fun hs3 => (qE _ (hnext.short hs3)).ex (x20.trans e21), fun hs3 H22 e22 => ?_⟩
      refine ⟨t + sizeAt b p (cnt b p), if sizeAt b p (cnt b p) = 1024 then 0 else p + 4, p + 4 + cnt b p, _, done ++ [blkAt b p t (cnt b p)], some (nv (sizeAt b p (cnt b p))), by omega, ?_, (x20.trans e21).trans e22, (e21.trans e22) _ _ htx20, hnext, ?_, hs3⟩
      · have e1 : ((p : Int) + (4 + ((cnt b p : Nat) : Int))) = ((p + 4 + cnt b p : Nat) : Int) := by omega
        have e2 : (done ++ [blkAt b p t (cnt b p)]).length = done.length + 1 := by rw [List.length_append]; rfl
        rw [e2]
        show [some (V.ref r), some (nv low), some (nv high), some (V.ref tx), some (V.int ((t : Int) + ((sizeAt b p (cnt b p) : Nat) : Int))), some (V.int ((done.length : Int) + 1)), some (nv (if sizeAt b p (cnt b p) = 1024 then 0 else p + 4)), some (V.int ((p : Int) + (4 + ((cnt b p : Nat) : Int)))), some (nv (cnt b (p + 4 + cnt b p))), some (nv (sizeAt b p (cnt b p)))] = _
        rw [e1]
        rfl
      · show if (blkAt b p t (cnt b p)).size = 1024 then _ else _
        have es : (blkAt b p t (cnt b p)).size = sizeAt b p (cnt b p) := rfl
        rw [es]
        by_cases hx : sizeAt b p (cnt b p) = 1024
        · rw [if_pos hx, if_pos hx]
        · rw [if_neg hx, if_neg hx]
          exact ⟨rfl, by omega⟩
    · refine et_is (et_test (ev_I0 (ev_max (ev_var rfl) (ev_var rfl)) (ev_min (ev_I0 (ev_var rfl) (ev_var rfl)) (ev_var rfl)))) ?_
      unfold lookAt
      rw [decide_eq_decide]
      omega
    · -- text.extend(part_at(..))
      have hlk2 := look_true.mp hlk
      refine d_raw ?_
      refine (ev_var (v := .ref tx) rfl) H16 (Ex.refl _) _ fun H17 e17 => ?_
      refine ⟨Or.inl ⟨rfl, _, sq_of ((e16.trans e17) _ _ htx15)⟩, ?_⟩
      refine cons_raw (call_raw ?_)
      refine (ea_cons (ev_var (v := .ref r) rfl) (ea_cons (ev_var (v := nv p) rfl) (ea_cons (ev_var (v := nv (cnt b p)) rfl) (ea_cons (ev_var (v := nv t) rfl) (ea_cons (ev_var (v := nv low) rfl) (ea_cons (ev_var (v := nv high) rfl) ea_nil)))))) H17 (Ex.refl _) _ fun H18 e18 => ?_
      have e15_18 := (e16.trans e17).trans e18
      refine ⟨r, b, p, cnt b p, t, low, high, rfl, (x15.trans e15_18) _ _ hb, by omega, by omega, by omega, fun hk2 hno2 => (qE _ (hR.coded hs2 h0 hO hgood hl (by have : kindAt b p = (b.getD (p + 4) 0).toNat := rfl; omega) (.inr ⟨hlk, by rw [hno2]; rfl⟩))).ex (x15.trans e15_18), fun hok2 u H19 hu e19 h19 => ?_⟩
      have e15_19 := e15_18.trans e19
      have hlk3 : lookAt low high (blkAt b p t (cnt b p)).from_ (blkAt b p t (cnt b p)).size = true := hlk
      rw [if_pos hlk3] at hcs
      have hsll : (slice low high (blkAt b p t (cnt b p))).length ≤ 1024 := by
        unfold slice Sw.part
        rw [List.length_take, List.length_drop]
        have htl : (blkAt b p t (cnt b p)).text.length ≤ 1024 := by
          have hbt : (blkAt b p t (cnt b p)).text = if kindAt b p = 0 then Sw.part b (p + 5) (cnt b p - 1) else (readCoded (Sw.part b (p + 5) (cnt b p - 1))).getD [] := rfl
          rw [hbt]
          split
          · have := part_len_le b (p + 5) (cnt b p - 1)
            have := fun h => hgood (.inr h)
            omega
          · cases hrc : readCoded (Sw.part b (p + 5) (cnt b p - 1)) with
            | none => exact Nat.zero_le _
            | some z =>
              have := coded_size hrc
              show z.length ≤ 1024
              omega
        omega
      refine ⟨tx, u, _, _, rfl, rfl, e15_19 _ _ htx15, h19, ?_, rest _ ⟨Ex.mut (x15.trans e15_19) htxH, ?_, ?_⟩⟩
      · rw [nvs_length, bs_length, nvs_length, bs_length, hsl]
        omega
      · rw [upd_same, hcs, bs_append, nvs_append]
      · rintro ⟨hk1, hbad⟩
        rcases hbad with h | ⟨_, h⟩
        · exact hkn ⟨hk1, h⟩
        · have := hok2 (by omega)
          cases hz : readCoded (Sw.part b (p + 5) (cnt b p - 1)) with
          | none => exact this hz
          | some z => rw [hz] at h; cases h
    · have hlk3 : ¬ lookAt low high (blkAt b p t (cnt b p)).from_ (blkAt b p t (cnt b p)).size = true := by
        have : lookAt low high (blkAt b p t (cnt b p)).from_ (blkAt b p t (cnt b p)).size = false := hlk
        rw [this]
        decide
      rw [if_neg hlk3, List.append_nil] at hcs
      refine ⟨x15.trans e16, by rw [hcs]; exact e16 _ _ htx15, ?_⟩
      rintro ⟨hk1, hbad⟩
      rcases hbad with h | ⟨h, _⟩
      · exact hkn ⟨hk1, h⟩
      · rw [hlk] at h
        cases h
  · have hc := of_decide_eq_false hc
    have h0 : cnt b p = 0 := by omega
    have hstop := hR.stop hs2 h0
    refine qd_raw (call_raw ?_)
    refine (ea_cons (ev_var (v := .ref r) rfl) (ea_cons (x := nv (p + 4)) (ev_is (ev_I0 (ev_var rfl) ev_c) rfl) (ea_cons (ev_var (v := nv t) rfl) ea_nil))) H11 (Ex.refl _) _ fun H12 e12 => ?_
    have x12 := (e10.trans e11).trans e12
    refine ⟨r, b, p + 4, t, rfl, x12 _ _ hb, fun hl => ?_, fun hl => ⟨fun ht => ?_, fun ht => ⟨fun hl2 => ?_, fun hl2 H13 e13 => ?_⟩⟩⟩
    · exact (qE ⟨1, b.length⟩ (by rw [hstop, if_pos (by omega)])).ex x12
    · exact (qE ⟨3, p + 4⟩ (by rw [hstop, if_neg (by omega), if_pos ht])).ex x12
    · exact (qE ⟨4, p + 12⟩ (by rw [hstop, if_neg (by omega), if_neg (fun h => h ht), if_pos (by omega)])).ex x12
    · have hok : overall b (lookAt low high) = .ok (done, t) := by rw [hstop, if_neg (by omega), if_neg (fun h => h ht), if_neg (by omega)]
      have hbig := hR.big
      have hple := hR.le
      have hdl := cont_len hR.cont
      refine s_retU (eu_tup (ea_cons (ev_var rfl) (ea_cons (ev_var rfl) (ea_cons (ev_var rfl) ea_nil))) (Nat.le_of_ble_eq_true rfl)) fun u H14 hu e14 h14 => ?_
      exact q done t hok hR.cont (by omega) u tx H14 (fresh_back (x12.trans e13) hu) htxH ((x12.trans e13).trans e14) h14 (((e11.trans e12).trans (e13.trans e14)) _ _ htx10)
end
end Gz
end

/-! ## W22 -/
section
set_option Elab.async false
set_option linter.all false
set_option maxRecDepth 100000
set_option maxHeartbeats 4000000
namespace Gz
open PySem PySem.Spec PyProof.Rows L2 Evl
open SwSqueeze (readCoded Block)
/-! ### max(xs, default=d) -/
def rMaxD (K : PySem.W.Frag) : List V → List V → Hp → VK → Prop := fun vs zs H Q => ∃ (a : Addr) (ns : List Int) (d : Int), vs = [.ref a] ∧ zs = [.int d] ∧ SqL K H a (ns.map V.int) ∧ (ns = [] → Q (.int d) H) ∧ ∀ m, m ∈ ns → (∀ y ∈ ns, y ≤ m) → Q (.int m) H
theorem maxOf_ge : ∀ (l : List Int) (x : Int), (PySem.W.maxOf x l = x ∨ PySem.W.maxOf x l ∈ l) ∧ x ≤ PySem.W.maxOf x l ∧ ∀ y ∈ l, y ≤ PySem.W.maxOf x l
  | [], x => ⟨.inl rfl, Int.le_refl _, fun y h => by cases h⟩
  | a :: l, x => by
    have e : PySem.W.maxOf x (a :: l) = PySem.W.maxOf (if x < a then a else x) l := by
      show List.foldl _ _ _ = List.foldl _ _ _
      rw [List.foldl_cons]
      congr 1
      show (if decide (x < a) = true then a else x) = _
      by_cases h : x < a
      · rw [if_pos (decide_eq_true h), if_pos h]
      · rw [if_neg (by rw [decide_eq_true_eq]; exact h), if_neg h]
    obtain ⟨h1, h2, h3⟩ := maxOf_ge l (if x < a then a else x)
    rw [e]
    by_cases h : x < a
    · rw [if_pos h] at h1 h2 h3 ⊢
      refine ⟨.inr ?_, by omega, fun y hy => ?_⟩
      · rcases h1 with h1 | h1
        · rw [h1]; exact List.mem_cons_self
        · exact List.mem_cons_of_mem _ h1
      · rcases List.mem_cons.mp hy with rfl | hy
        · exact h2
        · exact h3 y hy
    · rw [if_neg h] at h1 h2 h3 ⊢
      refine ⟨?_, h2, fun y hy => ?_⟩
      · rcases h1 with h1 | h1
        · exact .inl h1
        · exact .inr (List.mem_cons_of_mem _ h1)
      · rcases List.mem_cons.mp hy with rfl | hy
        · omega
        · exact h3 y hy
theorem dpAll_ints {K : PySem.W.Frag} {H : Hp} : ∀ ns : List Int, DpAll K H (ns.map V.int) (ns.map PyData.int)
  | [] => .nil
  | n :: ns => .cons (.int n) (dpAll_ints ns)
theorem cr_maxD {X : Cx} (hc : X.calm = true) (hu : X.A.units + 64 < cLine) : CallRK X (.builtin "max") [Str.ofString "default"] (rMaxD X.K) := by
  intro pins s σ H vs zs us ws Q I r rz h
  obtain ⟨a, ns, d, rfl, rfl, hs, h0, h1⟩ := h
  obtain ⟨its, rv, hl, _⟩ := I.list hs
  rw [Vals.ref1 r]
  obtain ⟨w1, rfl, ed⟩ := vals1 rz
  obtain ⟨as, hr⟩ := Dp.readsAll I _ _ _ (dpAll_ints ns) rv
  refine PySem.W.max_list_datum_default (α := Int) (xs := ns) (I.ok.hd hc) hl.isList ⟨as, hr⟩ (by show X.A.units + 1 + 0 < cLine; omega) (fun e h' tk k => ?_) (fun y ys i v h' tk e hi hv k => ?_)
  · exact ⟨.int d, H, I.kept k, ed, h0 e⟩
  · obtain ⟨as2, hv⟩ := hv
    have hv : ∃ t, v = .int (PySem.W.maxOf y ys) t := by
      have hv' : Reads h' v (.int (PySem.W.maxOf y ys)) as2 := hv
      cases hv'
      exact ⟨_, rfl⟩
    have hm := maxOf_ge ys y
    refine ⟨.int (PySem.W.maxOf y ys), H, I.kept k, hv, h1 _ ?_ fun z hz => ?_⟩
    · rw [e]
      rcases hm.1 with h | h
      · rw [h]; exact List.mem_cons_self
      · exact List.mem_cons_of_mem _ h
    · rw [e] at hz
      rcases List.mem_cons.mp hz with rfl | hz
      · exact hm.2.1
      · exact hm.2.2 z hz
/-! ### lists of ints compared -/
theorem eqvAll_ints : ∀ a b : List Int, PyData.eqvAll (a.map PyData.int) (b.map PyData.int) = decide (a = b)
  | [], [] => rfl
  | [], _ :: _ => rfl
  | _ :: _, [] => rfl
  | x :: a, y :: b => by
    show (PyData.eqv (.int x) (.int y) && PyData.eqvAll (a.map PyData.int) (b.map PyData.int)) = _
    rw [eqvAll_ints a b]
    show (x == y && decide (a = b)) = _
    by_cases h1 : x = y <;> by_cases h2 : a = b <;> simp [h1, h2]
theorem ev_neLL {K : PySem.W.Frag} {σ : L2.St} {H : Hp} {ta tb : TE} {q : Addr} {a b : List UInt8} (ha : EvL ta σ H (nvs (bs a))) (hb : Ev tb σ H (.ref q)) (hq : SqL K H q (nvs (bs b))) : Ev (tOp (rNeD K) ta tb) σ H (.bl (!decide (a = b))) := fun H1 e Q k =>
  ha H1 e _ fun p H2 hp e2 h2 => hb H2 (e.trans e2) _ fun H3 e3 => by
    have d : ∀ {p : Addr} {l : List UInt8}, SqL K H3 p (nvs (bs l)) → Dp K H3 (.ref p) (.list ((zn (bs l)).map PyData.int)) := fun {p l} h => .lst h (by rw [nvs_ints]; exact dpAll_ints _)
    refine ⟨_, _, d (sq_of (e3 _ _ h2)), d (ex_l ((e.trans e2).trans e3) hq), PySem.W.ke_shaped_ints _, PySem.W.ke_shaped_ints _, ?_⟩
    have : PyData.eqv (.list ((zn (bs a)).map PyData.int)) (.list ((zn (bs b)).map PyData.int)) = decide (a = b) := by
      show PyData.eqvAll _ _ = _
      rw [eqvAll_ints]
      congr 1
      refine propext ⟨fun h => ?_, fun h => by rw [h]⟩
      unfold zn bs at h
      rw [List.map_map, List.map_map] at h
      refine (List.map_inj_right (fun x y hxy => ?_)).mp h
      have : ((x.toNat : Nat) : Int) = (y.toNat : Int) := hxy
      exact UInt8.toNat_inj.mp (by omega)
    rw [this]
    exact k H3 (e2.trans e3)
end Gz
end

/-! ## W23 -/
section
set_option Elab.async false
set_option linter.all false
set_option maxRecDepth 100000
set_option maxHeartbeats 4000000
namespace Gz
open PySem PySem.Spec PyProof.Rows L2 Evl
open SwSqueeze (readCoded Block)
/-- a promise's list of ints is made -/
def RetI (l : List Int) (H : Hp) (Q : VK) : Prop := RetL (l.map V.int) H Q
theorem RetI.ex {l : List Int} {H H' : Hp} {Q : VK} (e : Ex H H') (q : RetI l H Q) : RetI l H' Q := fun p H2 hp e2 h2 => q p H2 (fresh_back e hp) (e.trans e2) h2
theorem nvs_zb (b : List UInt8) : nvs (bs b) = (zb b).map V.int := by
  unfold nvs bs zb
  rw [List.map_map, List.map_map]
  rfl
section
variable {P : Program} {w : World} {K : PySem.W.Frag} {mg : Str → Option Value} {base : Heap} {f : Addr} {fd : FuncData} {aM CF CB : Addr}
/-! ### unpacked -/
def spUnpacked (CF : Addr) : Sp := fun vs H Q E => ∃ (r : Addr) (b : List UInt8), vs = [.ref r] ∧ H r = some (.lst (nvs (bs b))) ∧ b.length ≤ 16000 ∧ (∀ e, readE b 0 (1024 * b.length) = .error e → FaultE CF e.kind e.place H E) ∧
  ∀ l t, readE b 0 (1024 * b.length) = .ok (l, t) → (Squeeze.textOf l).length ≤ 1024 * b.length → RetN (bs (Squeeze.textOf l)) H Q
theorem ok_unpacked (T : Gs K mg aM) (D_walked : Def P w K mg base (L2.CX P w) 8 "walked" ["row", "low", "high"] (spWalked CF)) (F : Fun K "unpacked" "unpacked" s_unpacked f fd) : FnOk P w K mg base (L2.CX P w) 9 f fd ["row"] (spUnpacked CF) := by
  refine F.okX sc_unpacked (fun vs H Q E h => ?_) (fun cdv A outer s H vs Q E hr h => ?_)
  · obtain ⟨r, b, rfl, _⟩ := h
    rfl
  obtain ⟨r, b, rfl, hb, hbl, qE, q⟩ := h
  refine ⟨_, (pss_cons (ps_asg (pe_callD D_walked hr rfl (passF rfl rfl rfl rfl) (pa_cons (pv 0) (pa_cons pe_int (pa_cons (pe_op op_mul (pe_k T.BLOCK) (pe_callB call_len_seq (by rfl) T.b_len (by decide +kernel) (pa_cons (pv 0) pa_nil))) pa_nil)))) (pg_tup rfl (pgs_cons (pg_name (i := 1) sc_unpacked.nd rfl (Or.inl rfl) (Or.inl rfl)) (pgs_cons (pg_name (i := 2) sc_unpacked.nd rfl (Or.inl rfl) (Or.inl rfl)) (pgs_cons (pg_name (i := 3) sc_unpacked.nd rfl (Or.inl rfl) (Or.inl rfl)) pgs_nil)))))
    (pss_one (ps_ret (pv 3)))), ?_⟩
  refine qg_raw (call_raw ?_)
  refine (ea_cons (ev_var (v := .ref r) rfl) (ea_cons (x := nv 0) ev_c (ea_cons (x := nv (1024 * b.length)) (ev_is (ev_I ev_c (ev_lenT (ev_var rfl) (sq_of hb)) (.inl ⟨by decide, by decide⟩)) (by show V.int _ = V.int _; congr 1)) ea_nil))) H (Ex.refl _) _ fun H1 e1 => ?_
  refine ⟨r, b, 0, 1024 * b.length, rfl, e1 _ _ hb, hbl, fun e he => (qE e he).ex e1, fun l t hlt hC ht u tx H2 hu htx e2 h2 htx2 => ?_⟩
  refine g_tripleV h2 ?_
  have hca := coll_all hC (by omega)
  have hcl := coll_len hC
  rw [hca] at htx2 hcl
  exact s_ret (ev_var (v := .ref tx) rfl) fun H3 e3 => q l t hlt (by omega) tx H3 (fresh_back e1 htx) ((e1.trans e2).trans e3) (e3 _ _ htx2)
/-! ### answered, refused, no_row -/
def spAnswered : Sp := fun vs H Q _ => ∃ (n : Nat) (d u : Addr) (dl : List UInt8) (ul : List Nat), vs = [nv n, .ref d, .ref u] ∧ H d = some (.lst (nvs (bs dl))) ∧ H u = some (.lst (nvs ul)) ∧ dl.length + ul.length ≤ 16700000 ∧ RetI (numbers n dl ul) H Q
theorem ok_answered (T : Gs K mg aM) (F : Fun K "answered" "answered" s_answered f fd) : FnOk P w K mg base CX0 1 f fd ["number", "data", "numbers"] spAnswered := by
  refine F.ok sc_answered (fun vs H Q E h => ?_) (fun cdv A outer s H vs Q E hr h => ?_)
  · obtain ⟨n, d, u, dl, ul, rfl, _⟩ := h
    rfl
  obtain ⟨n, d, u, dl, ul, rfl, hd, hu, hz, q⟩ := h
  refine ⟨_, (pss_one (ps_ret (pe_op op_cat (pe_op op_cat (pe_op op_cat (pe_op op_cat (pe_lst (pa_cons (pv 0) (pa_cons (pe_callB call_len_seq (by rfl) T.b_len (by decide +kernel) (pa_cons (pv 1) pa_nil)) pa_nil))) (pv 1)) (pe_lst (pa_cons (pe_callB call_len_seq (by rfl) T.b_len (by decide +kernel) (pa_cons (pv 2) pa_nil)) pa_nil))) (pv 2)) (pe_lst (pa_cons pe_int (pa_cons pe_int pa_nil)))))), ?_⟩
  have hsl := sizeLine_eq
  have l1 : (nvs (bs dl)).length = dl.length := by rw [nvs_length, bs_length]
  have l2 : (nvs ul).length = ul.length := nvs_length ul
  refine s_retL (el_is (el_cat (el_catS (el_cat (el_catS (el_lst (ea_cons (ev_var rfl) (ea_cons (ev_lenT (ev_var rfl) (sq_of hd)) ea_nil)) (Nat.le_of_ble_eq_true rfl)) (ev_var rfl) hd ?_) (el_lst (ea_cons (ev_lenN (ev_var rfl) (sq_of hu)) ea_nil) (Nat.le_of_ble_eq_true rfl)) ?_) (ev_var rfl) hu ?_) (el_lst (ea_cons ev_c (ea_cons ev_c ea_nil)) (Nat.le_of_ble_eq_true rfl)) ?_) ?_) q
  · rw [l1, hsl]
    show 2 + dl.length ≤ _
    omega
  · rw [List.length_append, l1, hsl]
    show 2 + dl.length + 1 ≤ _
    omega
  · rw [List.length_append, List.length_append, l1, l2, hsl]
    show 2 + dl.length + 1 + ul.length ≤ _
    omega
  · rw [List.length_append, List.length_append, List.length_append, l1, l2, hsl]
    show 2 + dl.length + 1 + ul.length + 2 ≤ _
    omega
  · unfold numbers
    rw [nvs_zb, nvs_ints]
    simp only [List.map_append]
    rfl
def spRefused : Sp := fun vs H Q _ => ∃ n : Int, vs = [.int n] ∧ RetI [n, 0, 0, 0, 0] H Q
theorem ok_refused (F : Fun K "refused" "refused" s_refused f fd) : FnOk P w K mg base CX0 1 f fd ["number"] spRefused := by
  refine F.ok sc_refused (fun vs H Q E h => ?_) (fun cdv A outer s H vs Q E hr h => ?_)
  · obtain ⟨n, rfl, _⟩ := h
    rfl
  obtain ⟨n, rfl, q⟩ := h
  refine ⟨_, (pss_one (ps_ret (pe_lst (pa_cons (pv 0) (pa_cons pe_int (pa_cons pe_int (pa_cons pe_int (pa_cons pe_int pa_nil)))))))), ?_⟩
  exact s_retL (el_lst (ea_cons (ev_var rfl) (ea_cons ev_c (ea_cons ev_c (ea_cons ev_c (ea_cons ev_c ea_nil))))) (Nat.le_of_ble_eq_true rfl)) q
def spNoRow : Sp := fun vs H Q _ => ∃ k p : Nat, vs = [nv k, nv p] ∧ RetI [-6, 0, 0, k, p] H Q
theorem ok_no_row (T : Gs K mg aM) (F : Fun K "no_row" "no_row" s_no_row f fd) : FnW P w K mg base CX0 1 f fd ["kind", "place"] spNoRow := by
  refine okW F sc_no_row (fun vs H Q E h => ?_) (fun cdv A outer s H vs Q E pn h => ?_)
  · obtain ⟨k, p, rfl, _⟩ := h
    rfl
  obtain ⟨k, p, rfl, q⟩ := h
  refine ⟨_, (pss_one (ps_ret (pe_lst (pa_cons (pe_k T.NO_ROW) (pa_cons pe_int (pa_cons pe_int (pa_cons (pv 0) (pa_cons (pv 1) pa_nil)))))))), ?_⟩
  exact s_retL (el_lst (ea_cons ev_c (ea_cons ev_c (ea_cons ev_c (ea_cons (ev_var rfl) (ea_cons (ev_var rfl) ea_nil))))) (Nat.le_of_ble_eq_true rfl)) q
/-! ### except Fault as fault: return no_row(..) -/
def tsNoRow (CF : Addr) (i : Nat) : Addr → Value → Option Addr → TS := fun a cls d => tRet (tCall spNoRow [] E0 (tCons (tXf a cls d CF "kind" (tVar i)) (tCons (tXf a cls d CF "place" (tVar i)) tNil)))
theorem ev_xf {σ : L2.St} {H : Hp} {a d : Addr} {i : Nat} {fs : List (Str × V)} {fl : Str} {v : V} (h : σ[i]? = some (some (.ref a))) (hd : H d = some (.xd fs)) (l : fs.lookup fl = some v) : Ev (tXf a (.ref CF) (some d) CF fl (tVar i)) σ H v := fun H1 e Q q =>
  ev_var (v := .ref a) h H1 (Ex.refl _) _ fun H2 e2 => ⟨rfl, rfl, d, fs, v, rfl, e2 _ _ (e _ _ hd), l, q H2 e2⟩
theorem catch_raw {i : Nat} {D : Ends} {σ : L2.St} {H : Hp} {k p : Nat} (TF : FaultT K CF) (hi : i < σ.length) (q : RetI [-6, 0, 0, k, p] H D.rt) : FaultE CF k p H (WE (wAs K (.ref CF) i (tsNoRow CF i) (fun _ _ _ _ => False) D) σ) := fun d H' e hd => by
  refine ⟨true, TF.eF, fun _ a na => ?_, fun h => by cases h⟩
  have hs : (σ.set i (some (V.ref a)))[i]? = some (some (.ref a)) := List.getElem?_set_self hi
  refine r_raw (call_raw ?_)
  refine (ea_cons (ev_xf hs hd ((lkP (by decide +kernel)).trans lkH)) (ea_cons (ev_xf hs hd lkH) ea_nil)) H' (Ex.refl _) _ fun H2 e2 => ?_
  exact ⟨k, p, rfl, q.ex (e.trans e2)⟩
theorem qtry_raw {σ : L2.St} {H : Hp} {D : Ends} {tz : TS} {i : Nat} {c : Value} {tb : WX → TS} {ts : Addr → Value → Option Addr → TS} {Wout : WX} (h : tb (wAs K c i ts Wout { D with nx := tz D }) { D with nx := tz D } σ H) : tSeq (fun D σ H => tb (wAs K c i ts Wout D) D σ H) tz D σ H := h
def te_unpack (CF : Addr) : WX → TE := fun W => tCallS (spUnpacked CF) (WE W) (tCons (tVar 0) tNil)
def te_part (CF : Addr) : WX → TE := fun W => tCallS (spWalked CF) (WE W) (tCons (tVar 0) (tCons (tVar 1) (tCons (tOp (rI0 fun i j => .int (i + j)) (tVar 1) (tVar 2)) tNil)))
def te_length (CF : Addr) : WX → TE := fun W => tCallS (spWalked CF) (WE W) (tCons (tVar 0) (tCons (tC (.int 0)) (tCons (tC (.int 0)) tNil)))
def tb_unpack (CF : Addr) (K : PySem.W.Frag) : WX → TS := fun W => tAsg (te_unpack CF W) (gName 1)
def tb_judge (CF : Addr) (K : PySem.W.Frag) : WX → TS := fun W => tAsg (te_unpack CF W) (gName 1)
def tb_part (CF : Addr) (K : PySem.W.Frag) : WX → TS := fun W => tAsg (te_part CF W) (gTup K 3 (gCons (gName 3) (gCons (gName 4) (gCons (gName 5) gNil))))
def tb_length (CF : Addr) (K : PySem.W.Frag) : WX → TS := fun W => tAsg (te_length CF W) (gTup K 3 (gCons (gName 1) (gCons (gName 2) (gCons (gName 3) gNil))))
theorem qtryG {σ : L2.St} {H : Hp} {D : Ends} {tz : TS} {i : Nat} {c : Value} {ts : Addr → Value → Option Addr → TS} {Wout : WX} (te : WX → TE) {g : TG} (h : te (wAs K c i ts Wout { D with nx := tz D }) σ H fun x H1 => g x σ H1 fun σ2 H2 => tz D σ2 H2) :
    tSeq (fun D σ H => tAsg (te (wAs K c i ts Wout D)) g D σ H) tz D σ H := h
theorem gn_raw {i : Nat} {v : V} {σ : L2.St} {H : Hp} {Q : L2.St → Hp → Prop} (h : Q (σ.set i (some v)) H) : gName i v σ H Q := h
theorem asg_raw {te : TE} {g : TG} {σ : L2.St} {H : Hp} {D : Ends} (h : te σ H fun x H1 => g x σ H1 D.nx) : tAsg te g D σ H := h
abbrev ans (a : Squeeze.Answer) : List Int := SqueezeNeutral.numbersOf a
theorem ans_gives (b : List UInt8) : ans (Squeeze.gives b) = numbers b.length b [] := numbers_eq _ _ _
theorem ans_tells (n : Nat) (l : List Nat) : ans (Squeeze.tells n l) = numbers n [] l := numbers_eq _ _ _
/-! ### pack, unpack -/
def spPack : Sp := fun vs H Q _ => ∃ (r : Addr) (b : List UInt8), vs = [.ref r] ∧ H r = some (.lst (nvs (bs b))) ∧ b.length ≤ 16000 ∧ RetI (ans (Squeeze.ofText b (Squeeze.gives (SwSqueeze.packed b)))) H Q
theorem packed_len (b : List UInt8) (hb : b.length ≤ 65536) : (SwSqueeze.packed b).length ≤ 100000 := by
  rw [packed_eq, List.length_append, List.length_append, List.length_append, le_length, le_length]
  have h1 := blocks_len b (nBlocks b.length)
  have h2 : (Sw.ascii "SWZ1").length = 4 := by decide +kernel
  have h3 : nBlocks b.length ≤ 64 := by unfold nBlocks; omega
  omega
theorem ok_pack (T : Gs K mg aM) (D_refused : Def P w K mg base CX0 1 "refused" ["number"] spRefused) (D_packed : Def P w K mg base CX0 7 "packed" ["text"] (spPacked K)) (D_answered : Def P w K mg base CX0 1 "answered" ["number", "data", "numbers"] spAnswered) (F : Fun K "pack" "pack" s_pack f fd) :
    FnOk P w K mg base CX0 10 f fd ["text"] spPack := by
  refine F.ok sc_pack (fun vs H Q E h => ?_) (fun cdv A outer s H vs Q E hr h => ?_)
  · obtain ⟨r, b, rfl, _⟩ := h
    rfl
  obtain ⟨r, b, rfl, hb, hbl, q⟩ := h
  unfold Squeeze.ofText at q
  rw [if_neg (show ¬ Squeeze.TEXT < b.length by show ¬ 65536 < b.length; omega), ans_gives] at q
  refine ⟨_, (pss_cons (ps_if (pt_cmpR op_gt (pe_callB call_len_seq (by rfl) T.b_len (by decide +kernel) (pa_cons (pv 0) pa_nil)) (pe_k T.TEXT_MOST) (nomark _))
      (pss_one (ps_ret (pe_callD D_refused hr rfl pass0 (pa_cons (pe_k T.TOO_MANY) pa_nil))))
      pss_nil)
    (pss_cons (ps_set (i := 1) sc_pack.nd rfl (Or.inl rfl) (pe_callD D_packed hr rfl pass0 (pa_cons (pv 0) pa_nil)))
    (pss_one (ps_ret (pe_callD D_answered hr rfl pass0 (pa_cons (pe_callB call_len_seq (by rfl) T.b_len (by decide +kernel) (pa_cons (pv 1) pa_nil)) (pa_cons (pv 1) (pa_cons (pe_lst pa_nil) pa_nil)))))))), ?_⟩
  refine q_when (b := false) (et_is (et_test (ev_I0 (ev_lenT (ev_var rfl) (sq_of hb)) ev_c)) (by rw [decide_eq_false_iff_not]; omega)) (fun h => by cases h) (fun _ H1 e1 => ?_)
  refine q_asgL (xs := nvs (bs (SwSqueeze.packed b))) (el_call (ea_cons (ev_var rfl) ea_nil) fun H2 e2 Q2 q2 E2 => ⟨r, b, rfl, sq_of ((e1.trans e2) _ _ hb), by omega, q2⟩) fun p H2 hp e2 h2 => ?_
  have hpl := packed_len b (by omega)
  refine r_raw (call_raw (cons_raw ?_))
  refine (ev_lenT (ev_var rfl) (sq_of h2)) H2 (Ex.refl _) _ fun H3 e3 => ?_
  refine cons_raw ?_
  refine (ev_var (v := .ref p) rfl) H3 (Ex.refl _) _ fun H4 e4 => ?_
  refine cons_raw ?_
  refine (el_lst ea_nil (by decide)) H4 (Ex.refl _) _ fun u H5 hu e5 h5 => nil_raw ?_
  exact ⟨_, p, u, _, [], rfl, ((e3.trans e4).trans e5) _ _ h2, h5, by rw [List.length_nil]; omega, q.ex ((((e1.trans e2).trans e3).trans e4).trans e5)⟩
def spUnpack : Sp := fun vs H Q _ => ∃ (r : Addr) (b : List UInt8), vs = [.ref r] ∧ H r = some (.lst (nvs (bs b))) ∧ b.length ≤ 16000 ∧ RetI (ans (Squeeze.ofRow b (fun _ _ => true) fun x => Squeeze.gives (Squeeze.textOf x.1))) H Q
theorem ok_unpack (T : Gs K mg aM) (DF : FaultD P w K mg base CF) (DW_no_row : DefW P w K mg base 1 "no_row" ["kind", "place"] spNoRow) (D_refused : Def P w K mg base CX0 1 "refused" ["number"] spRefused) (D_unpacked : Def P w K mg base (L2.CX P w) 9 "unpacked" ["row"] (spUnpacked CF))
    (D_answered : Def P w K mg base CX0 1 "answered" ["number", "data", "numbers"] spAnswered) (F : Fun K "unpack" "unpack" s_unpack f fd) : FnOk P w K mg base CX0 10 f fd ["row"] spUnpack := by
  refine F.ok sc_unpack (fun vs H Q E h => ?_) (fun cdv A outer s H vs Q E hr h => ?_)
  · obtain ⟨r, b, rfl, _⟩ := h
    rfl
  obtain ⟨r, b, rfl, hb, hbl, q⟩ := h
  rw [unpack_eq, if_neg (by omega)] at q
  refine ⟨_, (pss_cons (ps_if (pt_cmpR op_gt (pe_callB call_len_seq (by rfl) T.b_len (by decide +kernel) (pa_cons (pv 0) pa_nil)) (pe_k T.ROW_MOST) (nomark _))
      (pss_one (ps_ret (pe_callD D_refused hr rfl pass0 (pa_cons (pe_k T.TOO_MANY) pa_nil))))
      pss_nil)
    (pss_cons (ps_try_as (i := 2) (c := .ref CF) (tb := tb_unpack CF K) (ts := tsNoRow CF 2) (Wout := fun _ _ _ _ => False) rfl rfl sc_unpack.nd rfl rfl ⟨rfl, by decide, Or.inl DF.gF⟩ takes0 (fun W pn xe tk _ => pss_one (ps_set (i := 1) sc_unpack.nd rfl (Or.inl rfl) (pe_callDS D_unpacked hr rfl (fun σ => passAt tk σ) (pa_cons (pv 0) pa_nil)))) (fun a oe cls d pn hz hf => pss_one (ps_ret (pe_callW DW_no_row (L2H.roomH_mark hr _) List.mem_cons_self rfl (pa_cons (pe_xf DF.tf.xf DF.tf.nK hz hf (pv 2)) (pa_cons (pe_xf DF.tf.xf DF.tf.nP hz hf (pv 2)) pa_nil))))))
    (pss_one (ps_ret (pe_callD D_answered hr rfl pass0 (pa_cons (pe_callB call_len_seq (by rfl) T.b_len (by decide +kernel) (pa_cons (pv 1) pa_nil)) (pa_cons (pv 1) (pa_cons (pe_lst pa_nil) pa_nil)))))))), ?_⟩
  refine q_when (b := false) (et_is (et_test (ev_I0 (ev_lenT (ev_var rfl) (sq_of hb)) ev_c)) (by rw [decide_eq_false_iff_not]; omega)) (fun h => by cases h) (fun _ H1 e1 => ?_)
  refine qtryG (te_unpack CF) (callS_raw ?_)
  refine (ea_cons (ev_var (v := .ref r) rfl) ea_nil) H1 (Ex.refl _) _ fun H2 e2 => ?_
  have e12 := e1.trans e2
  refine ⟨r, b, rfl, e12 _ _ hb, hbl, fun e he => ?_, fun l t hlt hl p H3 hp e3 h3 => ?_⟩
  · rw [he] at q
    exact catch_raw DF.tf (by show 2 < 3; decide) (q.ex e12)
  · rw [hlt] at q
    have q : RetI (ans (Squeeze.gives (Squeeze.textOf l))) H Q := q
    rw [ans_gives] at q
    show tRet _ _ _ _
    refine r_raw (call_raw (cons_raw ?_))
    refine (ev_lenT (ev_var (v := .ref p) rfl) (sq_of h3)) H3 (Ex.refl _) _ fun H4 e4 => ?_
    refine cons_raw ?_
    refine (ev_var (v := .ref p) rfl) H4 (Ex.refl _) _ fun H5 e5 => ?_
    refine cons_raw ?_
    refine (el_lst ea_nil (by decide)) H5 (Ex.refl _) _ fun u H6 hu e6 h6 => nil_raw ?_
    exact ⟨_, p, u, _, [], rfl, ((e4.trans e5).trans e6) _ _ h3, h6, by rw [List.length_nil]; omega, q.ex ((((e12.trans e3).trans e4).trans e5).trans e6)⟩
end
end Gz
end

/-! ## W24 -/
section
set_option Elab.async false
set_option linter.all false
set_option maxRecDepth 100000
set_option maxHeartbeats 4000000
namespace Gz
open PySem PySem.Spec PyProof.Rows L2 Evl
open SwSqueeze (readCoded Block)
section
variable {P : Program} {w : World} {K : PySem.W.Frag} {mg : Str → Option Value} {base : Heap} {f : Addr} {fd : FuncData} {aM CF CB : Addr}
/-! ### part -/
def spPart : Sp := fun vs H Q _ => ∃ (r : Addr) (b : List UInt8) (fr n : Nat) (s : Squeeze.State), vs = [.ref r, nv fr, nv n] ∧ H r = some (.lst (nvs (bs b))) ∧ b.length ≤ 16000 ∧ RetI (ans (Squeeze.step s (.at_ b fr n)).2) H Q
theorem ok_part (T : Gs K mg aM) (DF : FaultD P w K mg base CF) (DW_no_row : DefW P w K mg base 1 "no_row" ["kind", "place"] spNoRow) (D_refused : Def P w K mg base CX0 1 "refused" ["number"] spRefused) (D_walked : Def P w K mg base (L2.CX P w) 8 "walked" ["row", "low", "high"] (spWalked CF))
    (D_answered : Def P w K mg base CX0 1 "answered" ["number", "data", "numbers"] spAnswered) (F : Fun K "part" "part" s_part f fd) : FnOk P w K mg base CX0 10 f fd ["row", "start", "many"] spPart := by
  refine F.ok sc_part (fun vs H Q E h => ?_) (fun cdv A outer s H vs Q E hr h => ?_)
  · obtain ⟨r, b, fr, n, s, rfl, _⟩ := h
    rfl
  obtain ⟨r, b, fr, n, st, rfl, hb, hbl, q⟩ := h
  rw [at_call_eq, if_neg (by omega)] at q
  refine ⟨_, (pss_cons (ps_if (pt_cmpR op_gt (pe_callB call_len_seq (by rfl) T.b_len (by decide +kernel) (pa_cons (pv 0) pa_nil)) (pe_k T.ROW_MOST) (nomark _))
      (pss_one (ps_ret (pe_callD D_refused hr rfl pass0 (pa_cons (pe_k T.TOO_MANY) pa_nil))))
      pss_nil)
    (pss_cons (ps_try_as (i := 6) (c := .ref CF) (tb := tb_part CF K) (ts := tsNoRow CF 6) (Wout := fun _ _ _ _ => False) rfl rfl sc_part.nd rfl rfl ⟨rfl, by decide, Or.inl DF.gF⟩ takes0 (fun W pn xe tk _ => pss_one (ps_asg (pe_callDS D_walked hr rfl (fun σ => passAt tk σ) (pa_cons (pv 0) (pa_cons (pv 1) (pa_cons (pe_op op_add (pv 1) (pv 2)) pa_nil)))) (pg_tup rfl (pgs_cons (pg_name (i := 3) sc_part.nd rfl (Or.inl rfl) (Or.inl rfl)) (pgs_cons (pg_name (i := 4) sc_part.nd rfl (Or.inl rfl) (Or.inl rfl)) (pgs_cons (pg_name (i := 5) sc_part.nd rfl (Or.inl rfl) (Or.inl rfl)) pgs_nil)))))) (fun a oe cls d pn hz hf => pss_one (ps_ret (pe_callW DW_no_row (L2H.roomH_mark hr _) List.mem_cons_self rfl (pa_cons (pe_xf DF.tf.xf DF.tf.nK hz hf (pv 6)) (pa_cons (pe_xf DF.tf.xf DF.tf.nP hz hf (pv 6)) pa_nil))))))
    (pss_cons (ps_if (pt_cmpR op_gt (pv 1) (pv 3) (nomark _))
      (pss_one (ps_ret (pe_callD D_refused hr rfl pass0 (pa_cons (pe_k T.OUT_OF_BOUNDS) pa_nil))))
      pss_nil)
    (pss_one (ps_ret (pe_callD D_answered hr rfl pass0 (pa_cons (pe_callB call_len_seq (by rfl) T.b_len (by decide +kernel) (pa_cons (pv 5) pa_nil)) (pa_cons (pv 5) (pa_cons (pe_lst pa_nil) pa_nil))))))))), ?_⟩
  refine q_when (b := false) (et_is (et_test (ev_I0 (ev_lenT (ev_var rfl) (sq_of hb)) ev_c)) (by rw [decide_eq_false_iff_not]; omega)) (fun h => by cases h) (fun _ H1 e1 => ?_)
  refine qtryG (te_part CF) (callS_raw ?_)
  refine (ea_cons (ev_var (v := .ref r) rfl) (ea_cons (ev_var (v := nv fr) rfl) (ea_cons (x := nv (fr + n)) (ev_is (ev_I0 (ev_var rfl) (ev_var rfl)) rfl) ea_nil))) H1 (Ex.refl _) _ fun H2 e2 => ?_
  have e12 := e1.trans e2
  refine ⟨r, b, fr, fr + n, rfl, e12 _ _ hb, hbl, fun e he => ?_, fun l t hlt hC ht u tx H3 hu htx e3 h3 htx3 => ?_⟩
  · have he : readE b fr (fr + n) = .error e := he
    rw [he] at q
    exact catch_raw DF.tf (by show 6 < 7; decide) (q.ex e12)
  · have hlt : readE b fr (fr + n) = .ok (l, t) := hlt
    rw [hlt] at q
    refine g_tripleV h3 ?_
    have e13 := e12.trans e3
    refine q_when (b := decide (t < fr)) (et_is (et_test (ev_I0 (ev_var rfl) (ev_var rfl))) (by rw [decide_eq_decide]; omega)) (fun hc H4 e4 => ?_) (fun hc H4 e4 => ?_)
    · have hc := of_decide_eq_true hc
      have q : RetI (ans (if t < fr then Squeeze.says (-1) else _)) H Q := q
      rw [if_pos hc] at q
      refine r_raw (call_raw ?_)
      refine (ea_cons (x := .int (-1)) ev_c ea_nil) H4 (Ex.refl _) _ fun H5 e5 => ?_
      exact ⟨-1, rfl, q.ex ((e13.trans e4).trans e5)⟩
    · have hc := of_decide_eq_false hc
      have q : RetI (ans (if t < fr then Squeeze.says (-1) else match l.filter fun (q : SwSqueeze.Block) => decide (max q.from_ fr < min (q.from_ + q.size) (fr + min n (t - fr))) with
        | [] => Squeeze.gives []
        | q :: _ => Squeeze.gives (Sw.part (Squeeze.textOf (l.filter fun (q : SwSqueeze.Block) => decide (max q.from_ fr < min (q.from_ + q.size) (fr + min n (t - fr))))) (fr - q.from_) (min n (t - fr))))) H Q := q
      rw [if_neg hc] at q
      have q : RetI (ans (Squeeze.gives (coll fr (fr + n) l))) H Q := by
        rw [← at_some hC (by omega)]
        exact q
      rw [ans_gives] at q
      have hcl := coll_len hC
      refine r_raw (call_raw (cons_raw ?_))
      refine (ev_lenT (ev_var (v := .ref tx) rfl) (sq_of (e4 _ _ htx3))) H4 (Ex.refl _) _ fun H5 e5 => ?_
      refine cons_raw ?_
      refine (ev_var (v := .ref tx) rfl) H5 (Ex.refl _) _ fun H6 e6 => ?_
      refine cons_raw ?_
      refine (el_lst ea_nil (by decide)) H6 (Ex.refl _) _ fun u H7 hu e7 h7 => nil_raw ?_
      exact ⟨_, tx, u, _, [], rfl, (((e4.trans e5).trans e6).trans e7) _ _ htx3, h7, by rw [List.length_nil]; omega, q.ex ((((e13.trans e4).trans e5).trans e6).trans e7)⟩
/-! ### judge -/
def spJudge : Sp := fun vs H Q _ => ∃ (r : Addr) (b : List UInt8), vs = [.ref r] ∧ H r = some (.lst (nvs (bs b))) ∧ b.length ≤ 16000 ∧ RetI (ans (Squeeze.ofRow b (fun _ _ => true) fun x => if SwSqueeze.packed (Squeeze.textOf x.1) = b then Squeeze.says 0 else Squeeze.says (-9))) H Q
/-- a row that's read whole, packed: the text isn't longer than what rows hold -/
theorem ok_judge (T : Gs K mg aM) (DF : FaultD P w K mg base CF) (DW_no_row : DefW P w K mg base 1 "no_row" ["kind", "place"] spNoRow) (D_refused : Def P w K mg base CX0 1 "refused" ["number"] spRefused) (D_unpacked : Def P w K mg base (L2.CX P w) 9 "unpacked" ["row"] (spUnpacked CF))
    (D_packed : Def P w K mg base CX0 7 "packed" ["text"] (spPacked K)) (D_answered : Def P w K mg base CX0 1 "answered" ["number", "data", "numbers"] spAnswered) (F : Fun K "judge" "judge" s_judge f fd) : FnOk P w K mg base CX0 10 f fd ["row"] spJudge := by
  refine F.ok sc_judge (fun vs H Q E h => ?_) (fun cdv A outer s H vs Q E hr h => ?_)
  · obtain ⟨r, b, rfl, _⟩ := h
    rfl
  obtain ⟨r, b, rfl, hb, hbl, q⟩ := h
  rw [judge_eq, if_neg (by omega)] at q
  refine ⟨_, (pss_cons (ps_if (pt_cmpR op_gt (pe_callB call_len_seq (by rfl) T.b_len (by decide +kernel) (pa_cons (pv 0) pa_nil)) (pe_k T.ROW_MOST) (nomark _))
      (pss_one (ps_ret (pe_callD D_refused hr rfl pass0 (pa_cons (pe_k T.TOO_MANY) pa_nil))))
      pss_nil)
    (pss_cons (ps_try_as (i := 2) (c := .ref CF) (tb := tb_judge CF K) (ts := tsNoRow CF 2) (Wout := fun _ _ _ _ => False) rfl rfl sc_judge.nd rfl rfl ⟨rfl, by decide, Or.inl DF.gF⟩ takes0 (fun W pn xe tk _ => pss_one (ps_set (i := 1) sc_judge.nd rfl (Or.inl rfl) (pe_callDS D_unpacked hr rfl (fun σ => passAt tk σ) (pa_cons (pv 0) pa_nil)))) (fun a oe cls d pn hz hf => pss_one (ps_ret (pe_callW DW_no_row (L2H.roomH_mark hr _) List.mem_cons_self rfl (pa_cons (pe_xf DF.tf.xf DF.tf.nK hz hf (pv 2)) (pa_cons (pe_xf DF.tf.xf DF.tf.nP hz hf (pv 2)) pa_nil))))))
    (pss_cons (ps_if (pt_cmpR (op_neD (u64 hr)) (pe_callD D_packed hr rfl pass0 (pa_cons (pv 1) pa_nil)) (pv 0) (nomark _))
      (pss_one (ps_ret (pe_callD D_refused hr rfl pass0 (pa_cons (pe_k T.ANOTHER) pa_nil))))
      pss_nil)
    (pss_one (ps_ret (pe_callD D_answered hr rfl pass0 (pa_cons pe_int (pa_cons (pe_lst pa_nil) (pa_cons (pe_lst pa_nil) pa_nil))))))))), ?_⟩
  refine q_when (b := false) (et_is (et_test (ev_I0 (ev_lenT (ev_var rfl) (sq_of hb)) ev_c)) (by rw [decide_eq_false_iff_not]; omega)) (fun h => by cases h) (fun _ H1 e1 => ?_)
  refine qtryG (te_unpack CF) (callS_raw ?_)
  refine (ea_cons (ev_var (v := .ref r) rfl) ea_nil) H1 (Ex.refl _) _ fun H2 e2 => ?_
  have e12 := e1.trans e2
  refine ⟨r, b, rfl, e12 _ _ hb, hbl, fun e he => ?_, fun l t hlt hl p H3 hp e3 h3 => ?_⟩
  · rw [he] at q
    exact catch_raw DF.tf (by show 2 < 3; decide) (q.ex e12)
  · rw [hlt] at q
    have q : RetI (ans (if SwSqueeze.packed (Squeeze.textOf l) = b then Squeeze.says 0 else Squeeze.says (-9))) H Q := q
    show tSeq _ _ _ _ _
    have e13 := e12.trans e3
    refine q_when (b := !decide (SwSqueeze.packed (Squeeze.textOf l) = b)) (et_test (ev_neLL (el_call (ea_cons (ev_var rfl) ea_nil) fun H4 e4 Q4 q4 E4 => ⟨p, _, rfl, sq_of (e4 _ _ h3), ?_, q4⟩) (ev_var rfl) (sq_of (e13 _ _ hb)))) (fun hc H4 e4 => ?_) (fun hc H4 e4 => ?_)
    · omega
    · rw [Bool.not_eq_true', decide_eq_false_iff_not] at hc
      rw [if_neg hc] at q
      refine r_raw (call_raw ?_)
      refine (ea_cons (x := .int (-9)) ev_c ea_nil) H4 (Ex.refl _) _ fun H5 e5 => ?_
      exact ⟨-9, rfl, q.ex ((e13.trans e4).trans e5)⟩
    · rw [Bool.not_eq_false', decide_eq_true_eq] at hc
      rw [if_pos hc] at q
      refine r_raw (call_raw (cons_raw ?_))
      refine (ev_c (v := nv 0)) H4 (Ex.refl _) _ fun H5 e5 => ?_
      refine cons_raw ?_
      refine (el_lst ea_nil (by decide)) H5 (Ex.refl _) _ fun d H6 hd e6 h6 => ?_
      refine cons_raw ?_
      refine (el_lst ea_nil (by decide)) H6 (Ex.refl _) _ fun u H7 hu e7 h7 => nil_raw ?_
      exact ⟨0, d, u, [], [], rfl, e7 _ _ h6, h7, by decide, q.ex ((((e13.trans e4).trans e5).trans e6).trans e7)⟩
/-! ### length -/
def spLength : Sp := fun vs H Q _ => ∃ (r : Addr) (b : List UInt8), vs = [.ref r] ∧ H r = some (.lst (nvs (bs b))) ∧ b.length ≤ 16000 ∧ RetI (ans (Squeeze.ofRow b (fun _ _ => false) fun x => Squeeze.tells 0 [x.2, x.1.length])) H Q
theorem ok_length (T : Gs K mg aM) (DF : FaultD P w K mg base CF) (DW_no_row : DefW P w K mg base 1 "no_row" ["kind", "place"] spNoRow) (D_refused : Def P w K mg base CX0 1 "refused" ["number"] spRefused) (D_walked : Def P w K mg base (L2.CX P w) 8 "walked" ["row", "low", "high"] (spWalked CF))
    (D_answered : Def P w K mg base CX0 1 "answered" ["number", "data", "numbers"] spAnswered) (F : Fun K "length" "length" s_length f fd) : FnOk P w K mg base CX0 10 f fd ["row"] spLength := by
  refine F.ok sc_length (fun vs H Q E h => ?_) (fun cdv A outer s H vs Q E hr h => ?_)
  · obtain ⟨r, b, rfl, _⟩ := h
    rfl
  obtain ⟨r, b, rfl, hb, hbl, q⟩ := h
  rw [length_eq, if_neg (by omega)] at q
  refine ⟨_, (pss_cons (ps_if (pt_cmpR op_gt (pe_callB call_len_seq (by rfl) T.b_len (by decide +kernel) (pa_cons (pv 0) pa_nil)) (pe_k T.ROW_MOST) (nomark _))
      (pss_one (ps_ret (pe_callD D_refused hr rfl pass0 (pa_cons (pe_k T.TOO_MANY) pa_nil))))
      pss_nil)
    (pss_cons (ps_try_as (i := 4) (c := .ref CF) (tb := tb_length CF K) (ts := tsNoRow CF 4) (Wout := fun _ _ _ _ => False) rfl rfl sc_length.nd rfl rfl ⟨rfl, by decide, Or.inl DF.gF⟩ takes0 (fun W pn xe tk _ => pss_one (ps_asg (pe_callDS D_walked hr rfl (fun σ => passAt tk σ) (pa_cons (pv 0) (pa_cons pe_int (pa_cons pe_int pa_nil)))) (pg_tup rfl (pgs_cons (pg_name (i := 1) sc_length.nd rfl (Or.inl rfl) (Or.inl rfl)) (pgs_cons (pg_name (i := 2) sc_length.nd rfl (Or.inl rfl) (Or.inl rfl)) (pgs_cons (pg_name (i := 3) sc_length.nd rfl (Or.inl rfl) (Or.inl rfl)) pgs_nil)))))) (fun a oe cls d pn hz hf => pss_one (ps_ret (pe_callW DW_no_row (L2H.roomH_mark hr _) List.mem_cons_self rfl (pa_cons (pe_xf DF.tf.xf DF.tf.nK hz hf (pv 4)) (pa_cons (pe_xf DF.tf.xf DF.tf.nP hz hf (pv 4)) pa_nil))))))
    (pss_one (ps_ret (pe_callD D_answered hr rfl pass0 (pa_cons pe_int (pa_cons (pe_lst pa_nil) (pa_cons (pe_lst (pa_cons (pv 1) (pa_cons (pv 2) pa_nil))) pa_nil)))))))), ?_⟩
  refine q_when (b := false) (et_is (et_test (ev_I0 (ev_lenT (ev_var rfl) (sq_of hb)) ev_c)) (by rw [decide_eq_false_iff_not]; omega)) (fun h => by cases h) (fun _ H1 e1 => ?_)
  refine qtryG (te_length CF) (callS_raw ?_)
  refine (ea_cons (ev_var (v := .ref r) rfl) (ea_cons (x := nv 0) ev_c (ea_cons (x := nv 0) ev_c ea_nil))) H1 (Ex.refl _) _ fun H2 e2 => ?_
  have e12 := e1.trans e2
  refine ⟨r, b, 0, 0, rfl, e12 _ _ hb, hbl, fun e he => ?_, fun l t hlt hC ht u tx H3 hu htx e3 h3 htx3 => ?_⟩
  · have he : readE b 0 0 = .error e := he
    rw [he] at q
    exact catch_raw DF.tf (by show 4 < 5; decide) (q.ex e12)
  · have hlt : readE b 0 0 = .ok (l, t) := hlt
    rw [hlt] at q
    have q : RetI (ans (Squeeze.tells (0 : Nat) [t, l.length])) H Q := q
    rw [ans_tells] at q
    refine g_tripleV h3 ?_
    refine r_raw (call_raw (cons_raw ?_))
    refine (ev_c (v := nv 0)) H3 (Ex.refl _) _ fun H5 e5 => ?_
    refine cons_raw ?_
    refine (el_lst ea_nil (by decide)) H5 (Ex.refl _) _ fun d H6 hd e6 h6 => ?_
    refine cons_raw ?_
    refine (el_lst (vs := nvs [t, l.length]) (ea_cons (ev_var rfl) (ea_cons (ev_var rfl) ea_nil)) (Nat.le_of_ble_eq_true rfl)) H6 (Ex.refl _) _ fun u H7 hu e7 h7 => nil_raw ?_
    exact ⟨0, d, u, [], [t, l.length], rfl, e7 _ _ h6, h7, by show 0 + 2 ≤ _; decide, q.ex ((((e12.trans e3).trans e5).trans e6).trans e7)⟩
/-! ### parse -/
def spParseC : Sp := fun vs H Q _ => ∃ (r : Addr) (b : List UInt8), vs = [.ref r] ∧ H r = some (.lst (nvs (bs b))) ∧ b.length ≤ 16000 ∧ RetI (ans (if SwSqueeze.BLOCK < b.length then Squeeze.says (-2) else Squeeze.tells ((SwSqueeze.parse b).length : Nat) ((SwSqueeze.parse b).flatMap Squeeze.told))) H Q
theorem told_enc (s : SwSqueeze.Step) : Squeeze.told s = pr (enc s) := by cases s <;> rfl
theorem flat_enc (l : List SwSqueeze.Step) : l.flatMap Squeeze.told = (encs l).flatMap pr := by
  unfold encs
  induction l with
  | nil => rfl
  | cons s l ih =>
    rw [List.flatMap_cons, List.map_cons, List.flatMap_cons, ih, told_enc]
theorem flat_len (l : List (Nat × Nat)) : (l.flatMap pr).length = 2 * l.length := by
  induction l with
  | nil => rfl
  | cons q l ih =>
    rw [List.flatMap_cons, List.length_append, ih, List.length_cons]
    show 2 + _ = _
    omega
theorem ok_parse (T : Gs K mg aM) (D_refused : Def P w K mg base CX0 1 "refused" ["number"] spRefused) (D_parse_of : Def P w K mg base CX0 4 "parse_of" ["text"] spParse) (D_answered : Def P w K mg base CX0 1 "answered" ["number", "data", "numbers"] spAnswered) (F : Fun K "parse" "parse" s_parse f fd) :
    FnOk P w K mg base CX0 10 f fd ["text"] spParseC := by
  refine F.ok sc_parse (fun vs H Q E h => ?_) (fun cdv A outer s H vs Q E hr h => ?_)
  · obtain ⟨r, b, rfl, _⟩ := h
    rfl
  obtain ⟨r, b, rfl, hb, hbl, q⟩ := h
  refine ⟨_, (pss_cons (ps_if (pt_cmpR op_gt (pe_callB call_len_seq (by rfl) T.b_len (by decide +kernel) (pa_cons (pv 0) pa_nil)) (pe_k T.BLOCK) (nomark _))
      (pss_one (ps_ret (pe_callD D_refused hr rfl pass0 (pa_cons (pe_k T.TOO_MANY) pa_nil))))
      pss_nil)
    (pss_cons (ps_set (i := 1) sc_parse.nd rfl (Or.inl rfl) (pe_callD D_parse_of hr rfl pass0 (pa_cons (pv 0) pa_nil)))
    (pss_cons (ps_set (i := 2) sc_parse.nd rfl (Or.inl rfl) (pe_lst pa_nil))
    (pss_cons (ps_for PassesOwn.never rfl (pi_list (pv 1)) (pg_tup rfl (pgs_cons (pg_name (i := 3) sc_parse.nd rfl (Or.inl rfl) (Or.inl rfl)) (pgs_cons (pg_name (i := 4) sc_parse.nd rfl (Or.inl rfl) (Or.inl rfl)) pgs_nil)))
      (pss_cons (ps_expr (pe_bm PySem.F.plainAttrs_list PySem.F.slot_list_append PySem.F.type_list_append mt_append (pv 2) (pa_cons (pv 3) pa_nil)))
    (pss_one (ps_expr (pe_bm PySem.F.plainAttrs_list PySem.F.slot_list_append PySem.F.type_list_append mt_append (pv 2) (pa_cons (pv 4) pa_nil))))))
    (pss_one (ps_ret (pe_callD D_answered hr rfl pass0 (pa_cons (pe_callB call_len_seq (by rfl) T.b_len (by decide +kernel) (pa_cons (pv 1) pa_nil)) (pa_cons (pe_lst pa_nil) (pa_cons (pv 2) pa_nil)))))))))), ?_⟩
  refine q_when (b := decide (1024 < b.length)) (et_is (et_test (ev_I0 (ev_lenT (ev_var rfl) (sq_of hb)) ev_c)) (by rw [decide_eq_decide]; omega)) (fun hc H1 e1 => ?_) (fun hc H1 e1 => ?_)
  · rw [if_pos (show SwSqueeze.BLOCK < b.length from of_decide_eq_true hc)] at q
    refine r_raw (call_raw ?_)
    refine (ea_cons (x := .int (-2)) ev_c ea_nil) H1 (Ex.refl _) _ fun H2 e2 => ?_
    exact ⟨-2, rfl, q.ex (e1.trans e2)⟩
  · have hc := of_decide_eq_false hc
    rw [if_neg (show ¬ SwSqueeze.BLOCK < b.length from hc), ans_tells, flat_enc] at q
    refine q_raw (call_raw ?_)
    refine (ea_cons (ev_var rfl) ea_nil) H1 (Ex.refl _) _ fun H2 e2 => ?_
    refine ⟨r, b, rfl, (e1.trans e2) _ _ hb, by omega, fun st H3 hst e3 h3 => ?_⟩
    have hpl := (parse_goes b).length
    have hel : (encs (SwSqueeze.parse b)).length = (SwSqueeze.parse b).length := List.length_map ..
    rw [← hel] at hpl q
    generalize encs (SwSqueeze.parse b) = ps at h3 hpl q
    refine q_asgL (el_lst ea_nil (by decide)) fun p H4 hp e4 h4 => ?_
    have e13 := (e1.trans e2).trans e3
    refine q_forPA (ps := ps) (H0 := H3) (ev_var rfl) h3 e4 (fun k σ H' => ∃ v3 v4, σ = [some (.ref r), some (.ref st), some (.ref p), v3, v4] ∧ Ex H3 H' ∧ H' p = some (.lst (nvs ((ps.take k).flatMap pr)))) (fun H5 e5 => ⟨none, none, rfl, e4.trans e5, e5 _ _ h4⟩) (fun k σ' H' ⟨_, _, _, h, _⟩ => h) ?_ ?_
    · rintro k q0 σ H5 hq ⟨v3, v4, rfl, e5, h5⟩
      have hk := (List.getElem?_eq_some_iff.mp hq).1
      have hfl := flat_len (ps.take k)
      rw [List.length_take] at hfl
      refine q_app h5 (ev_var rfl) (v := nv q0.1) (ev_var rfl) (by rw [nvs_length]; omega) fun H6 e6 => ?_
      refine s_app (xs := nvs ((ps.take k).flatMap pr) ++ [nv q0.1]) upd_same (ev_var rfl) (v := nv q0.2) (ev_var rfl) (by rw [List.length_append, nvs_length]; show _ + 1 < _; omega) fun H7 e7 => ⟨_, _, rfl, Ex.mut ((Ex.mut (e5.trans e6) hp).trans e7) hp, ?_⟩
      rw [upd_same, take_more hq, List.flatMap_append, nvs_append, List.append_assoc]
      rfl
    · rintro σ H5 ⟨v3, v4, rfl, e5, h5⟩
      rw [List.take_length] at h5
      have hfl := flat_len ps
      obtain ⟨ys, h3a, h3b⟩ := h3.ex e5
      have hyl : ys.length = ps.length := by rw [h3b.length, List.length_map]
      refine r_raw (call_raw (cons_raw ?_))
      refine (ev_is (w := nv ps.length) (ev_lenL (ev_var (v := .ref st) rfl) (sq_of h3a)) (by rw [hyl])) H5 (Ex.refl _) _ fun H6 e6 => ?_
      refine cons_raw ?_
      refine (el_lst ea_nil (by decide)) H6 (Ex.refl _) _ fun d H7 hd e7 h7 => ?_
      refine cons_raw ?_
      refine (ev_var (v := .ref p) rfl) H7 (Ex.refl _) _ fun H8 e8 => nil_raw ?_
      exact ⟨ps.length, d, p, [], _, rfl, e8 _ _ h7, ((e6.trans e7).trans e8) _ _ h5, by rw [hfl, List.length_nil]; omega, q.ex ((((e13.trans e5).trans e6).trans e7).trans e8)⟩
/-! ### lengths -/
def lensA (o : List Nat) : Squeeze.Answer := if 265 < o.length then Squeeze.says (-2) else if o.all (fun (n : Nat) => decide (n ≤ 32768)) = true ∧ o.sum ≤ 65536 then ⟨0, (SwSqueeze.lengths o).map UInt8.ofNat, [], none⟩ else Squeeze.says (-1)
def spLens : Sp := fun vs H Q _ => ∃ (r : Addr) (o : List Nat), vs = [.ref r] ∧ H r = some (.lst (nvs o)) ∧ RetI (ans (lensA o)) H Q
theorem most_of : ∀ l : List Nat, ∃ m, (l = [] → m = 0) ∧ (l ≠ [] → m ∈ l) ∧ ∀ y ∈ l, y ≤ m
  | [] => ⟨0, fun _ => rfl, fun h => absurd rfl h, fun y h => by cases h⟩
  | a :: l => by
    obtain ⟨m, h1, h2, h3⟩ := most_of l
    by_cases h : m ≤ a
    · exact ⟨a, (fun e => by cases e), fun _ => List.mem_cons_self, fun y hy => by
        rcases List.mem_cons.mp hy with rfl | hy
        · exact Nat.le_refl _
        · exact Nat.le_trans (h3 y hy) h⟩
    · refine ⟨m, (fun e => by cases e), fun _ => List.mem_cons_of_mem _ (h2 fun e => ?_), fun y hy => ?_⟩
      · have := h1 e
        omega
      · rcases List.mem_cons.mp hy with rfl | hy
        · omega
        · exact h3 y hy
theorem ok_lengths (T : Gs K mg aM) (D_refused : Def P w K mg base CX0 1 "refused" ["number"] spRefused) (D_lengths_of : Def P w K mg base CX0 3 "lengths_of" ["often"] (spLengthsOf K)) (D_answered : Def P w K mg base CX0 1 "answered" ["number", "data", "numbers"] spAnswered) (F : Fun K "lengths" "lengths" s_lengths f fd) :
    FnOk P w K mg base CX0 10 f fd ["often"] spLens := by
  refine F.ok sc_lengths (fun vs H Q E h => ?_) (fun cdv A outer s H vs Q E hr h => ?_)
  · obtain ⟨r, o, rfl, _⟩ := h
    rfl
  obtain ⟨r, o, rfl, ho, q⟩ := h
  unfold lensA at q
  refine ⟨_, (pss_cons (ps_if (pt_cmpR op_gt (pe_callB call_len_seq (by rfl) T.b_len (by decide +kernel) (pa_cons (pv 0) pa_nil)) (pe_k T.SYMBOLS) (nomark _))
      (pss_one (ps_ret (pe_callD D_refused hr rfl pass0 (pa_cons (pe_k T.TOO_MANY) pa_nil))))
      pss_nil)
    (pss_cons (ps_if (PW.pt (pw_or (pt_cmpR op_gt (pe_callBK (cr_maxD rfl (u64 hr)) (by rfl) T.b_max (by decide +kernel) (pa_cons (pv 0) pa_nil) (pk_cons pe_int pk_nil)) (pe_k T.OFTEN_MOST) (nomark _)) (pw_or1 (pt_cmpR op_gt (pe_callB (cr_sum rfl) (by rfl) T.b_sum (by decide +kernel) (pa_cons (pv 0) pa_nil)) (pe_k T.TEXT_MOST) (nomark _)))))
      (pss_one (ps_ret (pe_callD D_refused hr rfl pass0 (pa_cons (pe_k T.OUT_OF_BOUNDS) pa_nil))))
      pss_nil)
    (pss_one (ps_ret (pe_callD D_answered hr rfl pass0 (pa_cons pe_int (pa_cons (pe_callD D_lengths_of hr rfl pass0 (pa_cons (pv 0) pa_nil)) (pa_cons (pe_lst pa_nil) pa_nil)))))))), ?_⟩
  refine q_when (b := decide (265 < o.length)) (et_is (et_test (ev_I0 (ev_lenN (ev_var rfl) (sq_of ho)) ev_c)) (by rw [decide_eq_decide]; omega)) (fun hc H1 e1 => ?_) (fun hc H1 e1 => ?_)
  · rw [if_pos (of_decide_eq_true hc)] at q
    refine r_raw (call_raw ?_)
    refine (ea_cons (x := .int (-2)) ev_c ea_nil) H1 (Ex.refl _) _ fun H2 e2 => ?_
    exact ⟨-2, rfl, q.ex (e1.trans e2)⟩
  have hc := of_decide_eq_false hc
  rw [if_neg hc] at q
  obtain ⟨m, hm0, hm1, hm2⟩ := most_of o
  have hmax : ∀ {σ : L2.St} {H' : Hp}, Ex H1 H' → σ[0]? = some (some (.ref r)) → Ev (tCKw (rMaxD K) (tCons (tVar 0) tNil) (tCons (tC (.int 0)) tNil)) σ H' (nv m) := fun {σ H'} e hσ H2 e2 Q2 q2 => by
    refine (ea_cons (ev_var (v := .ref r) hσ) ea_nil) H2 (Ex.refl _) _ fun H3 e3 => (ea_cons (x := .int 0) ev_c ea_nil) H3 (Ex.refl _) _ fun H4 e4 => ?_
    refine ⟨r, zn o, 0, rfl, rfl, by rw [← nvs_ints]; exact sq_of ((((e1.trans e).trans e2).trans (e3.trans e4)) _ _ ho), fun hz => ?_, fun z hz hle => ?_⟩
    · have : o = [] := List.map_eq_nil_iff.mp hz
      have h0 := hm0 this
      subst h0
      exact q2 H4 (e3.trans e4)
    · obtain ⟨z2, hz2, rfl⟩ := List.mem_map.mp hz
      have h1 := hm2 z2 hz2
      have hne : o ≠ [] := fun h => by rw [h] at hz2; cases hz2
      have h2 := hle (m : Int) (List.mem_map.mpr ⟨m, hm1 hne, rfl⟩)
      have : (z2 : Int) = (m : Int) := by omega
      show Q2 (.int (z2 : Int)) H4
      rw [this]
      exact q2 H4 (e3.trans e4)
  have hall : (o.all (fun (n : Nat) => decide (n ≤ 32768)) = true) ↔ ¬ 32768 < m := by
    rw [List.all_eq_true]
    constructor
    · intro h hlt
      have hne : o ≠ [] := fun h => by have := hm0 h; omega
      have := of_decide_eq_true (h m (hm1 hne))
      omega
    · intro h n hn
      have := hm2 n hn
      exact decide_eq_true (by omega)
  refine q_when (b := decide (32768 < m) || decide (65536 < o.sum)) (et_or (et_is (et_test (ev_I0 (hmax (Ex.refl _) rfl) ev_c)) (by rw [decide_eq_decide]; omega)) fun _ => et_is (et_test (ev_I0 (ev_sumS (ev_var rfl) (sq_of (e1 _ _ ho))) ev_c)) (by rw [decide_eq_decide]; omega)) (fun hd H2 e2 => ?_) (fun hd H2 e2 => ?_)
  · rw [Bool.or_eq_true, decide_eq_true_eq, decide_eq_true_eq] at hd
    rw [if_neg (fun h => by have := hall.mp h.1; omega)] at q
    refine r_raw (call_raw ?_)
    refine (ea_cons (x := .int (-1)) ev_c ea_nil) H2 (Ex.refl _) _ fun H3 e3 => ?_
    exact ⟨-1, rfl, q.ex ((e1.trans e2).trans e3)⟩
  · rw [Bool.or_eq_false_iff, decide_eq_false_iff_not, decide_eq_false_iff_not] at hd
    rw [if_pos ⟨hall.mpr hd.1, by omega⟩] at q
    have q : RetI (numbers (0 : Nat) ((SwSqueeze.lengths o).map UInt8.ofNat) []) H Q := by
      rw [← numbers_eq]
      exact q
    have hbs : bs ((SwSqueeze.lengths o).map UInt8.ofNat) = SwSqueeze.lengths o := by
      unfold bs
      rw [List.map_map]
      conv => rhs; rw [← List.map_id (SwSqueeze.lengths o)]
      apply List.map_congr_left
      intro n hn
      have := lengths_le o n hn
      exact toNat_ofNat_lt (by omega)
    have hll : (SwSqueeze.lengths o).length = o.length := lengths_length o
    refine r_raw (call_raw (cons_raw ?_))
    refine (ev_c (v := nv 0)) H2 (Ex.refl _) _ fun H3 e3 => ?_
    refine cons_raw (call_raw ?_)
    have e13 := (e1.trans e2).trans e3
    refine (ea_cons (ev_var (v := .ref r) rfl) ea_nil) H3 (Ex.refl _) _ fun H4 e4 => ?_
    refine ⟨r, o, rfl, sq_of ((e13.trans e4) _ _ ho), by omega, fun d H5 hd5 e5 h5 => ?_⟩
    refine cons_raw ?_
    refine (el_lst ea_nil (by decide)) H5 (Ex.refl _) _ fun u H6 hu e6 h6 => nil_raw ?_
    exact ⟨0, d, u, (SwSqueeze.lengths o).map UInt8.ofNat, [], rfl, by rw [hbs]; exact e6 _ _ h5, h6, by rw [List.length_map, List.length_nil]; omega, q.ex (((e13.trans e4).trans e5).trans e6)⟩
end
end Gz
end

/-! ## W25 -/
section
set_option Elab.async false
set_option linter.all false
set_option maxRecDepth 100000
set_option maxHeartbeats 4000000
namespace Gz
open PySem PySem.Spec PyProof.Rows L2 Evl
/-! ### the states -/
def StIs (C : Addr) (G : Addr → Prop) (H : Hp) (y : V) (o : Option Squeeze.Feed) : Prop := match o with
  | none => y = .non
  | some x => ∃ a dx l, y = .ref a ∧ H a = some (.ins C dx (fF l x.text.length x.marked)) ∧ H l = some (.lst (nvs (bs (waits x)))) ∧ G l ∧ x.text.length ≤ 65536
def StatesAt (C : Addr) (G : Addr → Prop) (H : Hp) (st : Addr) (s : Squeeze.State) : Prop := ∃ ys, H st = some (.lst ys) ∧ Paired (StIs C G H) ys s ∧ ∀ (i j : Nat) (a : Addr), ys[i]? = some (.ref a) → ys[j]? = some (.ref a) → i = j
/-- all stands but the list and instances -/
def ExI (C st : Addr) (H H' : Hp) : Prop := ∀ b o, b ≠ st → (∀ dx fs, o ≠ .ins C dx fs) → H b = some o → H' b = some o
theorem ExI.of {C st : Addr} {H H' : Hp} (e : Ex H H') : ExI C st H H' := fun b o _ _ h => e b o h
theorem ExI.trans {C st : Addr} {H H1 H2 : Hp} (h : ExI C st H H1) (k : ExI C st H1 H2) : ExI C st H H2 := fun b o h1 h2 h3 => k b o h1 h2 (h b o h1 h2 h3)
theorem StIs.ex {C : Addr} {G : Addr → Prop} {H H' : Hp} {y : V} {o : Option Squeeze.Feed} (e : Ex H H') (h : StIs C G H y o) : StIs C G H' y o := by
  cases o with
  | none => exact h
  | some x =>
    obtain ⟨a, dx, l, h1, h2, h3, h4⟩ := h
    exact ⟨a, dx, l, h1, e _ _ h2, e _ _ h3, h4⟩
theorem StatesAt.ex {C : Addr} {G : Addr → Prop} {H H' : Hp} {st : Addr} {s : Squeeze.State} (e : Ex H H') (h : StatesAt C G H st s) : StatesAt C G H' st s := by
  obtain ⟨ys, h1, h2, h3⟩ := h
  exact ⟨ys, e _ _ h1, Paired.mapP h2 fun _ _ r => r.ex e, h3⟩
theorem ev_isN {σ : L2.St} {H : Hp} {ta tb : TE} {x : V} (ha : Ev ta σ H x) (hb : Ev tb σ H .non) : Ev (tOp (fun x y H Q => y = .non ∧ Q (.bl (decide (x = .non))) H) ta tb) σ H (.bl (decide (x = .non))) :=
  ev_op (z := .bl (decide (x = .non))) ha hb fun H1 _ Q q => ⟨rfl, q H1 (Ex.refl H1)⟩
/-- the states behind a change at the place i: all other feeds stand -/
theorem StatesAt.put {C : Addr} {G : Addr → Prop} {H H' : Hp} {st : Addr} {s : Squeeze.State} {ys : List V} {i : Nat} {y : V} {o : Option Squeeze.Feed} (h2 : Paired (StIs C G H) ys s) (h3 : ∀ (i j : Nat) (a : Addr), ys[i]? = some (.ref a) → ys[j]? = some (.ref a) → i = j)
    (hst : H' st = some (.lst (ys.set i y))) (hi : i < ys.length) (hy : StIs C G H' y o) (hk : ∀ (j : Nat) (z : V) (q : Option Squeeze.Feed), j ≠ i → ys[j]? = some z → StIs C G H z q → StIs C G H' z q) (hn : ∀ a, y = .ref a → ∀ (j : Nat), j ≠ i → ys[j]? ≠ some (.ref a)) : StatesAt C G H' st (s.set i o) := by
  refine ⟨_, hst, ?_, fun j k a hj hk2 => ?_⟩
  · have key : ∀ (ys : List V) (s : Squeeze.State) (i : Nat), Paired (StIs C G H) ys s → (∀ (j : Nat) (z : V) (q : Option Squeeze.Feed), j ≠ i → ys[j]? = some z → StIs C G H z q → StIs C G H' z q) → Paired (StIs C G H') (ys.set i y) (s.set i o) := by
      intro ys s i hp
      induction hp generalizing i with
      | nil => exact fun _ => .nil
      | @cons a b l m r t ih =>
        intro hk
        cases i with
        | zero =>
          refine .cons hy ?_
          have : ∀ (l : List V) (m : Squeeze.State), Paired (StIs C G H) l m → (∀ (j : Nat) (z : V) (q : Option Squeeze.Feed), l[j]? = some z → StIs C G H z q → StIs C G H' z q) → Paired (StIs C G H') l m := by
            intro l m hp
            induction hp with
            | nil => exact fun _ => .nil
            | cons r t ih => exact fun hk => .cons (hk 0 _ _ rfl r) (ih fun j z q hj hz => hk (j + 1) z q hj hz)
          exact this _ _ t fun j z q hj hz => hk (j + 1) z q (by omega) hj hz
        | succ i => exact .cons (hk 0 _ _ (by omega) rfl r) (ih i fun j z q hne hj hz => hk (j + 1) z q (by omega) hj hz)
    exact key ys s i h2 hk
  · by_cases hji : j = i
    · by_cases hki : k = i
      · rw [hji, hki]
      · rw [hji, List.getElem?_set_self hi] at hj
        rw [List.getElem?_set_ne (fun e => hki e.symm)] at hk2
        exact absurd hk2 (hn a (Option.some.inj hj) k hki)
    · rw [List.getElem?_set_ne (fun e => hji e.symm)] at hj
      by_cases hki : k = i
      · rw [hki, List.getElem?_set_self hi] at hk2
        exact absurd hj (hn a (Option.some.inj hk2) j hji)
      · rw [List.getElem?_set_ne (fun e => hki e.symm)] at hk2
        exact h3 j k a hj hk2
section
variable {P : Program} {w : World} {K : PySem.W.Frag} {mg : Str → Option Value} {base : Heap} {f : Addr} {fd : FuncData} {aM C : Addr}
/-- what a call of the states hands back -/
def RetS (C st : Addr) (G : Addr → Prop) (r : Squeeze.State × Squeeze.Answer) (H : Hp) (Q : VK) : Prop := ∀ p H2, H p = none → ExI C st H H2 → StatesAt C G H2 st r.1 → H2 p = some (.lst ((ans r.2).map V.int)) → Q (.ref p) H2
structure GoodG (G : Addr → Prop) (st : Addr) (H : Hp) : Prop where
  ne : ∀ l, G l → l ≠ st
  new : ∀ l, H l = none → G l
theorem RetS.refuse {st : Addr} {G : Addr → Prop} {s : Squeeze.State} {n : Int} {H H' : Hp} {Q : VK} (q : RetS C st G (s, Squeeze.says n) H Q) (e : Ex H H') (hS : StatesAt C G H st s) : RetI [n, 0, 0, 0, 0] H' Q := fun p H2 hp e2 h2 => q p H2 (fresh_back e hp) (ExI.of (e.trans e2)) (hS.ex (e.trans e2)) h2
theorem RetS.done {st : Addr} {G : Addr → Prop} {s : Squeeze.State} {a : Squeeze.Answer} {H H5 : Hp} {Q : VK} (q : RetS C st G (s, a) H Q) (hS : StatesAt C G H5 st s) (kI : ExI C st H H5) (hB : ∀ p, H5 p = none → H p = none) : RetI (ans a) H5 Q :=
  fun p H9 hp e9 h9 => q p H9 (hB p hp) (kI.trans (ExI.of e9)) (hS.ex e9) h9
/-! ### begin -/
def spBeginC (C : Addr) : Sp := fun vs H Q _ => ∃ st o G s, vs = [.ref st, nv o] ∧ StatesAt C G H st s ∧ s.length = 4 ∧ GoodG G st H ∧ RetS C st G (Squeeze.step s (.begin_ o)) H Q
theorem ok_begin (T : Gs K mg aM) (D_refused : Def P w K mg base CX0 1 "refused" ["number"] spRefused) (M_Feed : DefC P w K mg base CX0 1 C "Feed" ["self"] (spFeedInit C)) (D_answered : Def P w K mg base CX0 1 "answered" ["number", "data", "numbers"] spAnswered) (F : Fun K "begin" "begin" s_begin f fd) :
    FnOk P w K mg base CX0 10 f fd ["states", "state"] (spBeginC C) := by
  refine F.ok sc_begin (fun vs H Q E h => ?_) (fun cdv A outer s H vs Q E hr h => ?_)
  · obtain ⟨st, o, G, s, rfl, _⟩ := h
    rfl
  obtain ⟨st, o, G, s, rfl, hS, hs4, hG, q⟩ := h
  refine ⟨_, (pss_cons (ps_if (pt_cmpR op_ge (pv 1) (pe_k T.STATES) (nomark _))
      (pss_one (ps_ret (pe_callD D_refused hr rfl pass0 (pa_cons (pe_k T.OUT_OF_BOUNDS) pa_nil))))
      pss_nil)
    (pss_cons (ps_asg (pe_makeD0 M_Feed hr rfl) (pg_sub (pv 0) (pv 1) set_list))
    (pss_one (ps_ret (pe_callD D_answered hr rfl pass0 (pa_cons pe_int (pa_cons (pe_lst pa_nil) (pa_cons (pe_lst pa_nil) pa_nil)))))))), ?_⟩
  refine q_when (b := decide (4 ≤ o)) (et_is (et_test (ev_I0 (ev_var rfl) ev_c)) (by rw [decide_eq_decide]; omega)) (fun hc H1 e1 => ?_) (fun hc H1 e1 => ?_)
  · have hq : Squeeze.step s (.begin_ o) = (s, Squeeze.says (-1)) := if_pos (show Squeeze.STATES ≤ o from of_decide_eq_true hc)
    rw [hq] at q
    refine r_raw (call_raw ?_)
    refine (ea_cons (x := .int (-1)) ev_c ea_nil) H1 (Ex.refl _) _ fun H2 e2 => ?_
    exact ⟨-1, rfl, q.refuse (e1.trans e2) hS⟩
  have hc := of_decide_eq_false hc
  have hq : Squeeze.step s (.begin_ o) = (s.set o (some ⟨[], false⟩), Squeeze.says 0) := if_neg (show ¬ Squeeze.STATES ≤ o from hc)
  rw [hq] at q
  obtain ⟨ys, hst, hys, hdis⟩ := hS.ex e1
  have hyl : ys.length = 4 := by rw [Paired.length hys, hs4]
  refine qg_raw (make_raw (nil_raw ?_))
  intro x dx hx hdx hdne
  refine ⟨x, dx, rfl, upd_same, fun H2 k2 hF => ⟨rfl, ?_⟩⟩
  have e12 : Ex H1 H2 := k2.ex (Ex.mut (Ex.new hdx) hx) hx
  refine (ev_var (v := .ref st) rfl) H2 (Ex.refl _) _ fun H3 e3 => ?_
  refine (ev_var (v := nv o) rfl) H3 (Ex.refl _) _ fun H4 e4 => ?_
  have e14 := e12.trans (e3.trans e4)
  refine ⟨st, ys, (o : Int), o, rfl, rfl, e14 _ _ hst, ixN_nat (by omega), ?_⟩
  -- behind it
  have hxst : x ≠ st := fun e => by rw [e, hst] at hx; cases hx
  obtain ⟨dx2, l, hFa, hFl, hFn⟩ := hF
  have hl1 : H1 l = none := by
    cases h : H1 l with
    | none => rfl
    | some o => have := (Ex.mut (Ex.new hdx) hx : Ex H1 (upd (upd H1 dx (.own x)) x (.ins C dx []))) _ _ h; rw [hFn] at this; cases this
  have hlH : H l = none := fresh_back e1 hl1
  have hGl := hG.new l hlH
  have hlst := hG.ne l hGl
  have hnew : StatesAt C G (upd H4 st (.lst (ys.set o (.ref x)))) st (s.set o (some ⟨[], false⟩)) := by
    refine StatesAt.put hys hdis upd_same (by omega) ?_ (fun j z q hj hz hq => ?_) (fun a ha j hj hz => ?_)
    · refine ⟨x, dx2, l, rfl, ?_, ?_, hGl, Nat.zero_le _⟩
      · rw [upd_ne hxst]
        exact (e3.trans e4) _ _ hFa
      · rw [upd_ne hlst]
        exact (e3.trans e4) _ _ hFl
    · cases q with
      | none => exact hq
      | some x2 =>
        obtain ⟨a, dx3, l3, h1, h2, h3, h4, h5⟩ := hq
        refine ⟨a, dx3, l3, h1, ?_, ?_, h4, h5⟩
        · rw [upd_ne (fun e => by rw [e, hst] at h2; cases h2)]
          exact e14 _ _ h2
        · rw [upd_ne (hG.ne l3 h4)]
          exact e14 _ _ h3
    · obtain ⟨q, hq1, hq2⟩ := paired_getL hys hz
      cases q with
      | none => cases hq2
      | some x2 =>
        obtain ⟨a2, dx3, l3, h1, h2, _⟩ := hq2
        cases ha
        cases h1
        rw [hx] at h2
        cases h2
  have kI : ExI C st H (upd H4 st (.lst (ys.set o (.ref x)))) := fun b u h1 _ h3 => by
    rw [upd_ne h1]
    exact e14 _ _ (e1 _ _ h3)
  have hB : ∀ p, (upd H4 st (HO.lst (ys.set o (V.ref x)))) p = none → H p = none := fun p hp => by
    cases h : H p with
    | none => rfl
    | some u =>
      by_cases hps : p = st
      · rw [hps, upd_same] at hp
        cases hp
      · rw [upd_ne hps, e14 _ _ (e1 _ _ h)] at hp
        cases hp
  have q := RetS.done q hnew kI hB
  generalize upd H4 st (HO.lst (ys.set o (V.ref x))) = H5 at q
  show tRet _ _ _ _
  refine r_raw (call_raw (cons_raw ?_))
  refine (ev_c (v := nv 0)) H5 (Ex.refl _) _ fun H6 e6 => ?_
  refine cons_raw ?_
  refine (el_lst ea_nil (by decide)) H6 (Ex.refl _) _ fun d H7 hd e7 h7 => ?_
  refine cons_raw ?_
  refine (el_lst ea_nil (by decide)) H7 (Ex.refl _) _ fun u H8 hu e8 h8 => nil_raw ?_
  exact ⟨0, d, u, [], [], rfl, e8 _ _ h7, h8, by decide, q.ex ((e6.trans e7).trans e8)⟩
/-! ### feed -/
def spFeedC (C : Addr) : Sp := fun vs H Q _ => ∃ st o d G s t, vs = [.ref st, nv o, .ref d] ∧ StatesAt C G H st s ∧ s.length = 4 ∧ GoodG G st H ∧ H d = some (.lst (nvs (bs t))) ∧ d ≠ st ∧ t.length ≤ 16000 ∧ RetS C st G (Squeeze.step s (.feed o t)) H Q
theorem getD_st {s : Squeeze.State} {o : Nat} {q : Option Squeeze.Feed} (h : s[o]? = some q) : (s[o]?).getD none = q := by rw [h]; rfl
theorem ok_feed (T : Gs K mg aM) (TF : FeedT K C) (D_refused : Def P w K mg base CX0 1 "refused" ["number"] spRefused) (M_feed : DefM P w K mg base CX0 7 C "feed" ["self", "data"] (spFeed C)) (D_answered : Def P w K mg base CX0 1 "answered" ["number", "data", "numbers"] spAnswered) (F : Fun K "feed" "feed" s_feed f fd) :
    FnOk P w K mg base CX0 10 f fd ["states", "state", "data"] (spFeedC C) := by
  refine F.ok sc_feed (fun vs H Q E h => ?_) (fun cdv A outer s H vs Q E hr h => ?_)
  · obtain ⟨st, o, d, G, s, t, rfl, _⟩ := h
    rfl
  obtain ⟨st, o, d, G, s, t, rfl, hS, hs4, hG, hd, hdst, ht, q⟩ := h
  refine ⟨_, (pss_cons (ps_if (pt_cmpR op_ge (pv 1) (pe_k T.STATES) (nomark _))
      (pss_one (ps_ret (pe_callD D_refused hr rfl pass0 (pa_cons (pe_k T.OUT_OF_BOUNDS) pa_nil))))
      pss_nil)
    (pss_cons (ps_if (pt_cmpR op_isN (pe_ix ix_list (pv 0) (pv 1) (fun _ _ => rfl)) pe_non (nomark _))
      (pss_one (ps_ret (pe_callD D_refused hr rfl pass0 (pa_cons (pe_k T.NOT_BEGUN) pa_nil))))
      pss_nil)
    (pss_cons (ps_if (pt_cmpR op_gt (pe_op op_add (pe_fld (pe_ix ix_list (pv 0) (pv 1) (fun _ _ => rfl)) rfl) (pe_callB call_len_seq (by rfl) T.b_len (by decide +kernel) (pa_cons (pv 2) pa_nil))) (pe_k T.TEXT_MOST) (nomark _))
      (pss_one (ps_ret (pe_callD D_refused hr rfl pass0 (pa_cons (pe_k T.TOO_MANY) pa_nil))))
      pss_nil)
    (pss_cons (ps_set (i := 3) sc_feed.nd rfl (Or.inl rfl) (pe_methD M_feed (pe_ix ix_list (pv 0) (pv 1) (fun _ _ => rfl)) hr pass0 (pa_cons (pv 2) pa_nil)))
    (pss_one (ps_ret (pe_callD D_answered hr rfl pass0 (pa_cons (pe_callB call_len_seq (by rfl) T.b_len (by decide +kernel) (pa_cons (pv 3) pa_nil)) (pa_cons (pv 3) (pa_cons (pe_lst pa_nil) pa_nil)))))))))), ?_⟩
  refine q_when (b := decide (4 ≤ o)) (et_is (et_test (ev_I0 (ev_var rfl) ev_c)) (by rw [decide_eq_decide]; omega)) (fun hc H1 e1 => ?_) (fun hc H1 e1 => ?_)
  · have hq : Squeeze.step s (.feed o t) = (s, Squeeze.says (-1)) := if_pos (show Squeeze.STATES ≤ o from of_decide_eq_true hc)
    rw [hq] at q
    refine r_raw (call_raw ?_)
    refine (ea_cons (x := .int (-1)) ev_c ea_nil) H1 (Ex.refl _) _ fun H2 e2 => ?_
    exact ⟨-1, rfl, q.refuse (e1.trans e2) hS⟩
  have hc := of_decide_eq_false hc
  have ho4 : o < s.length := by omega
  obtain ⟨ys, hst, hys, hdis⟩ := id hS
  have hso : s[o]? = some s[o] := List.getElem?_eq_getElem ho4
  generalize s[o] = so at hso
  obtain ⟨y, hy, hyo⟩ := paired_get hys hso
  have evy : ∀ {σ : L2.St} {H' : Hp}, Ex H H' → σ[0]? = some (some (.ref st)) → σ[1]? = some (some (nv o)) → Ev (tOp (rIxL K) (tVar 0) (tVar 1)) σ H' y := fun e h0 h1 => ev_ix (ev_var h0) (ev_var h1) (sq_of (e _ _ hst)) hy rfl
  cases so with
  | none =>
    have hyn : y = .non := hyo
    have hq : Squeeze.step s (.feed o t) = (s, Squeeze.says (-3)) := by
      show (if Squeeze.STATES ≤ o then _ else match (s[o]?).getD none with | none => (s, Squeeze.says (-3)) | some x => _) = _
      refine (if_neg (show ¬ Squeeze.STATES ≤ o from hc)).trans ?_
      rw [getD_st hso]
    rw [hq] at q
    refine q_when (b := true) (et_is (et_test (ev_isN (evy e1 rfl rfl) ev_c)) (by rw [hyn]; rfl)) (fun _ H2 e2 => ?_) (fun h => by cases h)
    refine r_raw (call_raw ?_)
    refine (ea_cons (x := .int (-3)) ev_c ea_nil) H2 (Ex.refl _) _ fun H3 e3 => ?_
    exact ⟨-3, rfl, q.refuse ((e1.trans e2).trans e3) hS⟩
  | some x =>
    obtain ⟨a, dx, l, rfl, ha, hl, hGl, hx6⟩ := hyo
    have hstep : Squeeze.step s (.feed o t) = if Squeeze.TEXT < x.text.length + t.length then (s, Squeeze.says (-2)) else (s.set o (some ⟨x.text ++ t, true⟩), Squeeze.gives (Squeeze.fed x t)) := by
      show (if Squeeze.STATES ≤ o then _ else match (s[o]?).getD none with | none => (s, Squeeze.says (-3)) | some x => _) = _
      refine (if_neg (show ¬ Squeeze.STATES ≤ o from hc)).trans ?_
      rw [getD_st hso]
    rw [hstep] at q
    refine q_when (b := false) (et_is (et_test (ev_isN (evy e1 rfl rfl) ev_c)) rfl) (fun h => by cases h) (fun _ H2 e2 => ?_)
    have e12 := e1.trans e2
    refine q_when (b := decide (65536 < x.text.length + t.length)) (et_is (et_test (ev_I0 (ev_I0 (ev_fld (evy e12 rfl rfl) (e12 _ _ ha) TF.cl TF.nT (fF_t _ _ _)) (ev_lenT (ev_var rfl) (sq_of (e12 _ _ hd)))) ev_c)) (by rw [decide_eq_decide]; omega)) (fun hb H3 e3 => ?_) (fun hb H3 e3 => ?_)
    · rw [if_pos (show Squeeze.TEXT < x.text.length + t.length from of_decide_eq_true hb)] at q
      refine r_raw (call_raw ?_)
      refine (ea_cons (x := .int (-2)) ev_c ea_nil) H3 (Ex.refl _) _ fun H4 e4 => ?_
      exact ⟨-2, rfl, q.refuse ((e12.trans e3).trans e4) hS⟩
    have hb := of_decide_eq_false hb
    rw [if_neg (show ¬ Squeeze.TEXT < x.text.length + t.length from hb)] at q
    have e13 := e12.trans e3
    -- given = states[state].feed(data)
    refine q_raw (meth_raw ?_)
    refine (evy e13 rfl rfl) H3 (Ex.refl _) _ fun H4 e4 => ?_
    have e14 := e13.trans e4
    refine ⟨a, dx, _, rfl, e14 _ _ ha, fF_no _ _ _ (by decide +kernel) (by decide +kernel) (by decide +kernel), ?_⟩
    refine (ea_cons (ev_var (v := .ref d) rfl) ea_nil) H4 (Ex.refl _) _ fun H5 e5 => ?_
    have e15 := e14.trans e5
    refine ⟨a, x, d, t, rfl, ⟨dx, l, e15 _ _ ha, e15 _ _ hl⟩, e15 _ _ hd, by omega, fun p H6 hp k6 ⟨dx2, l2, hF1, hF2, hF3⟩ h6 => ?_⟩
    have hast : a ≠ st := fun e => by rw [e, hst] at ha; cases ha
    have hl2H : H l2 = none := fresh_back e15 hF3
    have hGl2 := hG.new l2 hl2H
    have hnew : StatesAt C G H6 st (s.set o (some ⟨x.text ++ t, true⟩)) := by
      have hys5 : Paired (StIs C G H) ys s := hys
      refine StatesAt.put (y := .ref a) hys5 hdis ?_ (by rw [Paired.length hys]; exact ho4) ?_ (fun j z qq hj hz hq => ?_) (fun b hb2 j hj hz => ?_)
      · have : ys.set o (.ref a) = ys := by
          apply List.ext_getElem?
          intro k
          by_cases hk : k = o
          · rw [hk, List.getElem?_set_self (List.getElem?_eq_some_iff.mp hy).1, hy]
          · rw [List.getElem?_set_ne (fun e => hk e.symm)]
        rw [this]
        exact k6 _ _ hast.symm (e15 _ _ hst)
      · refine ⟨a, dx2, l2, rfl, hF1, hF2, hGl2, ?_⟩
        rw [List.length_append]
        show x.text.length + t.length ≤ 65536
        have : ¬ 65536 < x.text.length + t.length := hb
        omega
      · cases qq with
        | none => exact hq
        | some x2 =>
          obtain ⟨a2, dx3, l3, h1, h2, h3, h4, h5⟩ := hq
          refine ⟨a2, dx3, l3, h1, k6 _ _ (fun e => ?_) (e15 _ _ h2), k6 _ _ (fun e => ?_) (e15 _ _ h3), h4, h5⟩
          · rw [h1, e] at hz
            exact hj (hdis j o a hz hy)
          · rw [e, ha] at h3
            cases h3
      · cases hb2
        exact hj (hdis j o a hz hy)
    have kI : ExI C st H H6 := fun b u h1 h2 h3 => k6 b u (fun e => h2 _ _ (by rw [e, ha] at h3; exact (Option.some.inj h3).symm)) (e15 _ _ h3)
    have hB : ∀ p, H6 p = none → H p = none := fun p hp => by
      cases h : H p with
      | none => rfl
      | some u =>
        by_cases hpa : p = a
        · rw [hpa, hF1] at hp
          cases hp
        · rw [k6 _ _ hpa (e15 _ _ h)] at hp
          cases hp
    have q := RetS.done q hnew kI hB
    rw [ans_gives] at q
    have hfl : (Squeeze.fed x t).length ≤ 70000 := by
      have h1 := givenTo_len x t (Squeeze.known (x.text ++ t).length - Squeeze.known x.text.length)
      rw [given_end] at h1
      have h2 : Squeeze.known (x.text ++ t).length - Squeeze.known x.text.length ≤ 64 := by
        unfold Squeeze.known
        rw [List.length_append]
        show (x.text.length + t.length - 1) / 1024 - (x.text.length - 1) / 1024 ≤ 64
        have : ¬ 65536 < x.text.length + t.length := hb
        omega
      omega
    refine r_raw (call_raw (cons_raw ?_))
    refine (ev_lenT (ev_var (v := .ref p) rfl) (sq_of h6)) H6 (Ex.refl _) _ fun H7 e7 => ?_
    refine cons_raw ?_
    refine (ev_var (v := .ref p) rfl) H7 (Ex.refl _) _ fun H8 e8 => ?_
    refine cons_raw ?_
    refine (el_lst ea_nil (by decide)) H8 (Ex.refl _) _ fun u H9 hu e9 h9 => nil_raw ?_
    exact ⟨_, p, u, _, [], rfl, ((e7.trans e8).trans e9) _ _ h6, h9, by rw [List.length_nil]; omega, q.ex ((e7.trans e8).trans e9)⟩
/-! ### end -/
def spEndC (C : Addr) : Sp := fun vs H Q _ => ∃ st o G s, vs = [.ref st, nv o] ∧ StatesAt C G H st s ∧ s.length = 4 ∧ GoodG G st H ∧ RetS C st G (Squeeze.step s (.end_ o)) H Q
theorem ok_end (T : Gs K mg aM) (TF : FeedT K C) (D_refused : Def P w K mg base CX0 1 "refused" ["number"] spRefused) (M_finish : DefM P w K mg base CX0 7 C "finish" ["self"] (spFinish C)) (D_answered : Def P w K mg base CX0 1 "answered" ["number", "data", "numbers"] spAnswered) (F : Fun K "end" "end" s_end f fd) :
    FnOk P w K mg base CX0 10 f fd ["states", "state"] (spEndC C) := by
  refine F.ok sc_end (fun vs H Q E h => ?_) (fun cdv A outer s H vs Q E hr h => ?_)
  · obtain ⟨st, o, G, s, rfl, _⟩ := h
    rfl
  obtain ⟨st, o, G, s, rfl, hS, hs4, hG, q⟩ := h
  refine ⟨_, (pss_cons (ps_if (pt_cmpR op_ge (pv 1) (pe_k T.STATES) (nomark _))
      (pss_one (ps_ret (pe_callD D_refused hr rfl pass0 (pa_cons (pe_k T.OUT_OF_BOUNDS) pa_nil))))
      pss_nil)
    (pss_cons (ps_if (pt_cmpR op_isN (pe_ix ix_list (pv 0) (pv 1) (fun _ _ => rfl)) pe_non (nomark _))
      (pss_one (ps_ret (pe_callD D_refused hr rfl pass0 (pa_cons (pe_k T.NOT_BEGUN) pa_nil))))
      pss_nil)
    (pss_cons (ps_set (i := 2) sc_end.nd rfl (Or.inl rfl) (pe_methD0 M_finish (pe_ix ix_list (pv 0) (pv 1) (fun _ _ => rfl)) hr pass0))
    (pss_cons (ps_asg pe_non (pg_sub (pv 0) (pv 1) set_list))
    (pss_one (ps_ret (pe_callD D_answered hr rfl pass0 (pa_cons (pe_callB call_len_seq (by rfl) T.b_len (by decide +kernel) (pa_cons (pv 2) pa_nil)) (pa_cons (pv 2) (pa_cons (pe_lst pa_nil) pa_nil)))))))))), ?_⟩
  refine q_when (b := decide (4 ≤ o)) (et_is (et_test (ev_I0 (ev_var rfl) ev_c)) (by rw [decide_eq_decide]; omega)) (fun hc H1 e1 => ?_) (fun hc H1 e1 => ?_)
  · have hq : Squeeze.step s (.end_ o) = (s, Squeeze.says (-1)) := if_pos (show Squeeze.STATES ≤ o from of_decide_eq_true hc)
    rw [hq] at q
    refine r_raw (call_raw ?_)
    refine (ea_cons (x := .int (-1)) ev_c ea_nil) H1 (Ex.refl _) _ fun H2 e2 => ?_
    exact ⟨-1, rfl, q.refuse (e1.trans e2) hS⟩
  have hc := of_decide_eq_false hc
  have ho4 : o < s.length := by omega
  obtain ⟨ys, hst, hys, hdis⟩ := id hS
  have hso : s[o]? = some s[o] := List.getElem?_eq_getElem ho4
  generalize s[o] = so at hso
  obtain ⟨y, hy, hyo⟩ := paired_get hys hso
  have evy : ∀ {σ : L2.St} {H' : Hp}, Ex H H' → σ[0]? = some (some (.ref st)) → σ[1]? = some (some (nv o)) → Ev (tOp (rIxL K) (tVar 0) (tVar 1)) σ H' y := fun e h0 h1 => ev_ix (ev_var h0) (ev_var h1) (sq_of (e _ _ hst)) hy rfl
  cases so with
  | none =>
    have hyn : y = .non := hyo
    have hq : Squeeze.step s (.end_ o) = (s, Squeeze.says (-3)) := by
      show (if Squeeze.STATES ≤ o then _ else match (s[o]?).getD none with | none => (s, Squeeze.says (-3)) | some x => _) = _
      refine (if_neg (show ¬ Squeeze.STATES ≤ o from hc)).trans ?_
      rw [getD_st hso]
    rw [hq] at q
    refine q_when (b := true) (et_is (et_test (ev_isN (evy e1 rfl rfl) ev_c)) (by rw [hyn]; rfl)) (fun _ H2 e2 => ?_) (fun h => by cases h)
    refine r_raw (call_raw ?_)
    refine (ea_cons (x := .int (-3)) ev_c ea_nil) H2 (Ex.refl _) _ fun H3 e3 => ?_
    exact ⟨-3, rfl, q.refuse ((e1.trans e2).trans e3) hS⟩
  | some x =>
    obtain ⟨a, dx, l, rfl, ha, hl, hGl, hx6⟩ := hyo
    have hstep : Squeeze.step s (.end_ o) = (s.set o none, Squeeze.gives (Squeeze.ended x)) := by
      show (if Squeeze.STATES ≤ o then _ else match (s[o]?).getD none with | none => (s, Squeeze.says (-3)) | some x => _) = _
      refine (if_neg (show ¬ Squeeze.STATES ≤ o from hc)).trans ?_
      rw [getD_st hso]
    rw [hstep] at q
    refine q_when (b := false) (et_is (et_test (ev_isN (evy e1 rfl rfl) ev_c)) rfl) (fun h => by cases h) (fun _ H2 e2 => ?_)
    have e12 := e1.trans e2
    refine q_raw (meth_raw ?_)
    refine (evy e12 rfl rfl) H2 (Ex.refl _) _ fun H4 e4 => ?_
    have e14 := e12.trans e4
    refine ⟨a, dx, _, rfl, e14 _ _ ha, fF_no _ _ _ (by decide +kernel) (by decide +kernel) (by decide +kernel), nil_raw ?_⟩
    refine ⟨a, x, rfl, ⟨dx, l, e14 _ _ ha, e14 _ _ hl⟩, hx6, fun p H6 hp k6 h6a h6 => ?_⟩
    have hast : a ≠ st := fun e => by rw [e, hst] at ha; cases ha
    have hst6 := k6 _ _ hast.symm (e14 _ _ hst)
    have hyl : o < ys.length := (List.getElem?_eq_some_iff.mp hy).1
    refine q_setL (j := o) hst6 (v := .non) ev_c (ev_var rfl) (ev_var rfl) hyl fun H7 e7 => ?_
    have hpst : p ≠ st := fun e => by rw [e, e14 _ _ hst] at hp; cases hp
    have hnew : StatesAt C G (upd H7 st (.lst (ys.set o .non))) st (s.set o none) := by
      refine StatesAt.put hys hdis upd_same hyl rfl (fun j z qq hj hz hq => ?_) (fun b hb2 => by cases hb2)
      cases qq with
      | none => exact hq
      | some x2 =>
        obtain ⟨a2, dx3, l3, h1, h2, h3, h4, h5⟩ := hq
        refine ⟨a2, dx3, l3, h1, ?_, ?_, h4, h5⟩
        · rw [upd_ne (fun e => by rw [e, hst] at h2; cases h2)]
          refine e7 _ _ (k6 _ _ (fun e => ?_) (e14 _ _ h2))
          rw [h1, e] at hz
          exact hj (hdis j o a hz hy)
        · rw [upd_ne (hG.ne l3 h4)]
          refine e7 _ _ (k6 _ _ (fun e => ?_) (e14 _ _ h3))
          rw [e, ha] at h3
          cases h3
    have kI : ExI C st H (upd H7 st (.lst (ys.set o .non))) := fun b u h1 h2 h3 => by
      rw [upd_ne h1]
      exact e7 _ _ (k6 b u (fun e => h2 _ _ (by rw [e, ha] at h3; exact (Option.some.inj h3).symm)) (e14 _ _ h3))
    have hB : ∀ p, (upd H7 st (.lst (ys.set o .non))) p = none → H p = none := fun p hp => by
      cases h : H p with
      | none => rfl
      | some u =>
        by_cases hps : p = st
        · rw [hps, upd_same] at hp
          cases hp
        · rw [upd_ne hps] at hp
          have h6p : H6 p = none := fresh_back e7 hp
          by_cases hpa : p = a
          · exact absurd (hpa ▸ h6p) h6a
          · rw [k6 _ _ hpa (e14 _ _ h)] at h6p
            cases h6p
    have h7p : (upd H7 st (.lst (ys.set o .non))) p = some (.lst (nvs (bs (Squeeze.ended x)))) := by
      rw [upd_ne hpst]
      exact e7 _ _ h6
    have q := RetS.done q hnew kI hB
    rw [ans_gives] at q
    have hfl : (Squeeze.ended x).length ≤ 3000 := by
      rw [ended_eq, List.length_append, List.length_append, List.length_append, le_length, le_length]
      have h1 : (Squeeze.mark x).length ≤ 4 := by
        have := givenTo_len x [] 0
        rw [given_zero] at this
        omega
      have h2 : (if waits x = [] then [] else SwSqueeze.blockOf (waits x)).length ≤ 1029 := by
        split
        · exact Nat.zero_le _
        · have h3 := blockOf_len (waits x)
          have h4 := waits_len x
          omega
      omega
    generalize upd H7 st (HO.lst (ys.set o .non)) = H8 at q h7p
    refine r_raw (call_raw (cons_raw ?_))
    refine (ev_lenT (ev_var (v := .ref p) rfl) (sq_of h7p)) H8 (Ex.refl _) _ fun H9 e9 => ?_
    refine cons_raw ?_
    refine (ev_var (v := .ref p) rfl) H9 (Ex.refl _) _ fun H10 e10 => ?_
    refine cons_raw ?_
    refine (el_lst ea_nil (by decide)) H10 (Ex.refl _) _ fun u H11 hu e11 h11 => nil_raw ?_
    exact ⟨_, p, u, _, [], rfl, ((e9.trans e10).trans e11) _ _ h7p, h11, by rw [List.length_nil]; omega, q.ex ((e9.trans e10).trans e11)⟩
end
end Gz
end

/-! ## W26 -/
section
set_option Elab.async false
set_option linter.all false
set_option maxRecDepth 100000
set_option maxHeartbeats 4000000
namespace Gz
open PySem PySem.Spec PyProof.Rows L2 Evl
section
variable {P : Program} {w : World} {K : PySem.W.Frag} {mg : Str → Option Value} {base : Heap} {f : Addr} {fd : FuncData} {aM CF CB C : Addr}
theorem inV_nats (p : Nat) : ∀ l : List Nat, inV (nv p) (nvs l) = l.any fun y => decide (p = y)
  | [] => rfl
  | a :: l => by
    have ih := inV_nats p l
    show (eqV (nv a) (nv p) || inV (nv p) (nvs l)) = _
    rw [ih, List.any_cons]
    congr 1
    show decide ((a : Int) = (p : Int)) = decide (p = a)
    rw [decide_eq_decide]
    omega
theorem flat_nats : ∀ l : List Nat, (nvs l).all flatV = true
  | [] => rfl
  | a :: l => flat_nats l
/-! ### count_of -/
def cntOf (p : Nat) : Nat := if p = 2 then 2 else if p = 7 ∨ p = 8 ∨ p = 9 then 1 else 0
def spCount : Sp := fun vs H Q _ => ∃ p : Nat, vs = [nv p] ∧ RetV (nv (cntOf p)) H Q
theorem ok_count_of (T : Gs K mg aM) (F : Fun K "count_of" "count_of" s_count_of f fd) : FnOk P w K mg base CX0 1 f fd ["call"] spCount := by
  refine F.ok sc_count_of (fun vs H Q E h => ?_) (fun cdv A outer s H vs Q E hr h => ?_)
  · obtain ⟨p, rfl, _⟩ := h
    rfl
  obtain ⟨p, rfl, q⟩ := h
  refine ⟨_, (pss_cons (ps_if (pt_cmpR op_eq (pv 0) (pe_k T.AT) (nomark _))
      (pss_one (ps_ret pe_int))
      pss_nil)
    (pss_cons (ps_if (pt_cmpR op_in_seq (pv 0) (pe_tup (pa_cons (pe_k T.BEGIN) (pa_cons (pe_k T.FEED) (pa_cons (pe_k T.END) pa_nil)))) rfl)
      (pss_one (ps_ret pe_int))
      pss_nil)
    (pss_one (ps_ret pe_int)))), ?_⟩
  refine q_when (b := decide (p = 2)) (et_is (et_test (ev_eqI (ev_var rfl) ev_c)) (by rw [decide_eq_decide]; omega)) (fun hc H1 e1 => ?_) (fun hc H1 e1 => ?_)
  · refine s_ret (v := nv 2) ev_c fun H2 e2 => ?_
    have : cntOf p = 2 := if_pos (of_decide_eq_true hc)
    rw [this] at q
    exact q H2 (e1.trans e2)
  have hc := of_decide_eq_false hc
  refine q_when (b := decide (p = 7 ∨ p = 8 ∨ p = 9)) (et_is (et_test (ev_inU (x := nv p) (ev_var rfl) (eu_tup (vs := nvs [7, 8, 9]) (ea_cons ev_c (ea_cons ev_c (ea_cons ev_c ea_nil))) (by decide)) rfl (flat_nats _))) ?_) (fun hd H2 e2 => ?_) (fun hd H2 e2 => ?_)
  · rw [inV_nats]
    simp
  · refine s_ret (v := nv 1) ev_c fun H3 e3 => ?_
    have : cntOf p = 1 := (if_neg hc).trans (if_pos (of_decide_eq_true hd))
    rw [this] at q
    exact q H3 ((e1.trans e2).trans e3)
  · refine s_ret (v := nv 0) ev_c fun H3 e3 => ?_
    have : cntOf p = 0 := (if_neg hc).trans (if_neg (of_decide_eq_false hd))
    rw [this] at q
    exact q H3 ((e1.trans e2).trans e3)
/-! ### of_state -/
/-- which call of a state -/
inductive StateC (C : Addr) (st : Addr) (G : Addr → Prop) (s : Squeeze.State) (o : Nat) (r : Addr) (H : Hp) (Q : VK) : Nat → Prop where
  | beg (q : RetS C st G (Squeeze.step s (.begin_ o)) H Q) : StateC C st G s o r H Q 7
  | feed (t : List UInt8) (h : H r = some (.lst (nvs (bs t)))) (hr : r ≠ st) (ht : t.length ≤ 16000) (q : RetS C st G (Squeeze.step s (.feed o t)) H Q) : StateC C st G s o r H Q 8
  | end_ (q : RetS C st G (Squeeze.step s (.end_ o)) H Q) : StateC C st G s o r H Q 9
def spOfState (C : Addr) : Sp := fun vs H Q _ => ∃ p st o r G s, vs = [nv p, .ref st, nv o, .ref r] ∧ StatesAt C G H st s ∧ s.length = 4 ∧ GoodG G st H ∧ StateC C st G s o r H Q p
theorem GoodG.ex {G : Addr → Prop} {st : Addr} {H H' : Hp} (e : Ex H H') (h : GoodG G st H) : GoodG G st H' := ⟨h.ne, fun l hl => h.new l (fresh_back e hl)⟩
theorem RetS.ex {st : Addr} {G : Addr → Prop} {r : Squeeze.State × Squeeze.Answer} {H H' : Hp} {Q : VK} (e : Ex H H') (q : RetS C st G r H Q) : RetS C st G r H' Q := fun p H2 hp k hS h2 => q p H2 (fresh_back e hp) ((ExI.of e).trans k) hS h2
theorem ok_of_state (T : Gs K mg aM) (D_begin : Def P w K mg base CX0 10 "begin" ["states", "state"] (spBeginC C)) (D_feed : Def P w K mg base CX0 10 "feed" ["states", "state", "data"] (spFeedC C)) (D_end : Def P w K mg base CX0 10 "end" ["states", "state"] (spEndC C)) (F : Fun K "of_state" "of_state" s_of_state f fd) :
    FnOk P w K mg base CX0 11 f fd ["call", "states", "state", "row"] (spOfState C) := by
  refine F.ok sc_of_state (fun vs H Q E h => ?_) (fun cdv A outer s H vs Q E hr h => ?_)
  · obtain ⟨p, st, o, r, G, s, rfl, _⟩ := h
    rfl
  obtain ⟨p, st, o, r, G, s, rfl, hS, hs4, hG, hC⟩ := h
  refine ⟨_, (pss_cons (ps_if (pt_cmpR op_eq (pv 0) (pe_k T.BEGIN) (nomark _))
      (pss_one (ps_ret (pe_callD D_begin hr rfl pass0 (pa_cons (pv 1) (pa_cons (pv 2) pa_nil)))))
      pss_nil)
    (pss_cons (ps_if (pt_cmpR op_eq (pv 0) (pe_k T.FEED) (nomark _))
      (pss_one (ps_ret (pe_callD D_feed hr rfl pass0 (pa_cons (pv 1) (pa_cons (pv 2) (pa_cons (pv 3) pa_nil))))))
      pss_nil)
    (pss_one (ps_ret (pe_callD D_end hr rfl pass0 (pa_cons (pv 1) (pa_cons (pv 2) pa_nil))))))), ?_⟩
  refine q_when (b := decide (p = 7)) (et_is (et_test (ev_eqI (ev_var rfl) ev_c)) (by rw [decide_eq_decide]; omega)) (fun hc H1 e1 => ?_) (fun hc H1 e1 => ?_)
  · have hc := of_decide_eq_true hc
    subst hc
    cases hC with
    | beg q =>
      refine r_raw (call_raw ?_)
      refine (ea_cons (ev_var rfl) (ea_cons (ev_var rfl) ea_nil)) H1 (Ex.refl _) _ fun H2 e2 => ?_
      exact ⟨st, o, G, s, rfl, hS.ex (e1.trans e2), hs4, hG.ex (e1.trans e2), q.ex (e1.trans e2)⟩
  have hc := of_decide_eq_false hc
  refine q_when (b := decide (p = 8)) (et_is (et_test (ev_eqI (ev_var rfl) ev_c)) (by rw [decide_eq_decide]; omega)) (fun hd H2 e2 => ?_) (fun hd H2 e2 => ?_)
  · have hd := of_decide_eq_true hd
    subst hd
    cases hC with
    | feed t h hr ht q =>
      refine r_raw (call_raw ?_)
      refine (ea_cons (ev_var rfl) (ea_cons (ev_var rfl) (ea_cons (ev_var rfl) ea_nil))) H2 (Ex.refl _) _ fun H3 e3 => ?_
      have e := (e1.trans e2).trans e3
      exact ⟨st, o, r, G, s, t, rfl, hS.ex e, hs4, hG.ex e, e _ _ h, hr, ht, q.ex e⟩
  have hd := of_decide_eq_false hd
  cases hC with
  | beg q => exact absurd rfl hc
  | feed t h hr ht q => exact absurd rfl hd
  | end_ q =>
    refine r_raw (call_raw ?_)
    refine (ea_cons (ev_var rfl) (ea_cons (ev_var rfl) ea_nil)) H2 (Ex.refl _) _ fun H3 e3 => ?_
    have e := (e1.trans e2).trans e3
    exact ⟨st, o, G, s, rfl, hS.ex e, hs4, hG.ex e, q.ex e⟩
/-! ### of_row -/
inductive RowC (own r : Addr) (H : Hp) (Q : VK) : Nat → Prop where
  | pack (b : List UInt8) (h : H r = some (.lst (nvs (bs b)))) (hb : b.length ≤ 16000) (q : RetI (ans (Squeeze.step Squeeze.start (.pack b)).2) H Q) : RowC own r H Q 0
  | unpack (b : List UInt8) (h : H r = some (.lst (nvs (bs b)))) (hb : b.length ≤ 16000) (q : RetI (ans (Squeeze.step Squeeze.start (.unpack b)).2) H Q) : RowC own r H Q 1
  | at_ (b : List UInt8) (fr n : Nat) (h : H r = some (.lst (nvs (bs b)))) (hb : b.length ≤ 16000) (ho : H own = some (.lst (nvs [fr, n]))) (q : RetI (ans (Squeeze.step Squeeze.start (.at_ b fr n)).2) H Q) : RowC own r H Q 2
  | judge (b : List UInt8) (h : H r = some (.lst (nvs (bs b)))) (hb : b.length ≤ 16000) (q : RetI (ans (Squeeze.step Squeeze.start (.judge b)).2) H Q) : RowC own r H Q 3
  | length (b : List UInt8) (h : H r = some (.lst (nvs (bs b)))) (hb : b.length ≤ 16000) (q : RetI (ans (Squeeze.step Squeeze.start (.length b)).2) H Q) : RowC own r H Q 4
  | parse (b : List UInt8) (h : H r = some (.lst (nvs (bs b)))) (hb : b.length ≤ 16000) (q : RetI (ans (Squeeze.step Squeeze.start (.parse b)).2) H Q) : RowC own r H Q 5
  | lens (o : List Nat) (h : H r = some (.lst (nvs o))) (q : RetI (ans (Squeeze.step Squeeze.start (.lengths o)).2) H Q) : RowC own r H Q 6
def spOfRow : Sp := fun vs H Q _ => ∃ p own r, vs = [nv p, .ref own, .ref r] ∧ RowC own r H Q p
theorem ok_of_row (T : Gs K mg aM) (D_pack : Def P w K mg base CX0 10 "pack" ["text"] spPack) (D_unpack : Def P w K mg base CX0 10 "unpack" ["row"] spUnpack) (D_part : Def P w K mg base CX0 10 "part" ["row", "start", "many"] spPart) (D_judge : Def P w K mg base CX0 10 "judge" ["row"] spJudge) (D_length : Def P w K mg base CX0 10 "length" ["row"] spLength)
    (D_parse : Def P w K mg base CX0 10 "parse" ["text"] spParseC) (D_lengths : Def P w K mg base CX0 10 "lengths" ["often"] spLens) (F : Fun K "of_row" "of_row" s_of_row f fd) : FnOk P w K mg base CX0 11 f fd ["call", "own", "row"] spOfRow := by
  refine F.ok sc_of_row (fun vs H Q E h => ?_) (fun cdv A outer s H vs Q E hr h => ?_)
  · obtain ⟨p, own, r, rfl, _⟩ := h
    rfl
  obtain ⟨p, own, r, rfl, hC⟩ := h
  refine ⟨_, (pss_cons (ps_if (pt_cmpR op_eq (pv 0) (pe_k T.PACK) (nomark _))
      (pss_one (ps_ret (pe_callD D_pack hr rfl pass0 (pa_cons (pv 2) pa_nil))))
      pss_nil)
    (pss_cons (ps_if (pt_cmpR op_eq (pv 0) (pe_k T.UNPACK) (nomark _))
      (pss_one (ps_ret (pe_callD D_unpack hr rfl pass0 (pa_cons (pv 2) pa_nil))))
      pss_nil)
    (pss_cons (ps_if (pt_cmpR op_eq (pv 0) (pe_k T.AT) (nomark _))
      (pss_one (ps_ret (pe_callD D_part hr rfl pass0 (pa_cons (pv 2) (pa_cons (pe_ix ix_list (pv 1) pe_int (fun _ _ => rfl)) (pa_cons (pe_ix ix_list (pv 1) pe_int (fun _ _ => rfl)) pa_nil))))))
      pss_nil)
    (pss_cons (ps_if (pt_cmpR op_eq (pv 0) (pe_k T.JUDGE) (nomark _))
      (pss_one (ps_ret (pe_callD D_judge hr rfl pass0 (pa_cons (pv 2) pa_nil))))
      pss_nil)
    (pss_cons (ps_if (pt_cmpR op_eq (pv 0) (pe_k T.LENGTH) (nomark _))
      (pss_one (ps_ret (pe_callD D_length hr rfl pass0 (pa_cons (pv 2) pa_nil))))
      pss_nil)
    (pss_cons (ps_if (pt_cmpR op_eq (pv 0) (pe_k T.PARSE) (nomark _))
      (pss_one (ps_ret (pe_callD D_parse hr rfl pass0 (pa_cons (pv 2) pa_nil))))
      pss_nil)
    (pss_one (ps_ret (pe_callD D_lengths hr rfl pass0 (pa_cons (pv 2) pa_nil)))))))))), ?_⟩
  refine q_when (b := decide (p = 0)) (et_is (et_test (ev_eqI (ev_var rfl) ev_c)) (by rw [decide_eq_decide]; omega)) (fun hc H1 e1 => ?_) (fun h0 H1 e1 => ?_)
  · have hc := of_decide_eq_true hc
    subst hc
    cases hC with
    | pack b h hb q =>
      refine r_raw (call_raw ?_)
      refine (ea_cons (ev_var rfl) ea_nil) H1 (Ex.refl _) _ fun H2 e2 => ?_
      exact ⟨r, b, rfl, (e1.trans e2) _ _ h, hb, q.ex (e1.trans e2)⟩
  refine q_when (b := decide (p = 1)) (et_is (et_test (ev_eqI (ev_var rfl) ev_c)) (by rw [decide_eq_decide]; omega)) (fun hc H2 e2 => ?_) (fun h1 H2 e2 => ?_)
  · have hc := of_decide_eq_true hc
    subst hc
    cases hC with
    | unpack b h hb q =>
      refine r_raw (call_raw ?_)
      refine (ea_cons (ev_var rfl) ea_nil) H2 (Ex.refl _) _ fun H3 e3 => ?_
      have e := (e1.trans e2).trans e3
      exact ⟨r, b, rfl, e _ _ h, hb, q.ex e⟩
  have e12 := e1.trans e2
  refine q_when (b := decide (p = 2)) (et_is (et_test (ev_eqI (ev_var rfl) ev_c)) (by rw [decide_eq_decide]; omega)) (fun hc H3 e3 => ?_) (fun h2 H3 e3 => ?_)
  · have hc := of_decide_eq_true hc
    subst hc
    cases hC with
    | at_ b fr n h hb ho q =>
      refine r_raw (call_raw ?_)
      have hoL := sq_of (K := K) ((e12.trans e3) _ _ ho)
      refine (ea_cons (ev_var rfl) (ea_cons (x := nv fr) (ev_ix (j := 0) (ev_var rfl) ev_c hoL rfl rfl) (ea_cons (x := nv n) (ev_ix (j := 1) (ev_var rfl) ev_c hoL rfl rfl) ea_nil))) H3 (Ex.refl _) _ fun H4 e4 => ?_
      have e := (e12.trans e3).trans e4
      exact ⟨r, b, fr, n, _, rfl, e _ _ h, hb, q.ex e⟩
  have e13 := e12.trans e3
  refine q_when (b := decide (p = 3)) (et_is (et_test (ev_eqI (ev_var rfl) ev_c)) (by rw [decide_eq_decide]; omega)) (fun hc H4 e4 => ?_) (fun h3 H4 e4 => ?_)
  · have hc := of_decide_eq_true hc
    subst hc
    cases hC with
    | judge b h hb q =>
      refine r_raw (call_raw ?_)
      refine (ea_cons (ev_var rfl) ea_nil) H4 (Ex.refl _) _ fun H5 e5 => ?_
      have e := (e13.trans e4).trans e5
      exact ⟨r, b, rfl, e _ _ h, hb, q.ex e⟩
  have e14 := e13.trans e4
  refine q_when (b := decide (p = 4)) (et_is (et_test (ev_eqI (ev_var rfl) ev_c)) (by rw [decide_eq_decide]; omega)) (fun hc H5 e5 => ?_) (fun h4 H5 e5 => ?_)
  · have hc := of_decide_eq_true hc
    subst hc
    cases hC with
    | length b h hb q =>
      refine r_raw (call_raw ?_)
      refine (ea_cons (ev_var rfl) ea_nil) H5 (Ex.refl _) _ fun H6 e6 => ?_
      have e := (e14.trans e5).trans e6
      exact ⟨r, b, rfl, e _ _ h, hb, q.ex e⟩
  have e15 := e14.trans e5
  refine q_when (b := decide (p = 5)) (et_is (et_test (ev_eqI (ev_var rfl) ev_c)) (by rw [decide_eq_decide]; omega)) (fun hc H6 e6 => ?_) (fun h5 H6 e6 => ?_)
  · have hc := of_decide_eq_true hc
    subst hc
    cases hC with
    | parse b h hb q =>
      refine r_raw (call_raw ?_)
      refine (ea_cons (ev_var rfl) ea_nil) H6 (Ex.refl _) _ fun H7 e7 => ?_
      have e := (e15.trans e6).trans e7
      exact ⟨r, b, rfl, e _ _ h, hb, q.ex e⟩
  have h0 := of_decide_eq_false h0
  have h1 := of_decide_eq_false h1
  have h2 := of_decide_eq_false h2
  have h3 := of_decide_eq_false h3
  have h4 := of_decide_eq_false h4
  have h5 := of_decide_eq_false h5
  cases hC with
  | pack => exact absurd rfl h0
  | unpack => exact absurd rfl h1
  | at_ => exact absurd rfl h2
  | judge => exact absurd rfl h3
  | length => exact absurd rfl h4
  | parse => exact absurd rfl h5
  | lens o h q =>
    refine r_raw (call_raw ?_)
    refine (ea_cons (ev_var rfl) ea_nil) H6 (Ex.refl _) _ fun H7 e7 => ?_
    have e := (e15.trans e6).trans e7
    exact ⟨r, o, rfl, e _ _ h, q.ex e⟩
end
end Gz
end

/-! ## W27 -/
section
set_option Elab.async false
set_option linter.all false
set_option maxRecDepth 100000
set_option maxHeartbeats 4000000
namespace Gz
open PySem PySem.Spec PyProof.Rows L2 Evl
/-! ### which call it is -/
inductive Kind : Nat → List Nat → List Int → List (List Int) → Prop where
  | pack (x : List Int) (h : zb (SqueezeNeutral.text x) = x) : Kind 0 [] x [[0], x]
  | unpack (x : List Int) (h : zb (SqueezeNeutral.text x) = x) : Kind 1 [] x [[1], x]
  | at_ (fr n : Nat) (x : List Int) (h : zb (SqueezeNeutral.text x) = x) : Kind 2 [fr, n] x [[2, (fr : Int), (n : Int)], x]
  | judge (x : List Int) (h : zb (SqueezeNeutral.text x) = x) : Kind 3 [] x [[3], x]
  | length (x : List Int) (h : zb (SqueezeNeutral.text x) = x) : Kind 4 [] x [[4], x]
  | parse (x : List Int) (h : zb (SqueezeNeutral.text x) = x) : Kind 5 [] x [[5], x]
  | lens (x : List Int) (h : zn (SqueezeNeutral.nats x) = x) : Kind 6 [] x [[6], x]
  | beg (o : Nat) : Kind 7 [o] [] [[7, (o : Int)]]
  | feed (o : Nat) (x : List Int) (h : zb (SqueezeNeutral.text x) = x) : Kind 8 [o] x [[8, (o : Int)], x]
  | end_ (o : Nat) : Kind 9 [o] [] [[9, (o : Int)]]
theorem zb_of {x : List Int} (h : (x.all fun (z : Int) => SqueezeNeutral.natural z 8) = true) : zb (SqueezeNeutral.text x) = x :=
  text_zb fun z hz => by
    have := natural_iff.mp (List.all_eq_true.mp h z hz)
    exact ⟨this.1, by have := this.2; omega⟩
theorem zn_of {x : List Int} (h : (x.all fun (z : Int) => SqueezeNeutral.natural z 64) = true) : zn (SqueezeNeutral.nats x) = x :=
  nats_zn fun z hz => (natural_iff.mp (List.all_eq_true.mp h z hz)).1
theorem nat_of {z : Int} (h : SqueezeNeutral.natural z 64 = true) : ∃ n : Nat, z = (n : Int) := ⟨z.toNat, by
  have := (natural_iff.mp h).1
  omega⟩
def restOf (p : Nat) (x t : List Int) : List Int := if p = 7 ∨ p = 9 then t else (x.length : Int) :: (x ++ t)
theorem kind_of {L : List Int} {c : List (List Int)} {t : List Int} (h : Turn L c t) (ha : SqueezeNeutral.asked1 c = true) : ∃ p os x, Kind p os x c ∧ L = (p : Int) :: (zn os ++ restOf p x t) ∧ os.length = cntOf p := by
  cases h with
  | row p x t hp =>
    rcases hp with rfl | rfl | rfl | rfl | rfl | rfl
    · exact ⟨0, [], x, .pack x (zb_of ha), rfl, rfl⟩
    · exact ⟨1, [], x, .unpack x (zb_of ha), rfl, rfl⟩
    · exact ⟨3, [], x, .judge x (zb_of ha), rfl, rfl⟩
    · exact ⟨4, [], x, .length x (zb_of ha), rfl, rfl⟩
    · exact ⟨5, [], x, .parse x (zb_of ha), rfl, rfl⟩
    · exact ⟨6, [], x, .lens x (zn_of ha), rfl, rfl⟩
  | at_ a n x t =>
    have ha : ((x.all fun (z : Int) => SqueezeNeutral.natural z 8) && SqueezeNeutral.natural a 64 && SqueezeNeutral.natural n 64) = true := ha
    rw [Bool.and_eq_true, Bool.and_eq_true] at ha
    obtain ⟨a, rfl⟩ := nat_of ha.1.2
    obtain ⟨n, rfl⟩ := nat_of ha.2
    exact ⟨2, [a, n], x, .at_ a n x (zb_of ha.1.1), rfl, rfl⟩
  | one p a t hp =>
    rcases hp with rfl | rfl
    · obtain ⟨a, rfl⟩ := nat_of (show SqueezeNeutral.natural a 64 = true from ha)
      exact ⟨7, [a], [], .beg a, rfl, rfl⟩
    · obtain ⟨a, rfl⟩ := nat_of (show SqueezeNeutral.natural a 64 = true from ha)
      exact ⟨9, [a], [], .end_ a, rfl, rfl⟩
  | feed a x t =>
    have ha : (SqueezeNeutral.natural a 64 && (x.all fun (z : Int) => SqueezeNeutral.natural z 8)) = true := ha
    rw [Bool.and_eq_true] at ha
    obtain ⟨a, rfl⟩ := nat_of ha.1
    exact ⟨8, [a], x, .feed a x (zb_of ha.2), rfl, rfl⟩
theorem step_len (s : Squeeze.State) (c : Squeeze.Call) : (Squeeze.step s c).1.length = s.length := by
  cases c <;> simp only [Squeeze.step] <;> (repeat' split) <;> simp
theorem nstep_len (s : Squeeze.State) (c : List (List Int)) : (SqueezeNeutral.step s c).1.length = s.length := by
  unfold SqueezeNeutral.step
  split
  · exact step_len s _
  · rfl
def KeepI (H0 H : Hp) : Prop := ∀ b o, (∀ C dx fs, o ≠ .ins C dx fs) → H0 b = some o → H b = some o
section
variable {P : Program} {w : World} {K : PySem.W.Frag} {mg : Str → Option Value} {base : Heap} {f : Addr} {fd : FuncData} {aM CF CB C : Addr}
theorem KeepI.sq {H0 H : Hp} {a : Addr} {xs : List V} (k : KeepI H0 H) (h : SqL K H0 a xs) : SqL K H a xs := by
  rcases h with (h | ⟨o, h⟩) | h
  · exact Or.inl (Or.inl (k _ _ (fun _ _ _ e => by cases e) h))
  · exact Or.inl (Or.inr ⟨o, k _ _ (fun _ _ _ e => by cases e) h⟩)
  · exact Or.inr h
theorem KeepI.ex {H0 H H' : Hp} (k : KeepI H0 H) (e : Ex H H') : KeepI H0 H' := fun b o n h => e b o (k b o n h)
theorem KeepI.exI {H0 H H' : Hp} {st : Addr} (k : KeepI H0 H) (e : ExI C st H H') (hst : H0 st = none) : KeepI H0 H' := fun b o n h => e b o (fun z => by rw [z, hst] at h; cases h) (n C) (k b o n h)
theorem KeepI.upd {H0 H : Hp} {tl : Addr} {o : HO} (k : KeepI H0 H) (h : H0 tl = none) : KeepI H0 (upd H tl o) := fun b u n q => by
  rw [upd_ne (fun z => by rw [z, h] at q; cases q)]
  exact k b u n q
theorem StatesAt.upd {G : Addr → Prop} {H : Hp} {st tl : Addr} {s : Squeeze.State} {xs : List V} {o : HO} (h : StatesAt C G H st s) (hG : ∀ l, G l → l ≠ tl) (hts : st ≠ tl) (htl : H tl = some (.lst xs)) : StatesAt C G (upd H tl o) st s := by
  obtain ⟨ys, h1, h2, h3⟩ := h
  refine ⟨ys, by rw [upd_ne hts]; exact h1, Paired.mapP h2 fun y q r => ?_, h3⟩
  cases q with
  | none => exact r
  | some x =>
    obtain ⟨a, dx, l, r1, r2, r3, r4, r5⟩ := r
    refine ⟨a, dx, l, r1, ?_, ?_, r4, r5⟩
    · rw [upd_ne (fun z => by rw [z, htl] at r2; cases r2)]
      exact r2
    · rw [upd_ne (hG l r4)]
      exact r3
theorem q_whenN {σ : L2.St} {H : Hp} {D : Ends} {tz tu : TS} {t : TT} {b : Bool} {M : L2.St → Hp → Prop} (k : ∀ σ' H', M σ' H' → tz D σ' H') (h : EvT t σ H b) (h1 : b = true → ∀ H1, Ex H H1 → (∀ σ' H', M σ' H' → tz D σ' H') → tu { D with nx := tz D } σ H1) (h2 : b = false → ∀ H1, Ex H H1 → M σ H1) : tSeq (tIfS t tu tNext) tz D σ H :=
  q_when h (fun hb H1 e => h1 hb H1 e k) (fun hb H1 e => k σ H1 (h2 hb H1 e))
theorem q_ifN {σ : L2.St} {H : Hp} {D : Ends} {tz tu tw : TS} {t : TT} {b : Bool} {M : L2.St → Hp → Prop} (k : ∀ σ' H', M σ' H' → tz D σ' H') (h : EvT t σ H b) (h1 : b = true → ∀ H1, Ex H H1 → (∀ σ' H', M σ' H' → tz D σ' H') → tu { D with nx := tz D } σ H1) (h2 : b = false → ∀ H1, Ex H H1 → (∀ σ' H', M σ' H' → tz D σ' H') → tw { D with nx := tz D } σ H1) : tSeq (tIfS t tu tw) tz D σ H :=
  q_if h (fun hb H1 e => h1 hb H1 e k) (fun hb H1 e => h2 hb H1 e k)
theorem q_appB {σ : L2.St} {H : Hp} {D : Ends} {tz : TS} {ta te : TE} {v : V} {l : Addr} {xs : List V} (hl : H l = some (.lst xs)) (ha : Ev ta σ H (.ref l)) (h : Ev te σ H v) (hz : xs.length < sizeLine) (k : ∀ H1, Ex H H1 → tz D σ (upd H1 l (.lst (xs ++ [v])))) :
    tSeq (tDrop (tBM K "list" rAppend ta (tCons te tNil))) tz D σ H := s_appB (D := { D with nx := tz D }) hl ha h hz k
/-! ### answers -/
def AnsInv (C : Addr) (H0 : Hp) (a tl st : Addr) (l : List Int) (i : Nat) (σ : L2.St) (H : Hp) : Prop := ∃ s out cs v4 v5 v6 v7, σ = [some (.ref a), some (.ref tl), some (.ref st), some (nv i), v4, v5, v6, v7] ∧ KeepI H0 H ∧ H tl = some (.lst (out.map V.int)) ∧
  StatesAt C (fun l => l ≠ st ∧ l ≠ tl) H st s ∧ s.length = 4 ∧ Loop l i s out cs
def spAns (K : PySem.W.Frag) : Sp := fun vs H Q _ => ∃ (a : Addr) (l : List Int), vs = [.ref a] ∧ SqL K H a (l.map V.int) ∧ l.length ≤ 16000 ∧ PyWqaecq.answers_asked l = true ∧ ∀ (H' : Hp) (p : Addr), H' p = some (.lst ((PyWqaecq.answers l).map V.int)) → Q (.ref p) H'
theorem ok_answers (T : Gs K mg aM) (D_count_of : Def P w K mg base CX0 1 "count_of" ["call"] spCount) (D_of_state : Def P w K mg base CX0 11 "of_state" ["call", "states", "state", "row"] (spOfState C)) (D_of_row : Def P w K mg base CX0 11 "of_row" ["call", "own", "row"] spOfRow) (F : Fun K "answers" "answers" s_answers f fd) :
    FnOk P w K mg base CX0 12 f fd ["calls"] (spAns K) := by
  refine F.ok sc_answers (fun vs H Q E h => ?_) (fun cdv A outer s H vs Q E hr h => ?_)
  · obtain ⟨a, l, rfl, _⟩ := h
    rfl
  obtain ⟨a, l, rfl, hA, hll, hask, q⟩ := h
  obtain ⟨⟨cs0, hL0⟩, hbig⟩ := loop_start hask
  have hsz := sizeLine_eq
  refine ⟨_, (pss_cons (ps_set (i := 1) sc_answers.nd rfl (Or.inl rfl) (pe_lst pa_nil))
    (pss_cons (ps_set (i := 2) sc_answers.nd rfl (Or.inl rfl) (pe_op op_rep (pe_lst (pa_cons pe_non pa_nil)) (pe_k T.STATES)))
    (pss_cons (ps_set (i := 3) sc_answers.nd rfl (Or.inl rfl) pe_int)
    (pss_cons (ps_while PassesOwn.never (pt_cmpR op_lt (pv 3) (pe_callB call_len_seq (by rfl) T.b_len (by decide +kernel) (pa_cons (pv 0) pa_nil)) (nomark _))
      (pss_cons (ps_set (i := 4) sc_answers.nd rfl (Or.inl rfl) (pe_ix ix_list (pv 0) (pv 3) (fun _ _ => rfl)))
    (pss_cons (ps_aug (i := 3) sc_answers.nd rfl (Or.inl rfl) pe_int ip_add)
    (pss_cons (ps_set (i := 5) sc_answers.nd rfl (Or.inl rfl) (pe_slice sl_list (pv 0) (po_some (pv 3)) (po_some (pe_op op_add (pv 3) (pe_callD D_count_of hr rfl pass0 (pa_cons (pv 4) pa_nil))))))
    (pss_cons (ps_aug (i := 3) sc_answers.nd rfl (Or.inl rfl) (pe_callB call_len_seq (by rfl) T.b_len (by decide +kernel) (pa_cons (pv 5) pa_nil)) ip_add)
    (pss_cons (ps_set (i := 6) sc_answers.nd rfl (Or.inl rfl) (pe_lst pa_nil))
    (pss_cons (ps_if (pt_cmpR op_notIn_seq (pv 4) (pe_tup (pa_cons (pe_k T.BEGIN) (pa_cons (pe_k T.END) pa_nil))) rfl)
      (pss_cons (ps_set (i := 6) sc_answers.nd rfl (Or.inl rfl) (pe_slice sl_list (pv 0) (po_some (pe_op op_add (pv 3) pe_int)) (po_some (pe_op op_add (pe_op op_add (pv 3) pe_int) (pe_ix ix_list (pv 0) (pv 3) (fun _ _ => rfl))))))
    (pss_one (ps_aug (i := 3) sc_answers.nd rfl (Or.inl rfl) (pe_op op_add pe_int (pe_callB call_len_seq (by rfl) T.b_len (by decide +kernel) (pa_cons (pv 6) pa_nil))) ip_add)))
      pss_nil)
    (pss_cons (ps_if (pt_cmpR op_in_seq (pv 4) (pe_tup (pa_cons (pe_k T.BEGIN) (pa_cons (pe_k T.FEED) (pa_cons (pe_k T.END) pa_nil)))) rfl)
      (pss_one (ps_set (i := 7) sc_answers.nd rfl (Or.inl rfl) (pe_callD D_of_state hr rfl pass0 (pa_cons (pv 4) (pa_cons (pv 2) (pa_cons (pe_ix ix_list (pv 5) pe_int (fun _ _ => rfl)) (pa_cons (pv 6) pa_nil)))))))
      (pss_one (ps_set (i := 7) sc_answers.nd rfl (Or.inl rfl) (pe_callD D_of_row hr rfl pass0 (pa_cons (pv 4) (pa_cons (pv 5) (pa_cons (pv 6) pa_nil)))))))
    (pss_cons (ps_expr (pe_bm PySem.F.plainAttrs_list PySem.F.slot_list_append PySem.F.type_list_append mt_append (pv 1) (pa_cons (pe_callB call_len_seq (by rfl) T.b_len (by decide +kernel) (pa_cons (pv 7) pa_nil)) pa_nil)))
    (pss_one (ps_expr (pe_bm PySem.F.plainAttrs_list PySem.F.slot_list_extend PySem.F.type_list_extend mt_extend (pv 1) (pa_cons (pv 7) pa_nil)))))))))))))
    (pss_one (ps_ret (pv 1))))))), ?_⟩
  refine q_asgL (xs := []) (el_lst ea_nil (by decide)) fun tl H1 htl e1 h1 => ?_
  refine q_asgL (el_rep (x := .non) (k := 4) (el_lst (ea_cons ev_c ea_nil) (Nat.le_of_ble_eq_true rfl)) ev_c (sz_of (by decide))) fun st H2 hst e2 h2 => ?_
  refine q_asg (v := nv 0) ev_c fun H3 e3 => ?_
  have hst0 : H st = none := fresh_back e1 hst
  have hts : st ≠ tl := fun z => by rw [z, h1] at hst; cases hst
  refine q_while (fun m σ H' => ∃ i, AnsInv C H a tl st l i σ H' ∧ m = l.length - i) _ ⟨0, ⟨_, [], cs0, none, none, none, none, rfl, fun b o _ h => ((e1.trans e2).trans e3) _ _ h, (e2.trans e3) _ _ h1, ⟨_, e3 _ _ h2, have n0 : StIs C (fun l => l ≠ st ∧ l ≠ tl) H3 .non none := rfl; .cons n0 (.cons n0 (.cons n0 (.cons n0 .nil))), fun i j b hi _ => ?_⟩, rfl, hL0⟩, rfl⟩ ?_
  · rw [List.getElem?_replicate] at hi
    split at hi <;> cases hi
  rintro m σ H4 ⟨i, ⟨s, out, cs, v4, v5, v6, v7, rfl, kI, htl4, hS, hs4, hL⟩, rfl⟩
  have hA4 := kI.sq hA
  refine ⟨decide (i < l.length), et_is (et_test (ev_I0 (ev_var rfl) (ev_lenL (ev_var rfl) hA4))) (by rw [List.length_map, decide_eq_decide]; omega), fun hc H5 e5 => ?_, fun hc H5 e5 => ?_⟩
  · have hi := of_decide_eq_true hc
    obtain ⟨c, t, cs', hT, hask1, hnext⟩ := hL.turn hi
    obtain ⟨p, os, x, hk, hdr, hos⟩ := kind_of hT hask1
    refine ⟨fun σ2 H' => ∃ j, i < j ∧ j ≤ l.length ∧ AnsInv C H a tl st l j σ2 H', fun σ2 H' ⟨j, h1, h2, h3⟩ => ⟨l.length - j, by omega, j, h3, rfl⟩, ?_⟩
    have hpi : l[i]? = some (p : Int) := by
      have : (l.drop i)[0]? = some (p : Int) := by rw [hdr]; rfl
      rwa [List.getElem?_drop] at this
    have hd1 : l.drop (i + 1) = zn os ++ restOf p x t := by
      have : (l.drop i).drop 1 = zn os ++ restOf p x t := by rw [hdr]; rfl
      rwa [List.drop_drop] at this
    have hznl : (zn os).length = cntOf p := by rw [← hos]; exact List.length_map ..
    have hd2 : l.drop (i + 1 + cntOf p) = restOf p x t := by
      rw [← List.drop_drop, hd1, ← hznl, List.drop_left]
    have hle2 : i + 1 + cntOf p + (restOf p x t).length = l.length := by
      have h1 : (l.drop (i + 1)).length = l.length - (i + 1) := List.length_drop ..
      rw [hd1, List.length_append, hznl] at h1
      omega
    refine q_asg (v := nv p) (ev_ix (j := i) (ev_var rfl) (ev_var rfl) (ex_l e5 hA4) (by rw [List.getElem?_map, hpi]; rfl) rfl) fun H6 e6 => ?_
    refine q_aug (a := (i : Int)) (b := 1) rfl ev_c fun H7 e7 => ?_
    have e57 := (e5.trans e6).trans e7
    refine q_asgL (xs := nvs os) (el_is (el_slS (n := 0) (lo := i + 1) (hi := i + 1 + cntOf p) (ev_var rfl) (eo_some (ev_var rfl)) (eo_some (ev_is (ev_I0 (ev_var (v := nv (i + 1)) rfl) (ev_call (z := nv (cntOf p)) (ea_cons (ev_var rfl) ea_nil) fun H8 e8 Q8 q8 E8 => ⟨p, rfl, q8⟩)) rfl)) (ex_l e57 hA4)) ?_) fun ow H8 how e8 h8 => ?_
    · rw [← List.map_drop, hd1, nvs_ints, Nat.add_sub_cancel_left, List.map_append, ← hznl, ← List.length_map (f := V.int), List.take_left]
    refine q_aug (a := ((i + 1 : Nat) : Int)) (b := ((cntOf p : Nat) : Int)) rfl (ev_is (ev_lenL (ev_var rfl) (sq_of h8)) (by rw [nvs_length, hos])) fun H9 e9 => ?_
    refine q_asgL (xs := []) (el_lst ea_nil (by decide)) fun r0 H10 hr0 e10 h10 => ?_
    have e510 := ((e57.trans e8).trans e9).trans e10
    refine q_whenN (M := fun σ' H' => ∃ r j, σ' = [some (.ref a), some (.ref tl), some (.ref st), some (nv j), some (nv p), some (.ref ow), some (.ref r), v7] ∧ Ex H10 H' ∧ H' r = some (.lst (x.map V.int)) ∧ r ≠ st ∧ l.drop j = t ∧ j ≤ l.length ∧ i < j) ?_ (b := !decide (p = 7 ∨ p = 9)) (et_is (et_test (ev_niU (x := nv p) (ev_var rfl) (eu_tup (vs := nvs [7, 9]) (ea_cons ev_c (ea_cons ev_c ea_nil)) (by decide)) rfl (flat_nats _))) (by rw [inV_nats]; simp)) (fun hb H11 e11 k => ?_) (fun hb H11 e11 => ?_)
    rotate_left
    · have hb : ¬ (p = 7 ∨ p = 9) := fun z => by rw [decide_eq_true z] at hb; cases hb
      have hr : restOf p x t = (x.length : Int) :: (x ++ t) := if_neg hb
      rw [hr] at hd2 hle2
      have hA11 := ex_l (e510.trans e11) hA4
      have hlen : l[i + 1 + cntOf p]? = some (x.length : Int) := by
        have : (l.drop (i + 1 + cntOf p))[0]? = some (x.length : Int) := by rw [hd2]; rfl
        rwa [List.getElem?_drop] at this
      have hd3 : l.drop (i + 1 + cntOf p + 1) = x ++ t := by
        rw [← List.drop_drop, hd2]; rfl
      refine q_asgL (xs := x.map V.int) (el_is (el_slS (n := 0) (lo := i + 1 + cntOf p + 1) (hi := i + 1 + cntOf p + 1 + x.length) (ev_var rfl) (eo_some (ev_is (ev_I0 (ev_var (v := nv (i + 1 + cntOf p)) rfl) ev_c) rfl)) (eo_some (ev_is (ev_I0 (ev_I0 (ev_var (v := nv (i + 1 + cntOf p)) rfl) ev_c) (ev_ix (v := nv x.length) (j := i + 1 + cntOf p) (ev_var rfl) (ev_var rfl) hA11 (by rw [List.getElem?_map, hlen]; rfl) rfl)) rfl)) hA11) ?_) fun r H12 hr12 e12 h12 => ?_
      · rw [← List.map_drop, hd3, Nat.add_sub_cancel_left, List.map_append, ← List.length_map (f := V.int) (as := x), List.take_left]
      refine s_aug (a := ((i + 1 + cntOf p : Nat) : Int)) (b := ((1 + x.length : Nat) : Int)) rfl (ev_is (ev_I0 ev_c (ev_lenL (ev_var rfl) (sq_of h12))) (by rw [List.length_map]; show V.int (1 + _) = V.int _; congr 1)) fun H13 e13 => k _ _ ⟨r, i + 1 + cntOf p + (1 + x.length), rfl, (e11.trans e12).trans e13, e13 _ _ h12, ?_, ?_, ?_, by omega⟩
      · intro z
        rw [z] at hr12
        have := (((e510.trans e11) _ _ (hS.choose_spec.1)))
        rw [this] at hr12
        cases hr12
      · rw [← Nat.add_assoc, ← List.drop_drop, hd3, List.drop_left]
      · rw [List.length_cons, List.length_append] at hle2
        omega
    · have hb : p = 7 ∨ p = 9 := by
        cases h : decide (p = 7 ∨ p = 9) with
        | true => exact of_decide_eq_true h
        | false => rw [h] at hb; cases hb
      have hr : restOf p x t = t := if_pos hb
      rw [hr] at hd2 hle2
      have hx : x = [] := by
        cases hk <;> first | rfl | (rcases hb with h | h <;> cases h)
      subst hx
      refine ⟨r0, i + 1 + cntOf p, rfl, e11, e11 _ _ h10, ?_, hd2, by omega, by omega⟩
      intro z
      rw [z] at hr0
      rw [((e57.trans e8).trans e9) _ _ (hS.choose_spec.1)] at hr0
      cases hr0
    rintro σ H11 ⟨r, j, rfl, e11, h11, hrst, hdj, hjl, hij⟩
    have hN := hnext j hdj hjl
    have e511 := e510.trans e11
    have hS11 := hS.ex e511
    have kI11 := kI.ex e511
    have htl11 := e511 _ _ htl4
    have how11 := ((e9.trans e10).trans e11) _ _ h8
    have hxl : x.length ≤ 16000 := by
      have : (restOf p x t).length ≤ l.length := by omega
      by_cases hb : p = 7 ∨ p = 9
      · have hx : x = [] := by
          cases hk <;> first | rfl | (rcases hb with h | h <;> cases h)
        rw [hx]
        exact Nat.zero_le _
      · rw [show restOf p x t = (x.length : Int) :: (x ++ t) from if_neg hb, List.length_cons, List.length_append] at this
        omega
    have hG : ∀ {H' : Hp}, Ex H11 H' → GoodG (fun l => l ≠ st ∧ l ≠ tl) st H' := fun {H'} e => by
      refine ⟨fun l h => h.1, fun l h => ⟨fun z => ?_, fun z => ?_⟩⟩
      · rw [z, e _ _ hS11.choose_spec.1] at h
        cases h
      · rw [z, e _ _ htl11] at h
        cases h
    have hstl := nstep_len s c
    refine q_ifN (M := fun σ' H' => ∃ r2, σ' = [some (.ref a), some (.ref tl), some (.ref st), some (nv j), some (nv p), some (.ref ow), some (.ref r), some (.ref r2)] ∧ KeepI H H' ∧ H' tl = some (.lst (out.map V.int)) ∧ StatesAt C (fun l => l ≠ st ∧ l ≠ tl) H' st (SqueezeNeutral.step s c).1 ∧ H' r2 = some (.lst ((SqueezeNeutral.step s c).2.map V.int)) ∧ r2 ≠ tl) ?_ (b := decide (p = 7 ∨ p = 8 ∨ p = 9)) (et_is (et_test (ev_inU (x := nv p) (ev_var rfl) (eu_tup (vs := nvs [7, 8, 9]) (ea_cons ev_c (ea_cons ev_c (ea_cons ev_c ea_nil))) (by decide)) rfl (flat_nats _))) (by rw [inV_nats]; simp)) (fun hb H12 e12 k => ?_) (fun hb H12 e12 k => ?_)
    rotate_left
    · have hb := of_decide_eq_true hb
      have fin : ∀ {H13 : Hp} {rr : Squeeze.State × Squeeze.Answer}, Ex H11 H13 → SqueezeNeutral.step s c = (rr.1, ans rr.2) → ∀ (r2 : Addr) (H14 : Hp), H13 r2 = none → ExI C st H13 H14 → StatesAt C (fun l => l ≠ st ∧ l ≠ tl) H14 st rr.1 → H14 r2 = some (.lst ((ans rr.2).map V.int)) → ∃ r3, [some (V.ref a), some (.ref tl), some (.ref st), some (nv j), some (nv p), some (.ref ow), some (.ref r), some (.ref r2)] = [some (.ref a), some (.ref tl), some (.ref st), some (nv j), some (nv p), some (.ref ow), some (.ref r), some (.ref r3)] ∧ KeepI H H14 ∧ H14 tl = some (.lst (out.map V.int)) ∧ StatesAt C (fun l => l ≠ st ∧ l ≠ tl) H14 st (SqueezeNeutral.step s c).1 ∧ H14 r3 = some (.lst ((SqueezeNeutral.step s c).2.map V.int)) ∧ r3 ≠ tl := fun {H13 rr} e13 he r2 H14 hr2 kE hS14 h14 => by
        refine ⟨r2, rfl, (kI11.ex e13).exI kE hst0, kE _ _ hts.symm (fun dx fs z => by cases z) (e13 _ _ htl11), ?_, ?_, fun z => ?_⟩
        · rw [he]
          exact hS14
        · rw [he]
          exact h14
        · rw [z, e13 _ _ htl11] at hr2
          cases hr2
      refine s_raw (call_raw ?_)
      cases hk with
      | beg o =>
        refine (ea_cons (ev_var rfl) (ea_cons (ev_var rfl) (ea_cons (x := nv o) (ev_ix (j := 0) (ev_var rfl) ev_c (sq_of (e12 _ _ how11)) rfl rfl) (ea_cons (ev_var rfl) ea_nil)))) H12 (Ex.refl _) _ fun H13 e13 => ?_
        exact ⟨7, st, o, r, _, s, rfl, hS11.ex (e12.trans e13), hs4, hG (e12.trans e13), .beg (fun r2 H14 g1 g2 g3 g4 => k _ _ (fin (e12.trans e13) rfl r2 H14 g1 g2 g3 g4))⟩
      | feed o x hx =>
        refine (ea_cons (ev_var rfl) (ea_cons (ev_var rfl) (ea_cons (x := nv o) (ev_ix (j := 0) (ev_var rfl) ev_c (sq_of (e12 _ _ how11)) rfl rfl) (ea_cons (ev_var rfl) ea_nil)))) H12 (Ex.refl _) _ fun H13 e13 => ?_
        refine ⟨8, st, o, r, _, s, rfl, hS11.ex (e12.trans e13), hs4, hG (e12.trans e13), .feed (SqueezeNeutral.text x) ?_ hrst (by rw [text_length]; exact hxl) (fun r2 H14 g1 g2 g3 g4 => k _ _ (fin (e12.trans e13) rfl r2 H14 g1 g2 g3 g4))⟩
        rw [nvs_zb, hx]
        exact (e12.trans e13) _ _ h11
      | end_ o =>
        refine (ea_cons (ev_var rfl) (ea_cons (ev_var rfl) (ea_cons (x := nv o) (ev_ix (j := 0) (ev_var rfl) ev_c (sq_of (e12 _ _ how11)) rfl rfl) (ea_cons (ev_var rfl) ea_nil)))) H12 (Ex.refl _) _ fun H13 e13 => ?_
        exact ⟨9, st, o, r, _, s, rfl, hS11.ex (e12.trans e13), hs4, hG (e12.trans e13), .end_ (fun r2 H14 g1 g2 g3 g4 => k _ _ (fin (e12.trans e13) rfl r2 H14 g1 g2 g3 g4))⟩
      | _ => rcases hb with h | h | h <;> cases h
    · have hb := of_decide_eq_false hb
      have fin : ∀ {H13 : Hp} {an : Squeeze.Answer}, Ex H11 H13 → SqueezeNeutral.step s c = (s, ans an) → ∀ (r2 : Addr) (H14 : Hp), H13 r2 = none → Ex H13 H14 → H14 r2 = some (.lst ((ans an).map V.int)) → ∃ r3, [some (V.ref a), some (.ref tl), some (.ref st), some (nv j), some (nv p), some (.ref ow), some (.ref r), some (.ref r2)] = [some (.ref a), some (.ref tl), some (.ref st), some (nv j), some (nv p), some (.ref ow), some (.ref r), some (.ref r3)] ∧ KeepI H H14 ∧ H14 tl = some (.lst (out.map V.int)) ∧ StatesAt C (fun l => l ≠ st ∧ l ≠ tl) H14 st (SqueezeNeutral.step s c).1 ∧ H14 r3 = some (.lst ((SqueezeNeutral.step s c).2.map V.int)) ∧ r3 ≠ tl := fun {H13 an} e13 he r2 H14 hr2 e14 h14 => by
        refine ⟨r2, rfl, (kI11.ex e13).ex e14, e14 _ _ (e13 _ _ htl11), ?_, ?_, fun z => ?_⟩
        · rw [he]
          exact hS11.ex (e13.trans e14)
        · rw [he]
          exact h14
        · rw [z, e13 _ _ htl11] at hr2
          cases hr2
      refine s_raw (call_raw ?_)
      refine (ea_cons (ev_var rfl) (ea_cons (ev_var rfl) (ea_cons (ev_var rfl) ea_nil))) H12 (Ex.refl _) _ fun H13 e13 => ?_
      have e := e12.trans e13
      have hrow : ∀ {x : List Int}, H11 r = some (.lst (x.map V.int)) → zb (SqueezeNeutral.text x) = x → H13 r = some (.lst (nvs (bs (SqueezeNeutral.text x)))) := fun h hx => by
        rw [nvs_zb, hx]
        exact e _ _ h
      cases hk with
      | pack x hx => exact ⟨0, ow, r, rfl, .pack _ (hrow h11 hx) (by rw [text_length]; exact hxl) (fun r2 H14 g1 g2 g3 => k _ _ (fin e rfl r2 H14 g1 g2 g3))⟩
      | unpack x hx => exact ⟨1, ow, r, rfl, .unpack _ (hrow h11 hx) (by rw [text_length]; exact hxl) (fun r2 H14 g1 g2 g3 => k _ _ (fin e rfl r2 H14 g1 g2 g3))⟩
      | at_ fr n x hx => exact ⟨2, ow, r, rfl, .at_ _ fr n (hrow h11 hx) (by rw [text_length]; exact hxl) (e _ _ how11) (fun r2 H14 g1 g2 g3 => k _ _ (fin e rfl r2 H14 g1 g2 g3))⟩
      | judge x hx => exact ⟨3, ow, r, rfl, .judge _ (hrow h11 hx) (by rw [text_length]; exact hxl) (fun r2 H14 g1 g2 g3 => k _ _ (fin e rfl r2 H14 g1 g2 g3))⟩
      | length x hx => exact ⟨4, ow, r, rfl, .length _ (hrow h11 hx) (by rw [text_length]; exact hxl) (fun r2 H14 g1 g2 g3 => k _ _ (fin e rfl r2 H14 g1 g2 g3))⟩
      | parse x hx => exact ⟨5, ow, r, rfl, .parse _ (hrow h11 hx) (by rw [text_length]; exact hxl) (fun r2 H14 g1 g2 g3 => k _ _ (fin e rfl r2 H14 g1 g2 g3))⟩
      | lens x hx =>
        refine ⟨6, ow, r, rfl, .lens (SqueezeNeutral.nats x) ?_ (fun r2 H14 g1 g2 g3 => k _ _ (fin e rfl r2 H14 g1 g2 g3))⟩
        rw [nvs_ints, hx]
        exact e _ _ h11
      | beg o => exact absurd (.inl rfl) hb
      | feed o x hx => exact absurd (.inr (.inl rfl)) hb
      | end_ o => exact absurd (.inr (.inr rfl)) hb
    rintro σ H12 ⟨r2, rfl, kI12, htl12, hS12, h12, hr2⟩
    have hsm := hN.small hbig
    generalize hst2 : SqueezeNeutral.step s c = sc at *
    rw [List.length_append, List.length_cons] at hsm
    refine q_appB htl12 (ev_var rfl) (v := nv sc.2.length) (ev_is (ev_lenL (ev_var rfl) (sq_of h12)) (by rw [List.length_map])) (by rw [List.length_map]; omega) fun H13 e13 => ?_
    refine s_extS (b := r2) (ys := sc.2.map V.int) upd_same (ev_var rfl) (ev_var rfl) (by rw [upd_ne hr2]; exact e13 _ _ h12) (by rw [List.length_append, List.length_map, List.length_map]; show out.length + 1 + _ ≤ _; omega) fun H14 e14 => ?_
    refine ⟨j, hij, hjl, sc.1, out ++ ((sc.2.length : Int) :: sc.2), cs', _, _, _, _, rfl, (((kI12.ex e13).upd htl).ex e14).upd htl, ?_, ?_, by rw [hstl]; exact hs4, hN⟩
    · rw [upd_same, List.map_append, List.append_assoc]
      rfl
    · have hSx := (hS12.ex e13).upd (tl := tl) (o := .lst (out.map V.int ++ [nv sc.2.length])) (fun l h => h.2) hts (e13 _ _ htl12)
      exact (hSx.ex e14).upd (fun l h => h.2) hts (e14 _ _ upd_same)
  · have hi := of_decide_eq_false hc
    have hil : i = l.length := by
      have := hL.le
      omega
    subst hil
    refine s_ret (ev_var rfl) fun H6 e6 => q _ _ ?_
    rw [hL.stop]
    exact (e5.trans e6) _ _ htl4
end
end Gz
end

set_option Elab.async false
set_option linter.all false
set_option maxRecDepth 100000
set_option maxHeartbeats 8000000
/-! ### the end -/
namespace Gz
open PySem PySem.Spec PyProof.Rows L2
theorem exm_self {K : PySem.W.Frag} {S : Addr} (h1 : PySem.W.subIn K (.ref S) (.type "BaseException") = some true) (h2 : PySem.W.isClsIn K S = true) (h3 : PySem.W.typeIn K (.ref S) = some (.type "type")) (h4 : PySem.W.subIn K (.ref S) (.ref S) = some true) :
    PySem.W.exmOne K (.ref S) (.ref S) = some true := by
  have e1 : (PySem.W.subIn K (.ref S) (.type "BaseException") == some true) = true := by rw [h1] <;> rfl
  have e2 : ((PySem.W.clsIn K S).isSome && PySem.W.typeIn K (.ref S) == some (.type "type")) = true := by
    have h2' : (PySem.W.clsIn K S).isSome = true := h2
    rw [h2', h3] <;> rfl
  show (if (PySem.W.subIn K (.ref S) (.type "BaseException") == some true) = true then (if ((PySem.W.clsIn K S).isSome && PySem.W.typeIn K (.ref S) == some (.type "type")) = true then PySem.W.subIn K (.ref S) (.ref S) else none) else none) = some true
  rw [if_pos e1, if_pos e2]
  exact h4
def DefAt (K : PySem.W.Frag) (mg : Str → Option Value) (x : Str) (st : Stmt) : Prop := ∃ f fd, mg x = some (.ref f) ∧ PySem.W.keepIn K (.ref f) = true ∧ Fun K x x st f fd
def MethAt (K : PySem.W.Frag) (C : Addr) (m qual : Str) (st : Stmt) : Prop := ∃ f fd, Meth K C m f ∧ Fun K m qual st f fd
section
variable {K : PySem.W.Frag} {h : Heap} {mg : Str → Option Value} {x m qual : Str} {st : Stmt} {f C aM : Addr} {od an : Option Addr} {sl : Array (Option Value)} {oc kV dc pm cd ct : Value}
theorem defAt_mk (X : K.In h) (G : h.Ns mainGlobals mg) (a : PySem.W.nsIn K mainGlobals x = some (some (.ref f))) (l : K.lookup f = some ⟨oc, od, .func (PySem.W.fnOf x x (defArgs st) (defBody st) (defScope st) .none kV dc pm an cd ct), sl⟩) (c : PySem.W.codeIn K cd x = true) (k : PySem.W.keepIn K (.ref f) = true) : DefAt K mg x st :=
  ⟨f, _, PySem.W.mg_of X G a, k, fun_mk l c k⟩
theorem methAt_mk (a : PySem.W.findIn K (.ref C) m = some (some (.ref f))) (i : PySem.W.isFn K (.ref f) = true) (l : K.lookup f = some ⟨oc, od, .func (PySem.W.fnOf m qual (defArgs st) (defBody st) (defScope st) .none kV dc pm an cd ct), sl⟩) (c : PySem.W.codeIn K cd qual = true) (k : PySem.W.keepIn K (.ref f) = true) : MethAt K C m qual st :=
  ⟨f, _, ⟨a, i, k⟩, fun_mk l c k⟩
theorem gv_int {i : Int} {t : Tok} (X : K.In h) (G : h.Ns mainGlobals mg) (a : PySem.W.nsIn K mainGlobals x = some (some (.int i t))) : GV mg x (.int i) := ⟨_, PySem.W.mg_of X G a, _, rfl⟩
theorem gv_str {i : Str} {t : Tok} (X : K.In h) (G : h.Ns mainGlobals mg) (a : PySem.W.nsIn K mainGlobals x = some (some (.str i t))) : GV mg x (.str i) := ⟨_, PySem.W.mg_of X G a, _, rfl⟩
def MagicAt (K : PySem.W.Frag) (mg : Str → Option Value) (aM : Addr) : Prop := GV mg "MAGIC" (.ref aM) ∧ ∀ H : Hp, SqT K H aM [nv 83, nv 87, nv 90, nv 49]
theorem magic_mk {t1 t2 t3 t4 : Tok} {n : Nat} (X : K.In h) (G : h.Ns mainGlobals mg) (a : PySem.W.nsIn K mainGlobals "MAGIC" = some (some (.ref aM))) (l : K.lookup aM = some ⟨.type "tuple", od, .seq #[.int 83 t1, .int 87 t2, .int 90 t3, .int 49 t4] n, sl⟩) : ∃ aM, MagicAt K mg aM :=
  ⟨aM, ⟨_, PySem.W.mg_of X G a, rfl⟩, fun H => Or.inr ⟨_, _, n, l, rfl, rfl, (by show 4 ≤ sizeLine; decide), .cons ⟨_, rfl⟩ (.cons ⟨_, rfl⟩ (.cons ⟨_, rfl⟩ (.cons ⟨_, rfl⟩ .nil)))⟩⟩
def FeedCls (K : PySem.W.Frag) (mg : Str → Option Value) : Prop := ∃ C, mg "Feed" = some (.ref C) ∧ FeedT K C ∧ PySem.W.makesIn K C = true ∧ PySem.W.keepIn K (.ref C) = true ∧ MethAt K C "__init__" "Feed.__init__" s_Feed_init ∧ MethAt K C "front" "Feed.front" s_Feed_front ∧ MethAt K C "feed" "Feed.feed" s_Feed_feed ∧ MethAt K C "finish" "Feed.finish" s_Feed_finish
def BitsCls (K : PySem.W.Frag) (mg : Str → Option Value) : Prop := ∃ C, mg "Bits" = some (.ref C) ∧ BitsT K C ∧ PySem.W.makesIn K C = true ∧ PySem.W.keepIn K (.ref C) = true ∧ MethAt K C "__init__" "Bits.__init__" s_Bits_init ∧ MethAt K C "one" "Bits.one" s_Bits_one ∧ MethAt K C "number" "Bits.number" s_Bits_number
def FaultCls (K : PySem.W.Frag) (mg : Str → Option Value) : Prop := ∃ C, mg "Fault" = some (.ref C) ∧ FaultT K C ∧ ∃ f fd, PySem.W.findIn K (.ref C) "__init__" = some (some (.ref f)) ∧ PySem.W.typeIn K (.ref f) = some (.type "function") ∧ Fun K "__init__" "Fault.__init__" s_Fault_init f fd
theorem feed_mk (X : K.In h) (G : h.Ns mainGlobals mg) (a : PySem.W.nsIn K mainGlobals "Feed" = some (some (.ref C))) (pg : PySem.W.plainGet K C Str.empty = true) (hd : PySem.W.hasDictIn K C = true) (po : PySem.W.plainOver K C = true) (sa : PySem.W.findIn K (.ref C) "__setattr__" = some (some (.builtin "object.__setattr__")))
    (n1 : PySem.W.findIn K (.ref C) "waiting" = some none) (n2 : PySem.W.findIn K (.ref C) "total" = some none) (n3 : PySem.W.findIn K (.ref C) "opened" = some none) (mk : PySem.W.makesIn K C = true) (kc : PySem.W.keepIn K (.ref C) = true)
    (m1 : MethAt K C "__init__" "Feed.__init__" s_Feed_init) (m2 : MethAt K C "front" "Feed.front" s_Feed_front) (m3 : MethAt K C "feed" "Feed.feed" s_Feed_feed) (m4 : MethAt K C "finish" "Feed.finish" s_Feed_finish) : FeedCls K mg :=
  ⟨C, PySem.W.mg_of X G a, ⟨⟨pg, hd, po, sa⟩, n1, n2, n3⟩, mk, kc, m1, m2, m3, m4⟩
theorem bits_mk (X : K.In h) (G : h.Ns mainGlobals mg) (a : PySem.W.nsIn K mainGlobals "Bits" = some (some (.ref C))) (pg : PySem.W.plainGet K C Str.empty = true) (hd : PySem.W.hasDictIn K C = true) (po : PySem.W.plainOver K C = true) (sa : PySem.W.findIn K (.ref C) "__setattr__" = some (some (.builtin "object.__setattr__")))
    (n1 : PySem.W.findIn K (.ref C) "row" = some none) (n2 : PySem.W.findIn K (.ref C) "place" = some none) (n3 : PySem.W.findIn K (.ref C) "end" = some none) (mk : PySem.W.makesIn K C = true) (kc : PySem.W.keepIn K (.ref C) = true)
    (m1 : MethAt K C "__init__" "Bits.__init__" s_Bits_init) (m2 : MethAt K C "one" "Bits.one" s_Bits_one) (m3 : MethAt K C "number" "Bits.number" s_Bits_number) : BitsCls K mg :=
  ⟨C, PySem.W.mg_of X G a, ⟨⟨pg, hd, po, sa⟩, n1, n2, n3⟩, mk, kc, m1, m2, m3⟩
theorem broken_mk (X : K.In h) (G : h.Ns mainGlobals mg) (a : PySem.W.nsIn K mainGlobals "Broken" = some (some (.ref C))) (xF : PySem.W.excIn K C [.type "Exception", .type "BaseException", .type "object"] "Exception.__new__" = true) (kF : PySem.W.keepIn K (.ref C) = true) (bF : PySem.W.subIn K (.ref C) (.type "BaseException") = some true) (tF : PySem.W.typeIn K (.ref C) = some (.type "type"))
    (iF : PySem.W.isClsIn K C = true) (sF : PySem.W.subIn K (.ref C) (.ref C) = some true) : ∃ CB, BrT K mg CB := ⟨C, PySem.W.mg_of X G a, xF, kF, bF, tF, exm_self bF iF tF sF⟩
theorem fault_mk (X : K.In h) (G : h.Ns mainGlobals mg) (a : PySem.W.nsIn K mainGlobals "Fault" = some (some (.ref C))) (ini : PySem.W.excInitIn K C bmE "Exception.__new__" = true) (over : PySem.W.excOver K C bmE = true) (hd : PySem.W.hasDictIn K C = true) (sa : PySem.W.findIn K (.ref C) "__setattr__" = some (some (.builtin "object.__setattr__")))
    (bF : PySem.W.subIn K (.ref C) (.type "BaseException") = some true) (tF : PySem.W.typeIn K (.ref C) = some (.type "type")) (kF : PySem.W.keepIn K (.ref C) = true) (n1 : PySem.W.findIn K (.ref C) "kind" = some none) (n2 : PySem.W.findIn K (.ref C) "place" = some none)
    (ga : PySem.W.findIn K (.ref C) "__getattribute__" = some (some (.builtin "BaseException.__getattribute__"))) (gg : PySem.W.findIn K (.ref C) "__getattr__" = some none) (iF : PySem.W.isClsIn K C = true) (sF : PySem.W.subIn K (.ref C) (.ref C) = some true)
    (fi : PySem.W.findIn K (.ref C) "__init__" = some (some (.ref f))) (ft : PySem.W.typeIn K (.ref f) = some (.type "function")) (l : K.lookup f = some ⟨oc, od, .func (PySem.W.fnOf "__init__" "Fault.__init__" (defArgs s_Fault_init) (defBody s_Fault_init) (defScope s_Fault_init) .none kV dc pm an cd ct), sl⟩) (c : PySem.W.codeIn K cd "Fault.__init__" = true) (k : PySem.W.keepIn K (.ref f) = true) : FaultCls K mg :=
  ⟨C, PySem.W.mg_of X G a, ⟨⟨ini, over, hd, sa, bF, tF, kF⟩, n1, n2, ⟨ga, gg, bF, hd⟩, exm_self bF iF tF sF⟩, f, _, fi, ft, fun_mk l c k⟩
end
theorem all_mk {P : Program} {w : World} {K : PySem.W.Frag} {mg : Str → Option Value} {h : Heap} {fa : Addr} (X : K.In h) (G : h.Ns mainGlobals mg) (hfa : mg "answers" = some (.ref fa)) (qMagic : ∃ aM, MagicAt K mg aM) (qT : ∀ aM, MagicAt K mg aM → Gs K mg aM) (qFeed : FeedCls K mg) (qBits : BitsCls K mg) (qBroken : ∃ CB, BrT K mg CB) (qFault : FaultCls K mg)
    (A_class_of : DefAt K mg "class_of" s_class_of)
    (A_further : DefAt K mg "further" s_further)
    (A_lowest : DefAt K mg "lowest" s_lowest)
    (A_told : DefAt K mg "told" s_told)
    (A_heard : DefAt K mg "heard" s_heard)
    (A_leaves_of : DefAt K mg "leaves_of" s_leaves_of)
    (A_row_behind : DefAt K mg "row_behind" s_row_behind)
    (A_rows_of : DefAt K mg "rows_of" s_rows_of)
    (A_lengths_of : DefAt K mg "lengths_of" s_lengths_of)
    (A_codewords : DefAt K mg "codewords" s_codewords)
    (A_is_whole : DefAt K mg "is_whole" s_is_whole)
    (A_spelled : DefAt K mg "spelled" s_spelled)
    (A_nearest : DefAt K mg "nearest" s_nearest)
    (A_stretch : DefAt K mg "stretch" s_stretch)
    (A_offers : DefAt K mg "offers" s_offers)
    (A_best_of : DefAt K mg "best_of" s_best_of)
    (A_first_steps : DefAt K mg "first_steps" s_first_steps)
    (A_parse_of : DefAt K mg "parse_of" s_parse_of)
    (A_low_first : DefAt K mg "low_first" s_low_first)
    (A_high_first : DefAt K mg "high_first" s_high_first)
    (A_in_bytes : DefAt K mg "in_bytes" s_in_bytes)
    (A_nought_bits : DefAt K mg "nought_bits" s_nought_bits)
    (A_length_bits : DefAt K mg "length_bits" s_length_bits)
    (A_counted : DefAt K mg "counted" s_counted)
    (A_words_of : DefAt K mg "words_of" s_words_of)
    (A_step_bits : DefAt K mg "step_bits" s_step_bits)
    (A_coded : DefAt K mg "coded" s_coded)
    (A_block_of : DefAt K mg "block_of" s_block_of)
    (A_beginning : DefAt K mg "beginning" s_beginning)
    (A_ending : DefAt K mg "ending" s_ending)
    (A_packed : DefAt K mg "packed" s_packed)
    (A_read_lengths : DefAt K mg "read_lengths" s_read_lengths)
    (A_check_codes : DefAt K mg "check_codes" s_check_codes)
    (A_table_of : DefAt K mg "table_of" s_table_of)
    (A_read_symbol : DefAt K mg "read_symbol" s_read_symbol)
    (A_read_value : DefAt K mg "read_value" s_read_value)
    (A_copy_match : DefAt K mg "copy_match" s_copy_match)
    (A_read_steps : DefAt K mg "read_steps" s_read_steps)
    (A_check_rest : DefAt K mg "check_rest" s_check_rest)
    (A_coded_text : DefAt K mg "coded_text" s_coded_text)
    (A_need : DefAt K mg "need" s_need)
    (A_check_beginning : DefAt K mg "check_beginning" s_check_beginning)
    (A_count_at : DefAt K mg "count_at" s_count_at)
    (A_check_count : DefAt K mg "check_count" s_check_count)
    (A_length_at : DefAt K mg "length_at" s_length_at)
    (A_check_ending : DefAt K mg "check_ending" s_check_ending)
    (A_text_at : DefAt K mg "text_at" s_text_at)
    (A_part_at : DefAt K mg "part_at" s_part_at)
    (A_walked : DefAt K mg "walked" s_walked)
    (A_unpacked : DefAt K mg "unpacked" s_unpacked)
    (A_answered : DefAt K mg "answered" s_answered)
    (A_refused : DefAt K mg "refused" s_refused)
    (A_no_row : DefAt K mg "no_row" s_no_row)
    (A_pack : DefAt K mg "pack" s_pack)
    (A_unpack : DefAt K mg "unpack" s_unpack)
    (A_part : DefAt K mg "part" s_part)
    (A_judge : DefAt K mg "judge" s_judge)
    (A_length : DefAt K mg "length" s_length)
    (A_parse : DefAt K mg "parse" s_parse)
    (A_lengths : DefAt K mg "lengths" s_lengths)
    (A_begin : DefAt K mg "begin" s_begin)
    (A_feed : DefAt K mg "feed" s_feed)
    (A_end : DefAt K mg "end" s_end)
    (A_count_of : DefAt K mg "count_of" s_count_of)
    (A_of_state : DefAt K mg "of_state" s_of_state)
    (A_of_row : DefAt K mg "of_row" s_of_row)
    (A_answers : DefAt K mg "answers" s_answers)
    : ∃ fd : FuncData, (∀ (s : Shared) (us : List Value), us.length = (["calls"] : List Str).length → BindsTo s fd ⟨us, []⟩ ((["calls"] : List Str).zip us)) ∧ ∀ base : Heap, K.In base → base.Ns mainGlobals mg → FnOk P w K mg base CX0 12 fa fd ["calls"] (spAns K) := by
  obtain ⟨f_class_of, fd_class_of, m_class_of, k_class_of, F_class_of⟩ := A_class_of
  obtain ⟨f_further, fd_further, m_further, k_further, F_further⟩ := A_further
  obtain ⟨f_lowest, fd_lowest, m_lowest, k_lowest, F_lowest⟩ := A_lowest
  obtain ⟨f_told, fd_told, m_told, k_told, F_told⟩ := A_told
  obtain ⟨f_heard, fd_heard, m_heard, k_heard, F_heard⟩ := A_heard
  obtain ⟨f_leaves_of, fd_leaves_of, m_leaves_of, k_leaves_of, F_leaves_of⟩ := A_leaves_of
  obtain ⟨f_row_behind, fd_row_behind, m_row_behind, k_row_behind, F_row_behind⟩ := A_row_behind
  obtain ⟨f_rows_of, fd_rows_of, m_rows_of, k_rows_of, F_rows_of⟩ := A_rows_of
  obtain ⟨f_lengths_of, fd_lengths_of, m_lengths_of, k_lengths_of, F_lengths_of⟩ := A_lengths_of
  obtain ⟨f_codewords, fd_codewords, m_codewords, k_codewords, F_codewords⟩ := A_codewords
  obtain ⟨f_is_whole, fd_is_whole, m_is_whole, k_is_whole, F_is_whole⟩ := A_is_whole
  obtain ⟨f_spelled, fd_spelled, m_spelled, k_spelled, F_spelled⟩ := A_spelled
  obtain ⟨f_nearest, fd_nearest, m_nearest, k_nearest, F_nearest⟩ := A_nearest
  obtain ⟨f_stretch, fd_stretch, m_stretch, k_stretch, F_stretch⟩ := A_stretch
  obtain ⟨f_offers, fd_offers, m_offers, k_offers, F_offers⟩ := A_offers
  obtain ⟨f_best_of, fd_best_of, m_best_of, k_best_of, F_best_of⟩ := A_best_of
  obtain ⟨f_first_steps, fd_first_steps, m_first_steps, k_first_steps, F_first_steps⟩ := A_first_steps
  obtain ⟨f_parse_of, fd_parse_of, m_parse_of, k_parse_of, F_parse_of⟩ := A_parse_of
  obtain ⟨f_low_first, fd_low_first, m_low_first, k_low_first, F_low_first⟩ := A_low_first
  obtain ⟨f_high_first, fd_high_first, m_high_first, k_high_first, F_high_first⟩ := A_high_first
  obtain ⟨f_in_bytes, fd_in_bytes, m_in_bytes, k_in_bytes, F_in_bytes⟩ := A_in_bytes
  obtain ⟨f_nought_bits, fd_nought_bits, m_nought_bits, k_nought_bits, F_nought_bits⟩ := A_nought_bits
  obtain ⟨f_length_bits, fd_length_bits, m_length_bits, k_length_bits, F_length_bits⟩ := A_length_bits
  obtain ⟨f_counted, fd_counted, m_counted, k_counted, F_counted⟩ := A_counted
  obtain ⟨f_words_of, fd_words_of, m_words_of, k_words_of, F_words_of⟩ := A_words_of
  obtain ⟨f_step_bits, fd_step_bits, m_step_bits, k_step_bits, F_step_bits⟩ := A_step_bits
  obtain ⟨f_coded, fd_coded, m_coded, k_coded, F_coded⟩ := A_coded
  obtain ⟨f_block_of, fd_block_of, m_block_of, k_block_of, F_block_of⟩ := A_block_of
  obtain ⟨f_beginning, fd_beginning, m_beginning, k_beginning, F_beginning⟩ := A_beginning
  obtain ⟨f_ending, fd_ending, m_ending, k_ending, F_ending⟩ := A_ending
  obtain ⟨f_packed, fd_packed, m_packed, k_packed, F_packed⟩ := A_packed
  obtain ⟨f_read_lengths, fd_read_lengths, m_read_lengths, k_read_lengths, F_read_lengths⟩ := A_read_lengths
  obtain ⟨f_check_codes, fd_check_codes, m_check_codes, k_check_codes, F_check_codes⟩ := A_check_codes
  obtain ⟨f_table_of, fd_table_of, m_table_of, k_table_of, F_table_of⟩ := A_table_of
  obtain ⟨f_read_symbol, fd_read_symbol, m_read_symbol, k_read_symbol, F_read_symbol⟩ := A_read_symbol
  obtain ⟨f_read_value, fd_read_value, m_read_value, k_read_value, F_read_value⟩ := A_read_value
  obtain ⟨f_copy_match, fd_copy_match, m_copy_match, k_copy_match, F_copy_match⟩ := A_copy_match
  obtain ⟨f_read_steps, fd_read_steps, m_read_steps, k_read_steps, F_read_steps⟩ := A_read_steps
  obtain ⟨f_check_rest, fd_check_rest, m_check_rest, k_check_rest, F_check_rest⟩ := A_check_rest
  obtain ⟨f_coded_text, fd_coded_text, m_coded_text, k_coded_text, F_coded_text⟩ := A_coded_text
  obtain ⟨f_need, fd_need, m_need, k_need, F_need⟩ := A_need
  obtain ⟨f_check_beginning, fd_check_beginning, m_check_beginning, k_check_beginning, F_check_beginning⟩ := A_check_beginning
  obtain ⟨f_count_at, fd_count_at, m_count_at, k_count_at, F_count_at⟩ := A_count_at
  obtain ⟨f_check_count, fd_check_count, m_check_count, k_check_count, F_check_count⟩ := A_check_count
  obtain ⟨f_length_at, fd_length_at, m_length_at, k_length_at, F_length_at⟩ := A_length_at
  obtain ⟨f_check_ending, fd_check_ending, m_check_ending, k_check_ending, F_check_ending⟩ := A_check_ending
  obtain ⟨f_text_at, fd_text_at, m_text_at, k_text_at, F_text_at⟩ := A_text_at
  obtain ⟨f_part_at, fd_part_at, m_part_at, k_part_at, F_part_at⟩ := A_part_at
  obtain ⟨f_walked, fd_walked, m_walked, k_walked, F_walked⟩ := A_walked
  obtain ⟨f_unpacked, fd_unpacked, m_unpacked, k_unpacked, F_unpacked⟩ := A_unpacked
  obtain ⟨f_answered, fd_answered, m_answered, k_answered, F_answered⟩ := A_answered
  obtain ⟨f_refused, fd_refused, m_refused, k_refused, F_refused⟩ := A_refused
  obtain ⟨f_no_row, fd_no_row, m_no_row, k_no_row, F_no_row⟩ := A_no_row
  obtain ⟨f_pack, fd_pack, m_pack, k_pack, F_pack⟩ := A_pack
  obtain ⟨f_unpack, fd_unpack, m_unpack, k_unpack, F_unpack⟩ := A_unpack
  obtain ⟨f_part, fd_part, m_part, k_part, F_part⟩ := A_part
  obtain ⟨f_judge, fd_judge, m_judge, k_judge, F_judge⟩ := A_judge
  obtain ⟨f_length, fd_length, m_length, k_length, F_length⟩ := A_length
  obtain ⟨f_parse, fd_parse, m_parse, k_parse, F_parse⟩ := A_parse
  obtain ⟨f_lengths, fd_lengths, m_lengths, k_lengths, F_lengths⟩ := A_lengths
  obtain ⟨f_begin, fd_begin, m_begin, k_begin, F_begin⟩ := A_begin
  obtain ⟨f_feed, fd_feed, m_feed, k_feed, F_feed⟩ := A_feed
  obtain ⟨f_end, fd_end, m_end, k_end, F_end⟩ := A_end
  obtain ⟨f_count_of, fd_count_of, m_count_of, k_count_of, F_count_of⟩ := A_count_of
  obtain ⟨f_of_state, fd_of_state, m_of_state, k_of_state, F_of_state⟩ := A_of_state
  obtain ⟨f_of_row, fd_of_row, m_of_row, k_of_row, F_of_row⟩ := A_of_row
  obtain ⟨f_answers, fd_answers, m_answers, k_answers, F_answers⟩ := A_answers
  obtain ⟨aM, gM⟩ := qMagic
  have T := qT aM gM
  obtain ⟨CFd, gFeed, TF, mkFeed, kcFeed, ⟨f_fi, fd_fi, mt_fi, F_fi⟩, ⟨f_fr, fd_fr, mt_fr, F_fr⟩, ⟨f_fe, fd_fe, mt_fe, F_fe⟩, ⟨f_ff, fd_ff, mt_ff, F_ff⟩⟩ := qFeed
  obtain ⟨CBi, gBits, TI, mkBits, kcBits, ⟨f_bi, fd_bi, mt_bi, F_bi⟩, ⟨f_bo, fd_bo, mt_bo, F_bo⟩, ⟨f_bn, fd_bn, mt_bn, F_bn⟩⟩ := qBits
  obtain ⟨CB, TB⟩ := qBroken
  obtain ⟨CF, gFault, TFa, f_xi, fd_xi, fi_xi, ft_xi, F_xi⟩ := qFault
  have e := hfa.symm.trans m_answers
  cases e
  obtain ⟨oc, od, kV, doc, pm, an, cdv, ct, osl, rfl, lk, hcd⟩ := F_answers.ex
  refine ⟨PySem.W.fnOf "answers" "answers" (defArgs s_answers) (defBody s_answers) (defScope s_answers) .none kV doc pm an cdv ct, fun s us hu => match us, hu with | [_], _ => .of_eq rfl, fun base _ _ => ?_⟩
  have DF : FaultD P w K mg base CF := ⟨TFa, gFault, f_xi, fd_xi, fi_xi, ft_xi, F_xi.binds (ps := ["self", "kind", "place"]) (fun _ _ _ _ _ _ us hl => match us, hl with | [_, _, _], _ => rfl), ok_Fault_init TFa F_xi, okH_Fault_init TFa F_xi⟩
  have D_class_of : Def P w K mg base CX0 1 "class_of" ["number"] spClass := ⟨f_class_of, fd_class_of, m_class_of, k_class_of, F_class_of.binds (ps := ["number"]) (fun _ _ _ _ _ _ us hl => match us, hl with | [_], _ => rfl), ok_class_of F_class_of⟩
  have D_further : Def P w K mg base CX0 1 "further" ["group"] spFurther := ⟨f_further, fd_further, m_further, k_further, F_further.binds (ps := ["group"]) (fun _ _ _ _ _ _ us hl => match us, hl with | [_], _ => rfl), ok_further T F_further⟩
  have D_lowest : Def P w K mg base CX0 1 "lowest" ["group"] spLowest := ⟨f_lowest, fd_lowest, m_lowest, k_lowest, F_lowest.binds (ps := ["group"]) (fun _ _ _ _ _ _ us hl => match us, hl with | [_], _ => rfl), ok_lowest T F_lowest⟩
  have D_told : Def P w K mg base CX0 1 "told" ["number", "count"] spTold := ⟨f_told, fd_told, m_told, k_told, F_told.binds (ps := ["number", "count"]) (fun _ _ _ _ _ _ us hl => match us, hl with | [_, _], _ => rfl), ok_told T F_told⟩
  have D_heard : Def P w K mg base CX0 1 "heard" ["data", "at", "count"] (spHeard K) := ⟨f_heard, fd_heard, m_heard, k_heard, F_heard.binds (ps := ["data", "at", "count"]) (fun _ _ _ _ _ _ us hl => match us, hl with | [_, _, _], _ => rfl), ok_heard T F_heard⟩
  have D_leaves_of : Def P w K mg base CX0 1 "leaves_of" ["often"] (spLeaves K) := ⟨f_leaves_of, fd_leaves_of, m_leaves_of, k_leaves_of, F_leaves_of.binds (ps := ["often"]) (fun _ _ _ _ _ _ us hl => match us, hl with | [_], _ => rfl), ok_leaves_of T F_leaves_of⟩
  have D_row_behind : Def P w K mg base CX0 1 "row_behind" ["leaves", "row"] spRowBehind := ⟨f_row_behind, fd_row_behind, m_row_behind, k_row_behind, F_row_behind.binds (ps := ["leaves", "row"]) (fun _ _ _ _ _ _ us hl => match us, hl with | [_, _], _ => rfl), ok_row_behind T F_row_behind⟩
  have D_rows_of : Def P w K mg base CX0 2 "rows_of" ["leaves"] spRowsOf := ⟨f_rows_of, fd_rows_of, m_rows_of, k_rows_of, F_rows_of.binds (ps := ["leaves"]) (fun _ _ _ _ _ _ us hl => match us, hl with | [_], _ => rfl), ok_rows_of T D_row_behind F_rows_of⟩
  have D_lengths_of : Def P w K mg base CX0 3 "lengths_of" ["often"] (spLengthsOf K) := ⟨f_lengths_of, fd_lengths_of, m_lengths_of, k_lengths_of, F_lengths_of.binds (ps := ["often"]) (fun _ _ _ _ _ _ us hl => match us, hl with | [_], _ => rfl), ok_lengths_of T D_leaves_of D_rows_of F_lengths_of⟩
  have D_codewords : Def P w K mg base CX0 1 "codewords" ["lengths"] (spCodewords K) := ⟨f_codewords, fd_codewords, m_codewords, k_codewords, F_codewords.binds (ps := ["lengths"]) (fun _ _ _ _ _ _ us hl => match us, hl with | [_], _ => rfl), ok_codewords T F_codewords⟩
  have D_is_whole : Def P w K mg base CX0 1 "is_whole" ["lengths"] (spWhole K) := ⟨f_is_whole, fd_is_whole, m_is_whole, k_is_whole, F_is_whole.binds (ps := ["lengths"]) (fun _ _ _ _ _ _ us hl => match us, hl with | [_], _ => rfl), ok_is_whole T F_is_whole⟩
  have D_spelled : Def P w K mg base CX0 1 "spelled" ["text"] (spSpelled K) := ⟨f_spelled, fd_spelled, m_spelled, k_spelled, F_spelled.binds (ps := ["text"]) (fun _ _ _ _ _ _ us hl => match us, hl with | [_], _ => rfl), ok_spelled T F_spelled⟩
  have D_nearest : Def P w K mg base CX0 1 "nearest" ["spelling", "at", "length"] spNearest := ⟨f_nearest, fd_nearest, m_nearest, k_nearest, F_nearest.binds (ps := ["spelling", "at", "length"]) (fun _ _ _ _ _ _ us hl => match us, hl with | [_, _, _], _ => rfl), ok_nearest F_nearest⟩
  have D_stretch : Def P w K mg base CX0 1 "stretch" ["text", "at", "distance", "ends"] (spStretch K) := ⟨f_stretch, fd_stretch, m_stretch, k_stretch, F_stretch.binds (ps := ["text", "at", "distance", "ends"]) (fun _ _ _ _ _ _ us hl => match us, hl with | [_, _, _, _], _ => rfl), ok_stretch T F_stretch⟩
  have D_offers : Def P w K mg base CX0 2 "offers" ["text", "spelling", "at", "ends"] (spOffers K) := ⟨f_offers, fd_offers, m_offers, k_offers, F_offers.binds (ps := ["text", "spelling", "at", "ends"]) (fun _ _ _ _ _ _ us hl => match us, hl with | [_, _, _, _], _ => rfl), ok_offers T D_nearest D_stretch F_offers⟩
  have D_best_of : Def P w K mg base CX0 2 "best_of" ["keys", "at", "rows"] (spBest K) := ⟨f_best_of, fd_best_of, m_best_of, k_best_of, F_best_of.binds (ps := ["keys", "at", "rows"]) (fun _ _ _ _ _ _ us hl => match us, hl with | [_, _, _], _ => rfl), ok_best_of T D_class_of D_further F_best_of⟩
  have D_first_steps : Def P w K mg base CX0 3 "first_steps" ["text"] spFirst := ⟨f_first_steps, fd_first_steps, m_first_steps, k_first_steps, F_first_steps.binds (ps := ["text"]) (fun _ _ _ _ _ _ us hl => match us, hl with | [_], _ => rfl), ok_first_steps T D_spelled D_offers D_best_of F_first_steps⟩
  have D_parse_of : Def P w K mg base CX0 4 "parse_of" ["text"] spParse := ⟨f_parse_of, fd_parse_of, m_parse_of, k_parse_of, F_parse_of.binds (ps := ["text"]) (fun _ _ _ _ _ _ us hl => match us, hl with | [_], _ => rfl), ok_parse_of T D_first_steps F_parse_of⟩
  have D_low_first : Def P w K mg base CX0 1 "low_first" ["number", "count"] spLow := ⟨f_low_first, fd_low_first, m_low_first, k_low_first, F_low_first.binds (ps := ["number", "count"]) (fun _ _ _ _ _ _ us hl => match us, hl with | [_, _], _ => rfl), ok_low_first T F_low_first⟩
  have D_high_first : Def P w K mg base CX0 1 "high_first" ["number", "count"] spHigh := ⟨f_high_first, fd_high_first, m_high_first, k_high_first, F_high_first.binds (ps := ["number", "count"]) (fun _ _ _ _ _ _ us hl => match us, hl with | [_, _], _ => rfl), ok_high_first T F_high_first⟩
  have D_in_bytes : Def P w K mg base CX0 1 "in_bytes" ["bits"] (spBytes K) := ⟨f_in_bytes, fd_in_bytes, m_in_bytes, k_in_bytes, F_in_bytes.binds (ps := ["bits"]) (fun _ _ _ _ _ _ us hl => match us, hl with | [_], _ => rfl), ok_in_bytes T F_in_bytes⟩
  have D_nought_bits : Def P w K mg base CX0 2 "nought_bits" ["count"] spNought := ⟨f_nought_bits, fd_nought_bits, m_nought_bits, k_nought_bits, F_nought_bits.binds (ps := ["count"]) (fun _ _ _ _ _ _ us hl => match us, hl with | [_], _ => rfl), ok_nought_bits T D_low_first F_nought_bits⟩
  have D_length_bits : Def P w K mg base CX0 3 "length_bits" ["lengths"] (spLenBits K) := ⟨f_length_bits, fd_length_bits, m_length_bits, k_length_bits, F_length_bits.binds (ps := ["lengths"]) (fun _ _ _ _ _ _ us hl => match us, hl with | [_], _ => rfl), ok_length_bits T D_low_first D_nought_bits F_length_bits⟩
  have D_counted : Def P w K mg base CX0 2 "counted" ["steps"] spCounted := ⟨f_counted, fd_counted, m_counted, k_counted, F_counted.binds (ps := ["steps"]) (fun _ _ _ _ _ _ us hl => match us, hl with | [_], _ => rfl), ok_counted T D_class_of F_counted⟩
  have D_words_of : Def P w K mg base CX0 2 "words_of" ["lengths"] (spWords K) := ⟨f_words_of, fd_words_of, m_words_of, k_words_of, F_words_of.binds (ps := ["lengths"]) (fun _ _ _ _ _ _ us hl => match us, hl with | [_], _ => rfl), ok_words_of D_codewords D_high_first F_words_of⟩
  have D_step_bits : Def P w K mg base CX0 2 "step_bits" ["steps", "symbols", "classes"] spStepBits := ⟨f_step_bits, fd_step_bits, m_step_bits, k_step_bits, F_step_bits.binds (ps := ["steps", "symbols", "classes"]) (fun _ _ _ _ _ _ us hl => match us, hl with | [_, _, _], _ => rfl), ok_step_bits T D_class_of D_further D_low_first F_step_bits⟩
  have D_coded : Def P w K mg base CX0 5 "coded" ["text"] spCoded := ⟨f_coded, fd_coded, m_coded, k_coded, F_coded.binds (ps := ["text"]) (fun _ _ _ _ _ _ us hl => match us, hl with | [_], _ => rfl), ok_coded T D_parse_of D_counted D_lengths_of D_low_first D_length_bits D_step_bits D_words_of D_in_bytes F_coded⟩
  have D_block_of : Def P w K mg base CX0 6 "block_of" ["text"] spBlock := ⟨f_block_of, fd_block_of, m_block_of, k_block_of, F_block_of.binds (ps := ["text"]) (fun _ _ _ _ _ _ us hl => match us, hl with | [_], _ => rfl), ok_block_of T D_coded D_told F_block_of⟩
  have D_beginning : Def P w K mg base CX0 1 "beginning" [] spBegin := ⟨f_beginning, fd_beginning, m_beginning, k_beginning, F_beginning.binds (ps := []) (fun _ _ _ _ _ _ us hl => match us, hl with | [], _ => rfl), ok_beginning T F_beginning⟩
  have D_ending : Def P w K mg base CX0 2 "ending" ["count"] spEnd := ⟨f_ending, fd_ending, m_ending, k_ending, F_ending.binds (ps := ["count"]) (fun _ _ _ _ _ _ us hl => match us, hl with | [_], _ => rfl), ok_ending D_told F_ending⟩
  have D_packed : Def P w K mg base CX0 7 "packed" ["text"] (spPacked K) := ⟨f_packed, fd_packed, m_packed, k_packed, F_packed.binds (ps := ["text"]) (fun _ _ _ _ _ _ us hl => match us, hl with | [_], _ => rfl), ok_packed T D_beginning D_block_of D_ending F_packed⟩
  have M_Feed : DefC P w K mg base CX0 1 CFd "Feed" ["self"] (spFeedInit CFd) := ⟨gFeed, f_fi, fd_fi, ⟨mkFeed, mt_fi.at_, mt_fi.fn, kcFeed⟩, F_fi.binds (ps := ["self"]) (fun _ _ _ _ _ _ us hl => match us, hl with | [_], _ => rfl), ok_Feed_init TF F_fi⟩
  have M_front : DefM P w K mg base CX0 2 CFd "front" ["self"] (spFront CFd) := ⟨TF.cl, f_fr, fd_fr, mt_fr, F_fr.binds (ps := ["self"]) (fun _ _ _ _ _ _ us hl => match us, hl with | [_], _ => rfl), ok_Feed_front T TF D_beginning F_fr⟩
  have M_feed : DefM P w K mg base CX0 7 CFd "feed" ["self", "data"] (spFeed CFd) := ⟨TF.cl, f_fe, fd_fe, mt_fe, F_fe.binds (ps := ["self", "data"]) (fun _ _ _ _ _ _ us hl => match us, hl with | [_, _], _ => rfl), ok_Feed_feed T TF D_block_of M_front F_fe⟩
  have M_finish : DefM P w K mg base CX0 7 CFd "finish" ["self"] (spFinish CFd) := ⟨TF.cl, f_ff, fd_ff, mt_ff, F_ff.binds (ps := ["self"]) (fun _ _ _ _ _ _ us hl => match us, hl with | [_], _ => rfl), ok_Feed_finish T TF D_block_of D_ending M_front F_ff⟩
  have M_Bits : DefC P w K mg base CX0 1 CBi "Bits" ["self", "row", "first", "behind"] (spBitsInit CBi) := ⟨gBits, f_bi, fd_bi, ⟨mkBits, mt_bi.at_, mt_bi.fn, kcBits⟩, F_bi.binds (ps := ["self", "row", "first", "behind"]) (fun _ _ _ _ _ _ us hl => match us, hl with | [_, _, _, _], _ => rfl), ok_Bits_init TI F_bi⟩
  have M_one : DefM P w K mg base (L2N.CX P w) 1 CBi "one" ["self"] (spOne CBi CB) := ⟨TI.cl, f_bo, fd_bo, mt_bo, F_bo.binds (ps := ["self"]) (fun _ _ _ _ _ _ us hl => match us, hl with | [_], _ => rfl), ok_Bits_one TI TB F_bo⟩
  have M_number : DefM P w K mg base (L2N.CX P w) 2 CBi "number" ["self", "count"] (spNum CBi CB) := ⟨TI.cl, f_bn, fd_bn, mt_bn, F_bn.binds (ps := ["self", "count"]) (fun _ _ _ _ _ _ us hl => match us, hl with | [_, _], _ => rfl), ok_Bits_number T M_one F_bn⟩
  have D_read_lengths : Def P w K mg base (L2N.CX P w) 3 "read_lengths" ["bits"] (spReadLen CBi CB) := ⟨f_read_lengths, fd_read_lengths, m_read_lengths, k_read_lengths, F_read_lengths.binds (ps := ["bits"]) (fun _ _ _ _ _ _ us hl => match us, hl with | [_], _ => rfl), ok_read_lengths T TB M_number F_read_lengths⟩
  have D_check_codes : Def P w K mg base (L2N.CX P w) 2 "check_codes" ["first", "second"] (spCheck K CB) := ⟨f_check_codes, fd_check_codes, m_check_codes, k_check_codes, F_check_codes.binds (ps := ["first", "second"]) (fun _ _ _ _ _ _ us hl => match us, hl with | [_, _], _ => rfl), ok_check_codes T TB D_is_whole F_check_codes⟩
  have D_table_of : Def P w K mg base CX0 2 "table_of" ["lengths"] (spTable K) := ⟨f_table_of, fd_table_of, m_table_of, k_table_of, F_table_of.binds (ps := ["lengths"]) (fun _ _ _ _ _ _ us hl => match us, hl with | [_], _ => rfl), ok_table_of D_codewords F_table_of⟩
  have D_read_symbol : Def P w K mg base (L2N.CX P w) 2 "read_symbol" ["bits", "table"] (spReadSym CBi CB) := ⟨f_read_symbol, fd_read_symbol, m_read_symbol, k_read_symbol, F_read_symbol.binds (ps := ["bits", "table"]) (fun _ _ _ _ _ _ us hl => match us, hl with | [_, _], _ => rfl), ok_read_symbol T TB M_one F_read_symbol⟩
  have D_read_value : Def P w K mg base (L2N.CX P w) 3 "read_value" ["bits", "group"] (spReadVal CBi CB) := ⟨f_read_value, fd_read_value, m_read_value, k_read_value, F_read_value.binds (ps := ["bits", "group"]) (fun _ _ _ _ _ _ us hl => match us, hl with | [_, _], _ => rfl), ok_read_value T D_lowest D_further M_number F_read_value⟩
  have D_copy_match : Def P w K mg base CX0 1 "copy_match" ["text", "length", "distance"] spCopy := ⟨f_copy_match, fd_copy_match, m_copy_match, k_copy_match, F_copy_match.binds (ps := ["text", "length", "distance"]) (fun _ _ _ _ _ _ us hl => match us, hl with | [_, _, _], _ => rfl), ok_copy_match T F_copy_match⟩
  have D_read_steps : Def P w K mg base (L2N.CX P w) 4 "read_steps" ["bits", "count", "symbols", "classes"] (spReadSteps CBi CB) := ⟨f_read_steps, fd_read_steps, m_read_steps, k_read_steps, F_read_steps.binds (ps := ["bits", "count", "symbols", "classes"]) (fun _ _ _ _ _ _ us hl => match us, hl with | [_, _, _, _], _ => rfl), ok_read_steps T TB D_read_symbol D_read_value D_copy_match F_read_steps⟩
  have D_check_rest : Def P w K mg base (L2N.CX P w) 3 "check_rest" ["bits"] (spRest CBi CB) := ⟨f_check_rest, fd_check_rest, m_check_rest, k_check_rest, F_check_rest.binds (ps := ["bits"]) (fun _ _ _ _ _ _ us hl => match us, hl with | [_], _ => rfl), ok_check_rest TI TB M_number F_check_rest⟩
  have D_coded_text : Def P w K mg base (L2N.CX P w) 5 "coded_text" ["row", "first", "behind"] (spCodedText CB) := ⟨f_coded_text, fd_coded_text, m_coded_text, k_coded_text, F_coded_text.binds (ps := ["row", "first", "behind"]) (fun _ _ _ _ _ _ us hl => match us, hl with | [_, _, _], _ => rfl), ok_coded_text T TB M_Bits M_number D_read_lengths D_check_codes D_table_of D_read_steps D_check_rest F_coded_text⟩
  have D_need : Def P w K mg base (L2.CX P w) 3 "need" ["row", "behind"] (spNeed CF) := ⟨f_need, fd_need, m_need, k_need, F_need.binds (ps := ["row", "behind"]) (fun _ _ _ _ _ _ us hl => match us, hl with | [_, _], _ => rfl), ok_need T DF F_need⟩
  have D_check_beginning : Def P w K mg base (L2.CX P w) 4 "check_beginning" ["row"] (spBeg CF) := ⟨f_check_beginning, fd_check_beginning, m_check_beginning, k_check_beginning, F_check_beginning.binds (ps := ["row"]) (fun _ _ _ _ _ _ us hl => match us, hl with | [_], _ => rfl), ok_check_beginning T DF D_need F_check_beginning⟩
  have D_count_at : Def P w K mg base (L2.CX P w) 4 "count_at" ["row", "at"] (spCountAt CF) := ⟨f_count_at, fd_count_at, m_count_at, k_count_at, F_count_at.binds (ps := ["row", "at"]) (fun _ _ _ _ _ _ us hl => match us, hl with | [_, _], _ => rfl), ok_count_at DF D_need D_heard F_count_at⟩
  have D_check_count : Def P w K mg base (L2.CX P w) 3 "check_count" ["at", "count", "odd"] (spCheckCount CF) := ⟨f_check_count, fd_check_count, m_check_count, k_check_count, F_check_count.binds (ps := ["at", "count", "odd"]) (fun _ _ _ _ _ _ us hl => match us, hl with | [_, _, _], _ => rfl), ok_check_count T DF F_check_count⟩
  have D_length_at : Def P w K mg base (L2.CX P w) 4 "length_at" ["row", "at", "count"] (spLengthAt CF) := ⟨f_length_at, fd_length_at, m_length_at, k_length_at, F_length_at.binds (ps := ["row", "at", "count"]) (fun _ _ _ _ _ _ us hl => match us, hl with | [_, _, _], _ => rfl), ok_length_at T DF D_need F_length_at⟩
  have D_check_ending : Def P w K mg base (L2.CX P w) 4 "check_ending" ["row", "at", "total"] (spCheckEnd CF) := ⟨f_check_ending, fd_check_ending, m_check_ending, k_check_ending, F_check_ending.binds (ps := ["row", "at", "total"]) (fun _ _ _ _ _ _ us hl => match us, hl with | [_, _, _], _ => rfl), ok_check_ending T DF D_need D_heard F_check_ending⟩
  have D_text_at : Def P w K mg base (L2.CX P w) 6 "text_at" ["row", "at", "count"] (spTextAt CF) := ⟨f_text_at, fd_text_at, m_text_at, k_text_at, F_text_at.binds (ps := ["row", "at", "count"]) (fun _ _ _ _ _ _ us hl => match us, hl with | [_, _, _], _ => rfl), ok_text_at T DF TB D_coded_text F_text_at⟩
  have D_part_at : Def P w K mg base (L2.CX P w) 7 "part_at" ["row", "at", "count", "start", "low", "high"] (spPartAt CF) := ⟨f_part_at, fd_part_at, m_part_at, k_part_at, F_part_at.binds (ps := ["row", "at", "count", "start", "low", "high"]) (fun _ _ _ _ _ _ us hl => match us, hl with | [_, _, _, _, _, _], _ => rfl), ok_part_at T D_text_at F_part_at⟩
  have D_walked : Def P w K mg base (L2.CX P w) 8 "walked" ["row", "low", "high"] (spWalked CF) := ⟨f_walked, fd_walked, m_walked, k_walked, F_walked.binds (ps := ["row", "low", "high"]) (fun _ _ _ _ _ _ us hl => match us, hl with | [_, _, _], _ => rfl), ok_walked T D_check_beginning D_count_at D_check_count D_length_at D_part_at D_check_ending F_walked⟩
  have D_unpacked : Def P w K mg base (L2.CX P w) 9 "unpacked" ["row"] (spUnpacked CF) := ⟨f_unpacked, fd_unpacked, m_unpacked, k_unpacked, F_unpacked.binds (ps := ["row"]) (fun _ _ _ _ _ _ us hl => match us, hl with | [_], _ => rfl), ok_unpacked T D_walked F_unpacked⟩
  have D_answered : Def P w K mg base CX0 1 "answered" ["number", "data", "numbers"] spAnswered := ⟨f_answered, fd_answered, m_answered, k_answered, F_answered.binds (ps := ["number", "data", "numbers"]) (fun _ _ _ _ _ _ us hl => match us, hl with | [_, _, _], _ => rfl), ok_answered T F_answered⟩
  have D_refused : Def P w K mg base CX0 1 "refused" ["number"] spRefused := ⟨f_refused, fd_refused, m_refused, k_refused, F_refused.binds (ps := ["number"]) (fun _ _ _ _ _ _ us hl => match us, hl with | [_], _ => rfl), ok_refused F_refused⟩
  have DW_no_row : DefW P w K mg base 1 "no_row" ["kind", "place"] spNoRow := ⟨f_no_row, fd_no_row, m_no_row, k_no_row, F_no_row.binds (ps := ["kind", "place"]) (fun _ _ _ _ _ _ us hl => match us, hl with | [_, _], _ => rfl), ok_no_row T F_no_row⟩
  have D_pack : Def P w K mg base CX0 10 "pack" ["text"] spPack := ⟨f_pack, fd_pack, m_pack, k_pack, F_pack.binds (ps := ["text"]) (fun _ _ _ _ _ _ us hl => match us, hl with | [_], _ => rfl), ok_pack T D_refused D_packed D_answered F_pack⟩
  have D_unpack : Def P w K mg base CX0 10 "unpack" ["row"] spUnpack := ⟨f_unpack, fd_unpack, m_unpack, k_unpack, F_unpack.binds (ps := ["row"]) (fun _ _ _ _ _ _ us hl => match us, hl with | [_], _ => rfl), ok_unpack T DF DW_no_row D_refused D_unpacked D_answered F_unpack⟩
  have D_part : Def P w K mg base CX0 10 "part" ["row", "start", "many"] spPart := ⟨f_part, fd_part, m_part, k_part, F_part.binds (ps := ["row", "start", "many"]) (fun _ _ _ _ _ _ us hl => match us, hl with | [_, _, _], _ => rfl), ok_part T DF DW_no_row D_refused D_walked D_answered F_part⟩
  have D_judge : Def P w K mg base CX0 10 "judge" ["row"] spJudge := ⟨f_judge, fd_judge, m_judge, k_judge, F_judge.binds (ps := ["row"]) (fun _ _ _ _ _ _ us hl => match us, hl with | [_], _ => rfl), ok_judge T DF DW_no_row D_refused D_unpacked D_packed D_answered F_judge⟩
  have D_length : Def P w K mg base CX0 10 "length" ["row"] spLength := ⟨f_length, fd_length, m_length, k_length, F_length.binds (ps := ["row"]) (fun _ _ _ _ _ _ us hl => match us, hl with | [_], _ => rfl), ok_length T DF DW_no_row D_refused D_walked D_answered F_length⟩
  have D_parse : Def P w K mg base CX0 10 "parse" ["text"] spParseC := ⟨f_parse, fd_parse, m_parse, k_parse, F_parse.binds (ps := ["text"]) (fun _ _ _ _ _ _ us hl => match us, hl with | [_], _ => rfl), ok_parse T D_refused D_parse_of D_answered F_parse⟩
  have D_lengths : Def P w K mg base CX0 10 "lengths" ["often"] spLens := ⟨f_lengths, fd_lengths, m_lengths, k_lengths, F_lengths.binds (ps := ["often"]) (fun _ _ _ _ _ _ us hl => match us, hl with | [_], _ => rfl), ok_lengths T D_refused D_lengths_of D_answered F_lengths⟩
  have D_begin : Def P w K mg base CX0 10 "begin" ["states", "state"] (spBeginC CFd) := ⟨f_begin, fd_begin, m_begin, k_begin, F_begin.binds (ps := ["states", "state"]) (fun _ _ _ _ _ _ us hl => match us, hl with | [_, _], _ => rfl), ok_begin T D_refused M_Feed D_answered F_begin⟩
  have D_feed : Def P w K mg base CX0 10 "feed" ["states", "state", "data"] (spFeedC CFd) := ⟨f_feed, fd_feed, m_feed, k_feed, F_feed.binds (ps := ["states", "state", "data"]) (fun _ _ _ _ _ _ us hl => match us, hl with | [_, _, _], _ => rfl), ok_feed T TF D_refused M_feed D_answered F_feed⟩
  have D_end : Def P w K mg base CX0 10 "end" ["states", "state"] (spEndC CFd) := ⟨f_end, fd_end, m_end, k_end, F_end.binds (ps := ["states", "state"]) (fun _ _ _ _ _ _ us hl => match us, hl with | [_, _], _ => rfl), ok_end T TF D_refused M_finish D_answered F_end⟩
  have D_count_of : Def P w K mg base CX0 1 "count_of" ["call"] spCount := ⟨f_count_of, fd_count_of, m_count_of, k_count_of, F_count_of.binds (ps := ["call"]) (fun _ _ _ _ _ _ us hl => match us, hl with | [_], _ => rfl), ok_count_of T F_count_of⟩
  have D_of_state : Def P w K mg base CX0 11 "of_state" ["call", "states", "state", "row"] (spOfState CFd) := ⟨f_of_state, fd_of_state, m_of_state, k_of_state, F_of_state.binds (ps := ["call", "states", "state", "row"]) (fun _ _ _ _ _ _ us hl => match us, hl with | [_, _, _, _], _ => rfl), ok_of_state T D_begin D_feed D_end F_of_state⟩
  have D_of_row : Def P w K mg base CX0 11 "of_row" ["call", "own", "row"] spOfRow := ⟨f_of_row, fd_of_row, m_of_row, k_of_row, F_of_row.binds (ps := ["call", "own", "row"]) (fun _ _ _ _ _ _ us hl => match us, hl with | [_, _, _], _ => rfl), ok_of_row T D_pack D_unpack D_part D_judge D_length D_parse D_lengths F_of_row⟩
  exact ok_answers T D_count_of D_of_state D_of_row F_answers
end Gz
open PySem PySem.W PyProof.Rows
set_option maxRecDepth 100000 in
set_option maxHeartbeats 8000000 in
theorem PySem.Challenge.cw_onepacking_s01_answers_holds : PySem.Challenge.rw_onepacking_s01_answers.Holds := by
  w_on; k_headS; (case hw => exact ⟨[.list []], by decide +kernel, by decide +kernel⟩)
  k_fillS
  refine L2.walk_specK (r := PySem.Challenge.rw_onepacking_s01_answers) (k := 12) (CX := L2.CX0) (ps := ["calls"]) (sp := Gz.spAns) (by decide +kernel) rfl rfl ⟨rfl, by decide, by decide⟩ (fun w h Y => PySem.W.kIn_of Y) ?F ?S (fun _ _ _ _ z => z)
  case F =>
    intro w mg fa h Y KX G hmg
    refine' Gz.all_mk KX G hmg ?qMagic ?qT ?qFeed ?qBits ?qBroken ?qFault ?A_class_of ?A_further ?A_lowest ?A_told ?A_heard ?A_leaves_of ?A_row_behind ?A_rows_of ?A_lengths_of ?A_codewords ?A_is_whole ?A_spelled ?A_nearest ?A_stretch ?A_offers ?A_best_of ?A_first_steps ?A_parse_of ?A_low_first ?A_high_first ?A_in_bytes ?A_nought_bits ?A_length_bits ?A_counted ?A_words_of ?A_step_bits ?A_coded ?A_block_of ?A_beginning ?A_ending ?A_packed ?A_read_lengths ?A_check_codes ?A_table_of ?A_read_symbol ?A_read_value ?A_copy_match ?A_read_steps ?A_check_rest ?A_coded_text ?A_need ?A_check_beginning ?A_count_at ?A_check_count ?A_length_at ?A_check_ending ?A_text_at ?A_part_at ?A_walked ?A_unpacked ?A_answered ?A_refused ?A_no_row ?A_pack ?A_unpack ?A_part ?A_judge ?A_length ?A_parse ?A_lengths ?A_begin ?A_feed ?A_end ?A_count_of ?A_of_state ?A_of_row ?A_answers
    (case qMagic => refine' Gz.magic_mk KX G ?a ?l; (case a => k_is); (case l => k_is))
    case qT =>
      intro aM gM
      exact {
      MAGIC := gM.1
      magic := gM.2
      b_len := PySem.W.mg_none_of KX G (by k_is)
      b_max := PySem.W.mg_none_of KX G (by k_is)
      b_min := PySem.W.mg_none_of KX G (by k_is)
      b_sum := PySem.W.mg_none_of KX G (by k_is)
      b_sorted := PySem.W.mg_none_of KX G (by k_is)
      b_list := PySem.W.mg_none_of KX G (by k_is)
      b_tuple := PySem.W.mg_none_of KX G (by k_is)
      b_range := PySem.W.mg_none_of KX G (by k_is)
      b_reversed := PySem.W.mg_none_of KX G (by k_is)
      BLOCK := Gz.gv_int KX G (by k_is)
      LEAST := Gz.gv_int KX G (by k_is)
      MOST := Gz.gv_int KX G (by k_is)
      LETTERS := Gz.gv_int KX G (by k_is)
      SYMBOLS := Gz.gv_int KX G (by k_is)
      CLASSES := Gz.gv_int KX G (by k_is)
      LONGEST := Gz.gv_int KX G (by k_is)
      STORED := Gz.gv_int KX G (by k_is)
      CODED := Gz.gv_int KX G (by k_is)
      LETTER_COST := Gz.gv_int KX G (by k_is)
      MATCH_COST := Gz.gv_int KX G (by k_is)
      SCALE := Gz.gv_int KX G (by k_is)
      HIGH := Gz.gv_str KX G (by k_is)
      LOW := Gz.gv_str KX G (by k_is)
      ENDS := Gz.gv_int KX G (by k_is)
      WRONG := Gz.gv_int KX G (by k_is)
      COUNTS := Gz.gv_int KX G (by k_is)
      LEFT_OVER := Gz.gv_int KX G (by k_is)
      NO_BLOCK := Gz.gv_int KX G (by k_is)
      TEXT_MOST := Gz.gv_int KX G (by k_is)
      ROW_MOST := Gz.gv_int KX G (by k_is)
      OFTEN_MOST := Gz.gv_int KX G (by k_is)
      STATES := Gz.gv_int KX G (by k_is)
      OUT_OF_BOUNDS := Gz.gv_int KX G (by k_is)
      TOO_MANY := Gz.gv_int KX G (by k_is)
      NOT_BEGUN := Gz.gv_int KX G (by k_is)
      NO_ROW := Gz.gv_int KX G (by k_is)
      ANOTHER := Gz.gv_int KX G (by k_is)
      PACK := Gz.gv_int KX G (by k_is)
      UNPACK := Gz.gv_int KX G (by k_is)
      AT := Gz.gv_int KX G (by k_is)
      JUDGE := Gz.gv_int KX G (by k_is)
      LENGTH := Gz.gv_int KX G (by k_is)
      PARSE := Gz.gv_int KX G (by k_is)
      BEGIN := Gz.gv_int KX G (by k_is)
      FEED := Gz.gv_int KX G (by k_is)
      END := Gz.gv_int KX G (by k_is)
    }
    case qFeed =>
      refine' Gz.feed_mk KX G ?a ?pg ?hd ?po ?sa ?n1 ?n2 ?n3 ?mk ?kc ?m1 ?m2 ?m3 ?m4
      (case a => k_is); (case pg => k_is); (case hd => k_is); (case po => k_is); (case sa => k_is); (case n1 => k_is); (case n2 => k_is); (case n3 => k_is); (case mk => k_is); (case kc => k_is)
      (case m1 => refine' Gz.methAt_mk ?a ?i ?l ?c ?k; (case a => k_is); (case i => k_is); (case l => k_is); (case c => k_is); (case k => k_is))
      (case m2 => refine' Gz.methAt_mk ?a ?i ?l ?c ?k; (case a => k_is); (case i => k_is); (case l => k_is); (case c => k_is); (case k => k_is))
      (case m3 => refine' Gz.methAt_mk ?a ?i ?l ?c ?k; (case a => k_is); (case i => k_is); (case l => k_is); (case c => k_is); (case k => k_is))
      (case m4 => refine' Gz.methAt_mk ?a ?i ?l ?c ?k; (case a => k_is); (case i => k_is); (case l => k_is); (case c => k_is); (case k => k_is))
    case qBits =>
      refine' Gz.bits_mk KX G ?a ?pg ?hd ?po ?sa ?n1 ?n2 ?n3 ?mk ?kc ?m1 ?m2 ?m3
      (case a => k_is); (case pg => k_is); (case hd => k_is); (case po => k_is); (case sa => k_is); (case n1 => k_is); (case n2 => k_is); (case n3 => k_is); (case mk => k_is); (case kc => k_is)
      (case m1 => refine' Gz.methAt_mk ?a ?i ?l ?c ?k; (case a => k_is); (case i => k_is); (case l => k_is); (case c => k_is); (case k => k_is))
      (case m2 => refine' Gz.methAt_mk ?a ?i ?l ?c ?k; (case a => k_is); (case i => k_is); (case l => k_is); (case c => k_is); (case k => k_is))
      (case m3 => refine' Gz.methAt_mk ?a ?i ?l ?c ?k; (case a => k_is); (case i => k_is); (case l => k_is); (case c => k_is); (case k => k_is))
    case qBroken =>
      refine' Gz.broken_mk KX G ?a ?xF ?kF ?bF ?tF ?iF ?sF
      (case a => k_is); (case xF => k_exc); (case kF => k_is); (case bF => k_is); (case tF => k_is); (case iF => k_is); (case sF => first | rfl | k_is)
    case qFault =>
      refine' Gz.fault_mk KX G ?a ?ini ?over ?hd ?sa ?bF ?tF ?kF ?n1 ?n2 ?ga ?gg ?iF ?sF ?fi ?ft ?l ?c ?k
      (case a => k_is); (case ini => kx_is); (case over => kx_is); (case hd => k_is); (case sa => k_is); (case bF => k_is); (case tF => k_is); (case kF => k_is); (case n1 => k_is); (case n2 => k_is); (case ga => k_is); (case gg => k_is); (case iF => k_is); (case sF => first | rfl | k_is)
      (case fi => k_is); (case ft => k_is); (case l => k_is); (case c => k_is); (case k => k_is)
    (case A_class_of => refine' Gz.defAt_mk KX G ?a ?l ?c ?k; (case a => k_is); (case l => k_is); (case c => k_is); (case k => k_is))
    (case A_further => refine' Gz.defAt_mk KX G ?a ?l ?c ?k; (case a => k_is); (case l => k_is); (case c => k_is); (case k => k_is))
    (case A_lowest => refine' Gz.defAt_mk KX G ?a ?l ?c ?k; (case a => k_is); (case l => k_is); (case c => k_is); (case k => k_is))
    (case A_told => refine' Gz.defAt_mk KX G ?a ?l ?c ?k; (case a => k_is); (case l => k_is); (case c => k_is); (case k => k_is))
    (case A_heard => refine' Gz.defAt_mk KX G ?a ?l ?c ?k; (case a => k_is); (case l => k_is); (case c => k_is); (case k => k_is))
    (case A_leaves_of => refine' Gz.defAt_mk KX G ?a ?l ?c ?k; (case a => k_is); (case l => k_is); (case c => k_is); (case k => k_is))
    (case A_row_behind => refine' Gz.defAt_mk KX G ?a ?l ?c ?k; (case a => k_is); (case l => k_is); (case c => k_is); (case k => k_is))
    (case A_rows_of => refine' Gz.defAt_mk KX G ?a ?l ?c ?k; (case a => k_is); (case l => k_is); (case c => k_is); (case k => k_is))
    (case A_lengths_of => refine' Gz.defAt_mk KX G ?a ?l ?c ?k; (case a => k_is); (case l => k_is); (case c => k_is); (case k => k_is))
    (case A_codewords => refine' Gz.defAt_mk KX G ?a ?l ?c ?k; (case a => k_is); (case l => k_is); (case c => k_is); (case k => k_is))
    (case A_is_whole => refine' Gz.defAt_mk KX G ?a ?l ?c ?k; (case a => k_is); (case l => k_is); (case c => k_is); (case k => k_is))
    (case A_spelled => refine' Gz.defAt_mk KX G ?a ?l ?c ?k; (case a => k_is); (case l => k_is); (case c => k_is); (case k => k_is))
    (case A_nearest => refine' Gz.defAt_mk KX G ?a ?l ?c ?k; (case a => k_is); (case l => k_is); (case c => k_is); (case k => k_is))
    (case A_stretch => refine' Gz.defAt_mk KX G ?a ?l ?c ?k; (case a => k_is); (case l => k_is); (case c => k_is); (case k => k_is))
    (case A_offers => refine' Gz.defAt_mk KX G ?a ?l ?c ?k; (case a => k_is); (case l => k_is); (case c => k_is); (case k => k_is))
    (case A_best_of => refine' Gz.defAt_mk KX G ?a ?l ?c ?k; (case a => k_is); (case l => k_is); (case c => k_is); (case k => k_is))
    (case A_first_steps => refine' Gz.defAt_mk KX G ?a ?l ?c ?k; (case a => k_is); (case l => k_is); (case c => k_is); (case k => k_is))
    (case A_parse_of => refine' Gz.defAt_mk KX G ?a ?l ?c ?k; (case a => k_is); (case l => k_is); (case c => k_is); (case k => k_is))
    (case A_low_first => refine' Gz.defAt_mk KX G ?a ?l ?c ?k; (case a => k_is); (case l => k_is); (case c => k_is); (case k => k_is))
    (case A_high_first => refine' Gz.defAt_mk KX G ?a ?l ?c ?k; (case a => k_is); (case l => k_is); (case c => k_is); (case k => k_is))
    (case A_in_bytes => refine' Gz.defAt_mk KX G ?a ?l ?c ?k; (case a => k_is); (case l => k_is); (case c => k_is); (case k => k_is))
    (case A_nought_bits => refine' Gz.defAt_mk KX G ?a ?l ?c ?k; (case a => k_is); (case l => k_is); (case c => k_is); (case k => k_is))
    (case A_length_bits => refine' Gz.defAt_mk KX G ?a ?l ?c ?k; (case a => k_is); (case l => k_is); (case c => k_is); (case k => k_is))
    (case A_counted => refine' Gz.defAt_mk KX G ?a ?l ?c ?k; (case a => k_is); (case l => k_is); (case c => k_is); (case k => k_is))
    (case A_words_of => refine' Gz.defAt_mk KX G ?a ?l ?c ?k; (case a => k_is); (case l => k_is); (case c => k_is); (case k => k_is))
    (case A_step_bits => refine' Gz.defAt_mk KX G ?a ?l ?c ?k; (case a => k_is); (case l => k_is); (case c => k_is); (case k => k_is))
    (case A_coded => refine' Gz.defAt_mk KX G ?a ?l ?c ?k; (case a => k_is); (case l => k_is); (case c => k_is); (case k => k_is))
    (case A_block_of => refine' Gz.defAt_mk KX G ?a ?l ?c ?k; (case a => k_is); (case l => k_is); (case c => k_is); (case k => k_is))
    (case A_beginning => refine' Gz.defAt_mk KX G ?a ?l ?c ?k; (case a => k_is); (case l => k_is); (case c => k_is); (case k => k_is))
    (case A_ending => refine' Gz.defAt_mk KX G ?a ?l ?c ?k; (case a => k_is); (case l => k_is); (case c => k_is); (case k => k_is))
    (case A_packed => refine' Gz.defAt_mk KX G ?a ?l ?c ?k; (case a => k_is); (case l => k_is); (case c => k_is); (case k => k_is))
    (case A_read_lengths => refine' Gz.defAt_mk KX G ?a ?l ?c ?k; (case a => k_is); (case l => k_is); (case c => k_is); (case k => k_is))
    (case A_check_codes => refine' Gz.defAt_mk KX G ?a ?l ?c ?k; (case a => k_is); (case l => k_is); (case c => k_is); (case k => k_is))
    (case A_table_of => refine' Gz.defAt_mk KX G ?a ?l ?c ?k; (case a => k_is); (case l => k_is); (case c => k_is); (case k => k_is))
    (case A_read_symbol => refine' Gz.defAt_mk KX G ?a ?l ?c ?k; (case a => k_is); (case l => k_is); (case c => k_is); (case k => k_is))
    (case A_read_value => refine' Gz.defAt_mk KX G ?a ?l ?c ?k; (case a => k_is); (case l => k_is); (case c => k_is); (case k => k_is))
    (case A_copy_match => refine' Gz.defAt_mk KX G ?a ?l ?c ?k; (case a => k_is); (case l => k_is); (case c => k_is); (case k => k_is))
    (case A_read_steps => refine' Gz.defAt_mk KX G ?a ?l ?c ?k; (case a => k_is); (case l => k_is); (case c => k_is); (case k => k_is))
    (case A_check_rest => refine' Gz.defAt_mk KX G ?a ?l ?c ?k; (case a => k_is); (case l => k_is); (case c => k_is); (case k => k_is))
    (case A_coded_text => refine' Gz.defAt_mk KX G ?a ?l ?c ?k; (case a => k_is); (case l => k_is); (case c => k_is); (case k => k_is))
    (case A_need => refine' Gz.defAt_mk KX G ?a ?l ?c ?k; (case a => k_is); (case l => k_is); (case c => k_is); (case k => k_is))
    (case A_check_beginning => refine' Gz.defAt_mk KX G ?a ?l ?c ?k; (case a => k_is); (case l => k_is); (case c => k_is); (case k => k_is))
    (case A_count_at => refine' Gz.defAt_mk KX G ?a ?l ?c ?k; (case a => k_is); (case l => k_is); (case c => k_is); (case k => k_is))
    (case A_check_count => refine' Gz.defAt_mk KX G ?a ?l ?c ?k; (case a => k_is); (case l => k_is); (case c => k_is); (case k => k_is))
    (case A_length_at => refine' Gz.defAt_mk KX G ?a ?l ?c ?k; (case a => k_is); (case l => k_is); (case c => k_is); (case k => k_is))
    (case A_check_ending => refine' Gz.defAt_mk KX G ?a ?l ?c ?k; (case a => k_is); (case l => k_is); (case c => k_is); (case k => k_is))
    (case A_text_at => refine' Gz.defAt_mk KX G ?a ?l ?c ?k; (case a => k_is); (case l => k_is); (case c => k_is); (case k => k_is))
    (case A_part_at => refine' Gz.defAt_mk KX G ?a ?l ?c ?k; (case a => k_is); (case l => k_is); (case c => k_is); (case k => k_is))
    (case A_walked => refine' Gz.defAt_mk KX G ?a ?l ?c ?k; (case a => k_is); (case l => k_is); (case c => k_is); (case k => k_is))
    (case A_unpacked => refine' Gz.defAt_mk KX G ?a ?l ?c ?k; (case a => k_is); (case l => k_is); (case c => k_is); (case k => k_is))
    (case A_answered => refine' Gz.defAt_mk KX G ?a ?l ?c ?k; (case a => k_is); (case l => k_is); (case c => k_is); (case k => k_is))
    (case A_refused => refine' Gz.defAt_mk KX G ?a ?l ?c ?k; (case a => k_is); (case l => k_is); (case c => k_is); (case k => k_is))
    (case A_no_row => refine' Gz.defAt_mk KX G ?a ?l ?c ?k; (case a => k_is); (case l => k_is); (case c => k_is); (case k => k_is))
    (case A_pack => refine' Gz.defAt_mk KX G ?a ?l ?c ?k; (case a => k_is); (case l => k_is); (case c => k_is); (case k => k_is))
    (case A_unpack => refine' Gz.defAt_mk KX G ?a ?l ?c ?k; (case a => k_is); (case l => k_is); (case c => k_is); (case k => k_is))
    (case A_part => refine' Gz.defAt_mk KX G ?a ?l ?c ?k; (case a => k_is); (case l => k_is); (case c => k_is); (case k => k_is))
    (case A_judge => refine' Gz.defAt_mk KX G ?a ?l ?c ?k; (case a => k_is); (case l => k_is); (case c => k_is); (case k => k_is))
    (case A_length => refine' Gz.defAt_mk KX G ?a ?l ?c ?k; (case a => k_is); (case l => k_is); (case c => k_is); (case k => k_is))
    (case A_parse => refine' Gz.defAt_mk KX G ?a ?l ?c ?k; (case a => k_is); (case l => k_is); (case c => k_is); (case k => k_is))
    (case A_lengths => refine' Gz.defAt_mk KX G ?a ?l ?c ?k; (case a => k_is); (case l => k_is); (case c => k_is); (case k => k_is))
    (case A_begin => refine' Gz.defAt_mk KX G ?a ?l ?c ?k; (case a => k_is); (case l => k_is); (case c => k_is); (case k => k_is))
    (case A_feed => refine' Gz.defAt_mk KX G ?a ?l ?c ?k; (case a => k_is); (case l => k_is); (case c => k_is); (case k => k_is))
    (case A_end => refine' Gz.defAt_mk KX G ?a ?l ?c ?k; (case a => k_is); (case l => k_is); (case c => k_is); (case k => k_is))
    (case A_count_of => refine' Gz.defAt_mk KX G ?a ?l ?c ?k; (case a => k_is); (case l => k_is); (case c => k_is); (case k => k_is))
    (case A_of_state => refine' Gz.defAt_mk KX G ?a ?l ?c ?k; (case a => k_is); (case l => k_is); (case c => k_is); (case k => k_is))
    (case A_of_row => refine' Gz.defAt_mk KX G ?a ?l ?c ?k; (case a => k_is); (case l => k_is); (case c => k_is); (case k => k_is))
    (case A_answers => refine' Gz.defAt_mk KX G ?a ?l ?c ?k; (case a => k_is); (case l => k_is); (case c => k_is); (case k => k_is))
  case S =>
    intro K H xs a hO hwi hask hx
    cases hx with
    | cons h1 h2 =>
      cases h2
      cases h1 with
      | lst hs ha =>
        have e := L2.ints_dw a.1 _ ha
        subst e
        have q : ((PySem.W.Codec.inLen 0 16000 a.1 && a.1.all (PySem.W.Codec.inInt 0 18446744073709551615)) && true) = true := hwi
        rw [Bool.and_eq_true, Bool.and_eq_true] at q
        exact ⟨_, a.1, rfl, hs, (PySem.W.Codec.inNat_iff.mp q.1.1).2, hask, fun H' p hp => .lst (L2.SqL.of hp) (L2.dw_ints _)⟩
