import PyProof.Rows.All
import Wide.All
import OpenK.AllK
import Wide.FinOn
import HandS.ForMost
import HandS.Conv
import HandS.Codes
import HandS.SortInts
import HandS.Zip0
import PyProof.Draws
import PyProof.EnumMake
import PyProof.TupleOfSeq
import PySem.Challenge.RW_bitlead_k06_whole_bit_by_bit
set_option Elab.async false
set_option linter.all false
set_option maxRecDepth 100000
set_option maxHeartbeats 4000000
/-! ## BlMath -/
/-! The plain law: bits of numbers, leadings as lists of ints; no program in sight. -/
namespace BL
/-! ### bits -/
def bitB (e : Int) (w : Nat) : Bool := if 0 ≤ e then w.testBit e.toNat else decide (e = -2)
/-- the value of bit_led -/
def bitN (e : Int) (w : Nat) : Nat := if 0 ≤ e then (w >>> e.toNat) &&& 1 else if e = -2 then 1 else 0
theorem bitN_eq (e : Int) (w : Nat) : bitN e w = (bitB e w).toNat := by
  unfold bitN bitB
  split
  · rw [Nat.testBit, Nat.and_comm]
    have h : 1 &&& (w >>> e.toNat) = 0 ∨ 1 &&& (w >>> e.toNat) = 1 := by
      rw [Nat.one_and_eq_mod_two]; omega
    rcases h with h | h <;> rw [h] <;> rfl
  · split
    · rename_i h; subst h; rfl
    · rename_i h; rw [decide_eq_false h]; rfl
theorem bitN_le (e : Int) (w : Nat) : bitN e w ≤ 1 := by
  rw [bitN_eq]; cases bitB e w <;> decide
theorem testBit_toNat_shift (b : Bool) (i k : Nat) : (b.toNat <<< i).testBit k = (b && decide (k = i)) := by
  rw [Nat.testBit_shiftLeft]
  cases b with
  | false => simp
  | true =>
    show (decide (i ≤ k) && Nat.testBit 1 (k - i)) = (true && decide (k = i))
    rw [show (1 : Nat) = 2 ^ 0 from rfl, Nat.testBit_two_pow, Bool.true_and, Bool.eq_iff_iff, Bool.and_eq_true, decide_eq_true_iff, decide_eq_true_iff, decide_eq_true_iff]
    omega
theorem testBit_oneShl (i k : Nat) : (1 <<< i).testBit k = decide (k = i) := by
  have := testBit_toNat_shift true i k
  rw [Bool.true_and] at this
  exact this
/-! ### led -/
def at0 (ls : List Int) (w i : Nat) : Nat := match ls[i]? with
  | some e => bitN e w
  | none => 0
def ledTo (ls : List Int) (w : Nat) : Nat → Nat
  | 0 => 0
  | i + 1 => ledTo ls w i ||| (at0 ls w i <<< i)
def ledN (ls : List Int) (w : Nat) : Nat := ledTo ls w ls.length
def bitAt (ls : List Int) (w k : Nat) : Bool := match ls[k]? with
  | some e => bitB e w
  | none => false
theorem at0_eq (ls : List Int) (w i : Nat) : at0 ls w i = (bitAt ls w i).toNat := by
  unfold at0 bitAt
  split
  · exact bitN_eq _ _
  · rfl
theorem testBit_ledTo (ls : List Int) (w k : Nat) : ∀ i, (ledTo ls w i).testBit k = (decide (k < i) && bitAt ls w k)
  | 0 => by simp [ledTo]
  | i + 1 => by
    unfold ledTo
    rw [Nat.testBit_or, testBit_ledTo ls w k i, at0_eq, testBit_toNat_shift]
    by_cases h : k = i
    · subst h; simp
    · have e : decide (k = i) = false := decide_eq_false h
      rw [e, Bool.and_false, Bool.or_false]
      congr 1
      rw [decide_eq_decide]; omega
theorem testBit_led (ls : List Int) (w k : Nat) : (ledN ls w).testBit k = bitAt ls w k := by
  unfold ledN
  rw [testBit_ledTo]
  by_cases h : k < ls.length
  · rw [decide_eq_true h, Bool.true_and]
  · rw [decide_eq_false h, Bool.false_and]
    unfold bitAt
    rw [List.getElem?_eq_none (by omega)]
theorem lt_two_pow_of {x n : Nat} (h : ∀ k, n ≤ k → x.testBit k = false) : x < 2 ^ n :=
  Nat.lt_pow_two_of_testBit x h
theorem ledN_lt (ls : List Int) (w : Nat) : ledN ls w < 2 ^ ls.length := by
  refine lt_two_pow_of fun k h => ?_
  rw [testBit_led]
  unfold bitAt
  rw [List.getElem?_eq_none h]
/-! ### masks of places -/
def orTo (m : Nat) : List Nat → Nat
  | [] => m
  | p :: r => orTo (m ||| (1 <<< p)) r
def orAll (ps : List Nat) : Nat := orTo 0 ps
theorem testBit_orTo (k : Nat) : ∀ (ps : List Nat) (m : Nat), (orTo m ps).testBit k = (m.testBit k || decide (k ∈ ps))
  | [], m => by simp [orTo]
  | p :: r, m => by
    unfold orTo
    rw [testBit_orTo k r, Nat.testBit_or, testBit_oneShl, Bool.or_assoc]
    congr 1
    rw [Bool.eq_iff_iff]
    simp
theorem testBit_orAll (ps : List Nat) (k : Nat) : (orAll ps).testBit k = decide (k ∈ ps) := by
  unfold orAll
  rw [testBit_orTo]
  simp
theorem orTo_append (p : Nat) : ∀ (ps : List Nat) (m : Nat), orTo m (ps ++ [p]) = orTo m ps ||| (1 <<< p)
  | [], _ => rfl
  | _ :: r, _ => orTo_append p r _
theorem orAll_append (ps : List Nat) (p : Nat) : orAll (ps ++ [p]) = orAll ps ||| (1 <<< p) := orTo_append p ps 0
theorem orAll_lt {ps : List Nat} {n : Nat} (h : ∀ p ∈ ps, p < n) : orAll ps < 2 ^ n := by
  refine lt_two_pow_of fun k hk => ?_
  rw [testBit_orAll, decide_eq_false_iff_not]
  intro hm
  have := h k hm
  omega
/-- the list of _law_places_of's comprehension -/
def plList (ls : List Int) (p : Int) (n : Nat) : List Nat := (List.range n).filter fun k => decide (ls[k]? = some p)
def plOf (ls : List Int) (p : Int) : Nat := orAll (plList ls p ls.length)
theorem testBit_plOf (ls : List Int) (p : Int) (k : Nat) : (plOf ls p).testBit k = decide (ls[k]? = some p) := by
  unfold plOf plList
  rw [testBit_orAll, decide_eq_decide, List.mem_filter, List.mem_range, decide_eq_true_iff]
  constructor
  · exact fun h => h.2
  · intro h
    refine ⟨?_, h⟩
    obtain ⟨h1, _⟩ := List.getElem?_eq_some_iff.mp h
    exact h1
theorem plList_succ (ls : List Int) (p e : Int) (i : Nat) (h : ls[i]? = some e) : plList ls p (i + 1) = plList ls p i ++ (if e = p then [i] else []) := by
  unfold plList
  rw [List.range_succ, List.filter_append]
  congr 1
  by_cases he : e = p
  · subst he; simp [h]
  · rw [if_neg he]
    simp [h, he]
theorem plList_len (ls : List Int) (p : Int) (n : Nat) : (plList ls p n).length ≤ n := by
  unfold plList
  refine Nat.le_trans (List.length_filter_le _ _) ?_
  rw [List.length_range]; exact Nat.le_refl _
theorem plList_lt (ls : List Int) (p : Int) (n : Nat) : ∀ k ∈ plList ls p n, k < n := fun k hk => by
  unfold plList at hk
  exact List.mem_range.mp (List.mem_filter.mp hk).1
/-- kept_by's list -/
def kpList (ls : List Int) : List Nat := (ls.filter fun e => decide (0 ≤ e)).map Int.toNat
def kept (ls : List Int) : Nat := orAll (kpList ls)
theorem mem_kpList {ls : List Int} {k : Nat} : k ∈ kpList ls ↔ (k : Int) ∈ ls := by
  unfold kpList
  rw [List.mem_map]
  constructor
  · rintro ⟨e, he, rfl⟩
    rw [List.mem_filter, decide_eq_true_iff] at he
    rw [Int.toNat_of_nonneg he.2]
    exact he.1
  · intro h
    exact ⟨k, List.mem_filter.mpr ⟨h, decide_eq_true (by omega)⟩, by omega⟩
theorem testBit_kept (ls : List Int) (k : Nat) : (kept ls).testBit k = decide ((k : Int) ∈ ls) := by
  unfold kept
  rw [testBit_orAll, decide_eq_decide]
  exact mem_kpList
theorem kept_lt {ls : List Int} {n : Nat} (h : ∀ e ∈ ls, e < (n : Int)) : kept ls < 2 ^ n := by
  refine orAll_lt fun p hp => ?_
  have := h _ (mem_kpList.mp hp)
  omega
/-! ### places_in -/
def plTo (m i : Nat) : List Nat := (List.range i).filter fun k => m.testBit k
def places (m : Nat) : List Nat := plTo m 64
theorem plTo_succ (m i : Nat) : plTo m (i + 1) = plTo m i ++ (if m.testBit i = true then [i] else []) := by
  unfold plTo
  rw [List.range_succ, List.filter_append]
  congr 1
  cases h : m.testBit i <;> simp [h]
theorem plTo_len (m i : Nat) : (plTo m i).length ≤ i := by
  unfold plTo
  refine Nat.le_trans (List.length_filter_le _ _) ?_
  rw [List.length_range]; exact Nat.le_refl _
theorem plTo_done {m : Nat} : ∀ {i : Nat}, m >>> i = 0 → ∀ j, plTo m (i + j) = plTo m i
  | i, h, 0 => rfl
  | i, h, j + 1 => by
    rw [show i + (j + 1) = (i + j) + 1 by omega, plTo_succ, plTo_done h j]
    have e : m.testBit (i + j) = false := by
      have := Nat.testBit_shiftRight m (i := i) (j := j)
      rw [← this, h]; simp
    rw [e]; simp
theorem places_done {m i : Nat} (h : m >>> i = 0) (hi : i ≤ 64) : plTo m i = places m := by
  have := plTo_done h (64 - i)
  rw [show i + (64 - i) = 64 by omega] at this
  exact this.symm
theorem shift_zero {m i : Nat} (hm : m < 2 ^ 64) (h : 64 ≤ i) : m >>> i = 0 := by
  rw [Nat.shiftRight_eq_div_pow]
  refine Nat.div_eq_of_lt (Nat.lt_of_lt_of_le hm ?_)
  exact Nat.pow_le_pow_right (by decide) h
theorem shift_succ (m i : Nat) : (m >>> i) >>> 1 = m >>> (i + 1) := (Nat.shiftRight_add m i 1).symm
theorem shift_bit (m i : Nat) : (m >>> i) &&& 1 = (m.testBit i).toNat := by
  have := bitN_eq (i : Int) m
  unfold bitN bitB at this
  rw [if_pos (by omega), if_pos (by omega), Int.toNat_natCast] at this
  exact this
theorem mem_places {m k : Nat} (hm : m < 2 ^ 64) : k ∈ places m ↔ m.testBit k = true := by
  unfold places plTo
  rw [List.mem_filter, List.mem_range]
  constructor
  · exact fun h => h.2
  · intro h
    refine ⟨?_, h⟩
    refine Nat.lt_of_not_le fun q => ?_
    rw [Nat.testBit_lt_two_pow (Nat.lt_of_lt_of_le hm (Nat.pow_le_pow_right (by decide) q))] at h
    cases h
/-! ### full -/
def full (n : Nat) : Nat := 2 ^ n - 1
theorem testBit_full (n k : Nat) : (full n).testBit k = decide (k < n) := Nat.testBit_two_pow_sub_one n k
theorem full_lt (n : Nat) : full n < 2 ^ n := by
  have := Nat.two_pow_pos n
  unfold full; omega
/-! ### leadings -/
structure Lead (n : Nat) (ls : List Int) : Prop where
  len : ls.length = n
  lo : ∀ e ∈ ls, -2 ≤ e
  hi : ∀ e ∈ ls, e < (n : Int)
theorem Lead.at {n : Nat} {ls : List Int} (h : Lead n ls) {k : Nat} (hk : k < n) : ∃ e, ls[k]? = some e ∧ -2 ≤ e ∧ e < (n : Int) := by
  have h1 : k < ls.length := by rw [h.len]; exact hk
  exact ⟨ls[k], List.getElem?_eq_getElem h1, h.lo _ (List.getElem_mem h1), h.hi _ (List.getElem_mem h1)⟩
theorem bitAt_some {ls : List Int} {w k : Nat} {e : Int} (h : ls[k]? = some e) : bitAt ls w k = bitB e w := by
  unfold bitAt; rw [h]
theorem bitAt_none {ls : List Int} {w k : Nat} (h : ls[k]? = none) : bitAt ls w k = false := by
  unfold bitAt; rw [h]
/-- one bit of the word changed -/
theorem changed_eq {n : Nat} {ls : List Int} (h : Lead n ls) (w i : Nat) : ledN ls (w ^^^ (1 <<< i)) ^^^ ledN ls w = plOf ls (i : Int) := by
  apply Nat.eq_of_testBit_eq
  intro k
  rw [Nat.testBit_xor, testBit_led, testBit_led, testBit_plOf]
  cases hk : ls[k]? with
  | none => rw [bitAt_none hk, bitAt_none hk]; simp
  | some e =>
    rw [bitAt_some hk, bitAt_some hk]
    unfold bitB
    by_cases he : 0 ≤ e
    · rw [if_pos he, if_pos he, Nat.testBit_xor, testBit_oneShl]
      have e1 : decide (some e = some (i : Int)) = decide (e.toNat = i) := by
        rw [decide_eq_decide]
        constructor
        · intro q
          have := Option.some.inj q
          omega
        · intro q
          have : e = (i : Int) := by omega
          rw [this]
      rw [e1]
      cases w.testBit e.toNat <;> cases decide (e.toNat = i) <;> rfl
    · rw [if_neg he, if_neg he]
      have e1 : decide (some e = some (i : Int)) = false := by
        rw [decide_eq_false_iff_not]
        intro q
        have := Option.some.inj q
        omega
      rw [e1, Bool.xor_self]
theorem plOf_zero {ls : List Int} {p : Int} : plOf ls p = 0 ↔ p ∉ ls := by
  constructor
  · intro h hm
    obtain ⟨k, hk, e⟩ := List.getElem_of_mem hm
    have := testBit_plOf ls p k
    rw [h, List.getElem?_eq_getElem hk, e] at this
    simp at this
  · intro h
    apply Nat.eq_of_testBit_eq
    intro k
    rw [testBit_plOf, Nat.zero_testBit, decide_eq_false_iff_not]
    intro q
    exact h (List.mem_of_getElem? q)
theorem zero_iff {n : Nat} {ls : List Int} (h : Lead n ls) (hn : n ≤ 64) (i : Nat) : plOf ls (i : Int) = 0 ↔ i ∉ places (kept ls) := by
  have hl : kept ls < 2 ^ 64 := Nat.lt_of_lt_of_le (kept_lt h.hi) (Nat.pow_le_pow_right (by decide) hn)
  rw [plOf_zero, mem_places hl, testBit_kept, decide_eq_true_iff]
def seenTo (ls : List Int) : Nat → Nat
  | 0 => 0
  | i + 1 => seenTo ls i ||| plOf ls (i : Int)
theorem testBit_seen (ls : List Int) (k : Nat) : ∀ i, (seenTo ls i).testBit k = (match ls[k]? with | some e => decide (0 ≤ e ∧ e < (i : Int)) | none => false)
  | 0 => by
    show Nat.testBit 0 k = _
    rw [Nat.zero_testBit]
    split
    · rename_i e _
      symm
      rw [decide_eq_false_iff_not]; omega
    · rfl
  | i + 1 => by
    unfold seenTo
    rw [Nat.testBit_or, testBit_seen ls k i, testBit_plOf]
    cases hk : ls[k]? with
    | none => simp
    | some e =>
      show (decide (0 ≤ e ∧ e < (i : Int)) || decide (some e = some (i : Int))) = decide (0 ≤ e ∧ e < ((i + 1 : Nat) : Int))
      rw [Bool.eq_iff_iff, Bool.or_eq_true, decide_eq_true_iff, decide_eq_true_iff, decide_eq_true_iff, Option.some.injEq]
      omega
theorem seen_and (ls : List Int) (i : Nat) : seenTo ls i &&& plOf ls (i : Int) = 0 := by
  apply Nat.eq_of_testBit_eq
  intro k
  rw [Nat.testBit_and, testBit_seen, testBit_plOf, Nat.zero_testBit]
  cases hk : ls[k]? with
  | none => rfl
  | some e =>
    show (decide (0 ≤ e ∧ e < (i : Int)) && decide (some e = some (i : Int))) = false
    rw [Bool.eq_false_iff]
    intro q
    rw [Bool.and_eq_true, decide_eq_true_iff, decide_eq_true_iff, Option.some.injEq] at q
    omega
theorem seen_end {n : Nat} {ls : List Int} (h : Lead n ls) : seenTo ls n = full n ^^^ plOf ls (-1) ^^^ plOf ls (-2) := by
  apply Nat.eq_of_testBit_eq
  intro k
  rw [Nat.testBit_xor, Nat.testBit_xor, testBit_seen, testBit_plOf, testBit_plOf, testBit_full]
  by_cases hk : k < n
  · obtain ⟨e, he, h1, h2⟩ := h.at hk
    rw [he, decide_eq_true hk]
    show decide (0 ≤ e ∧ e < (n : Int)) = ((true ^^ decide (some e = some (-1))) ^^ decide (some e = some (-2)))
    by_cases c1 : e = -1
    · subst c1; simp
    · by_cases c2 : e = -2
      · subst c2; simp
      · have e1 : decide (some e = some (-1 : Int)) = false := by simpa using c1
        have e2 : decide (some e = some (-2 : Int)) = false := by simpa using c2
        rw [e1, e2]
        simp only [Bool.xor_false]
        rw [decide_eq_true_iff]
        omega
  · have e : ls[k]? = none := List.getElem?_eq_none (by rw [h.len]; omega)
    rw [e, decide_eq_false hk]
    simp
theorem halves_and {n : Nat} {ls : List Int} (h : Lead n ls) (w : Nat) : ledN ls w &&& ledN ls (full n ^^^ w) = plOf ls (-2) := by
  apply Nat.eq_of_testBit_eq
  intro k
  rw [Nat.testBit_and, testBit_led, testBit_led, testBit_plOf]
  cases hk : ls[k]? with
  | none => rw [bitAt_none hk]; simp
  | some e =>
    rw [bitAt_some hk, bitAt_some hk]
    unfold bitB
    by_cases he : 0 ≤ e
    · have hlt : e.toNat < n := by
        have := h.hi e (List.mem_of_getElem? hk)
        omega
      have e1 : decide (some e = some (-2 : Int)) = false := by
        rw [decide_eq_false_iff_not]; intro q
        have := Option.some.inj q
        omega
      rw [if_pos he, if_pos he, Nat.testBit_xor, testBit_full, decide_eq_true hlt, e1]
      cases w.testBit e.toNat <;> rfl
    · rw [if_neg he, if_neg he, Bool.and_self, decide_eq_decide, Option.some.injEq]
theorem halves_or {n : Nat} {ls : List Int} (h : Lead n ls) (w : Nat) : ledN ls w ||| ledN ls (full n ^^^ w) = full n ^^^ plOf ls (-1) := by
  apply Nat.eq_of_testBit_eq
  intro k
  rw [Nat.testBit_or, Nat.testBit_xor, testBit_led, testBit_led, testBit_plOf, testBit_full]
  cases hk : ls[k]? with
  | none =>
    have hkn : ¬ k < n := by
      rw [← h.len]
      have := List.getElem?_eq_none_iff.mp hk
      omega
    rw [bitAt_none hk, bitAt_none hk, decide_eq_false hkn]; simp
  | some e =>
    have hkn : k < n := by
      rw [← h.len]
      exact (List.getElem?_eq_some_iff.mp hk).1
    rw [bitAt_some hk, bitAt_some hk, decide_eq_true hkn]
    unfold bitB
    have hlo := h.lo e (List.mem_of_getElem? hk)
    by_cases he : 0 ≤ e
    · have hlt : e.toNat < n := by
        have := h.hi e (List.mem_of_getElem? hk)
        omega
      have e1 : decide (some e = some (-1 : Int)) = false := by
        rw [decide_eq_false_iff_not]; intro q
        have := Option.some.inj q
        omega
      rw [if_pos he, if_pos he, Nat.testBit_xor, testBit_full, decide_eq_true hlt, e1]
      cases w.testBit e.toNat <;> rfl
    · rw [if_neg he, if_neg he, Bool.or_self]
      by_cases c : e = -2
      · subst c; rfl
      · have c1 : e = -1 := by omega
        subst c1; rfl
/-! ### even ones -/
def ups (n : Nat) : List Int := (List.range n).map fun (k : Nat) => (k : Int)
theorem ups_len (n : Nat) : (ups n).length = n := by unfold ups; rw [List.length_map, List.length_range]
theorem mem_ups {n : Nat} {e : Int} : e ∈ ups n ↔ 0 ≤ e ∧ e < (n : Int) := by
  unfold ups
  rw [List.mem_map]
  constructor
  · rintro ⟨k, hk, rfl⟩
    rw [List.mem_range] at hk
    omega
  · intro h
    exact ⟨e.toNat, List.mem_range.mpr (by omega), by omega⟩
theorem ups_sorted (n : Nat) : (ups n).Pairwise (· ≤ ·) := by
  unfold ups
  rw [List.pairwise_map]
  exact List.Pairwise.imp (fun h => by omega) List.pairwise_lt_range
theorem sorted_uniq : ∀ {xs ys : List Int}, xs.Perm ys → xs.Pairwise (· ≤ ·) → ys.Pairwise (· ≤ ·) → xs = ys
  | [], ys, p, _, _ => by rw [List.nil_perm.mp p]
  | x :: xs, [], p, _, _ => by cases List.perm_nil.mp p
  | x :: xs, y :: ys, p, hx, hy => by
    have hx' := List.pairwise_cons.mp hx
    have hy' := List.pairwise_cons.mp hy
    have h1 : x ≤ y := by
      rcases List.mem_cons.mp (p.symm.mem_iff.mp (List.mem_cons_self (a := y))) with q | q
      · omega
      · exact hx'.1 _ q
    have h2 : y ≤ x := by
      rcases List.mem_cons.mp (p.mem_iff.mp (List.mem_cons_self (a := x))) with q | q
      · omega
      · exact hy'.1 _ q
    have e : x = y := by omega
    subst e
    rw [sorted_uniq (List.perm_cons_self_iff.mp p) hx'.2 hy'.2]
where
  List.perm_cons_self_iff {a : Int} {l m : List Int} : (a :: l).Perm (a :: m) ↔ l.Perm m := List.perm_cons a
theorem even_iff {ls ns : List Int} {n : Nat} (p : ns.Perm ls) (s : ns.Pairwise (· ≤ ·)) : ns = ups n ↔ ls.Perm (ups n) := by
  constructor
  · intro e
    rw [← e]; exact p.symm
  · intro q
    exact sorted_uniq (p.trans q) s (ups_sorted n)
theorem even_lead {n : Nat} {ls : List Int} (p : ls.Perm (ups n)) : Lead n ls ∧ ∀ e ∈ ls, 0 ≤ e := by
  refine ⟨⟨by rw [p.length_eq, ups_len], fun e he => ?_, fun e he => ?_⟩, fun e he => ?_⟩ <;>
  · have := mem_ups.mp (p.mem_iff.mp he)
    omega
theorem even_nodup {n : Nat} {ls : List Int} (p : ls.Perm (ups n)) : ls.Nodup := by
  refine p.symm.nodup ?_
  unfold ups
  exact List.Pairwise.map _ (fun a b h q => h (by omega)) List.nodup_range
theorem count_range (f : Nat → Bool) (n : Nat) : ((List.range n).filter f).length = (List.range n).countP f := List.countP_eq_length_filter.symm
theorem countP_shift {m n : Nat} (h : m < 2 ^ n) (hn : n ≤ 64) : (places m).length = (List.range n).countP fun k => m.testBit k := by
  have e : plTo m n = places m := places_done (by rw [Nat.shiftRight_eq_div_pow]; exact Nat.div_eq_of_lt h) hn
  rw [← e]
  unfold plTo
  exact count_range _ _
theorem bits_led {n : Nat} {ls : List Int} (p : ls.Perm (ups n)) (hn : n ≤ 64) {w : Nat} (hw : w < 2 ^ n) : (places (ledN ls w)).length = (places w).length := by
  have hl : ls.length = n := by rw [p.length_eq, ups_len]
  have h1 : ledN ls w < 2 ^ n := by
    have := ledN_lt ls w
    rw [hl] at this; exact this
  rw [countP_shift h1 hn, countP_shift hw hn]
  have e1 : (List.range n).countP (fun k => (ledN ls w).testBit k) = ls.countP (fun e => w.testBit e.toNat) := by
    have e2 : ls = (List.range n).map fun k => ls.getD k 0 := by
      apply List.ext_getElem?
      intro k
      rw [List.getElem?_map]
      by_cases hk : k < n
      · rw [List.getElem?_range hk]
        rw [Option.map_some, List.getD_eq_getElem?_getD, List.getElem?_eq_getElem (by omega)]
        rfl
      · rw [List.getElem?_eq_none (by omega), List.getElem?_eq_none (by rw [List.length_range]; omega)]
        rfl
    conv => rhs; rw [e2]
    rw [List.countP_map]
    refine List.countP_congr fun k hk => ?_
    rw [List.mem_range] at hk
    have hk' : k < ls.length := by omega
    have e3 := List.getElem?_eq_getElem hk'
    rw [testBit_led, bitAt_some e3]
    have h0 : 0 ≤ ls[k] := (even_lead p).2 _ (List.getElem_mem hk')
    unfold bitB
    rw [if_pos h0]
    show _ ↔ w.testBit (ls.getD k 0).toNat = true
    rw [List.getD_eq_getElem?_getD, e3]
    rfl
  have e4 : ls.countP (fun e => w.testBit e.toNat) = (ups n).countP (fun e => w.testBit e.toNat) := p.countP_eq _
  rw [e1, e4]
  unfold ups
  rw [List.countP_map]
  refine List.countP_congr fun k _ => ?_
  show w.testBit ((k : Int).toNat) = true ↔ _
  rw [Int.toNat_natCast]
theorem back_led {n : Nat} {ls bs : List Int} (p : ls.Perm (ups n)) (hb : bs.length = n) (h : ∀ (i : Nat) (e : Int), ls[i]? = some e → bs[e.toNat]? = some (i : Int)) {w : Nat} (hw : w < 2 ^ n) : ledN bs (ledN ls w) = w := by
  apply Nat.eq_of_testBit_eq
  intro k
  rw [testBit_led]
  by_cases hk : k < n
  · have hm : (k : Int) ∈ ls := p.mem_iff.mpr (mem_ups.mpr (by omega))
    obtain ⟨i, hi, e⟩ := List.getElem_of_mem hm
    have e1 : ls[i]? = some (k : Int) := by rw [List.getElem?_eq_getElem hi, e]
    have e2 := h i _ e1
    rw [Int.toNat_natCast] at e2
    rw [bitAt_some e2]
    unfold bitB
    rw [if_pos (by omega), Int.toNat_natCast, testBit_led, bitAt_some e1]
    unfold bitB
    rw [if_pos (by omega), Int.toNat_natCast]
  · rw [bitAt_none (List.getElem?_eq_none (by omega))]
    symm
    exact Nat.testBit_lt_two_pow (Nat.lt_of_lt_of_le hw (Nat.pow_le_pow_right (by decide) (by omega)))
/-- turned_back's list, place by place -/
def bckTo (ls : List Int) : Nat → List Int
  | 0 => List.replicate ls.length 0
  | i + 1 => match ls[i]? with
    | some e => (bckTo ls i).set e.toNat (i : Int)
    | none => bckTo ls i
theorem bckTo_len (ls : List Int) : ∀ i, (bckTo ls i).length = ls.length
  | 0 => by unfold bckTo; rw [List.length_replicate]
  | i + 1 => by
    unfold bckTo
    split
    · rw [List.length_set, bckTo_len ls i]
    · exact bckTo_len ls i
theorem bckTo_at {n : Nat} {ls : List Int} (p : ls.Perm (ups n)) : ∀ (j i : Nat) (e : Int), i < j → ls[i]? = some e → (bckTo ls j)[e.toNat]? = some (i : Int)
  | 0, i, e, h, _ => by omega
  | j + 1, i, e, h, hi => by
    have L := (even_lead p).1
    have N := (even_lead p).2
    have he := N e (List.mem_of_getElem? hi)
    have he2 := L.hi e (List.mem_of_getElem? hi)
    unfold bckTo
    cases hj : ls[j]? with
    | none =>
      have hj' := List.getElem?_eq_none_iff.mp hj
      have hi' := (List.getElem?_eq_some_iff.mp hi).1
      exact bckTo_at p j i e (by omega) hi
    | some d =>
      show ((bckTo ls j).set d.toNat (j : Int))[e.toNat]? = some (i : Int)
      by_cases hij : i = j
      · subst hij
        rw [hi] at hj
        cases hj
        rw [List.getElem?_set_self (by rw [bckTo_len, L.len]; omega)]
      · have hd := N d (List.mem_of_getElem? hj)
        have hne : d.toNat ≠ e.toNat := by
          intro q
          have q' : d = e := by omega
          subst q'
          have nd := even_nodup p
          obtain ⟨a1, a2⟩ := List.getElem?_eq_some_iff.mp hi
          obtain ⟨b1, b2⟩ := List.getElem?_eq_some_iff.mp hj
          exact hij ((List.getElem_inj nd).mp (a2.trans b2.symm))
        rw [List.getElem?_set_ne hne]
        exact bckTo_at p j i e (by omega) hi
theorem back_ok {n : Nat} {ls : List Int} (p : ls.Perm (ups n)) {w : Nat} (hw : w < 2 ^ n) : ledN (bckTo ls ls.length) (ledN ls w) = w := by
  have hl : ls.length = n := by rw [p.length_eq, ups_len]
  refine back_led p (by rw [bckTo_len, hl]) (fun i e h => ?_) hw
  exact bckTo_at p ls.length i e (List.getElem?_eq_some_iff.mp h).1 h
end BL
/-! ## BlRules -/
/-! Rules that the layer lacks: enumerate(a tuple), sorted(a tuple of ints), the bit operators over numbers that are not negative, in place too. -/
namespace BLE
open PySem
open AutoSeq1 (wpAny_loadPart')
/-! ### enumerate(tuple), at the library's level -/
theorem enum_newT (l : Addr) (items : Array Value) :
    Meets (Builtin.«enumerate.__new__» ⟨[.type "enumerate", .ref l], []⟩) (fun _ R s => s.heap.IsTuple l items ∧
      R (.ok (.ret (.ref (s.heap.push { cls := .type "tuple_iterator", data := .fields #[.ref l, .int 0 0] }).objs.size)))
        { s with heap := (s.heap.push { cls := .type "tuple_iterator", data := .fields #[.ref l, .int 0 0] }).push { cls := .type "enumerate", data := .fields #[.none, .bool false, .ref s.heap.objs.size, rawInt 0, .none, .none] } }) :=
  .of_wp fun prog w A R s h => by
    obtain ⟨hp, g, d, tk, os⟩ := s
    obtain ⟨hl, h⟩ := h
    have hsub := sub_enumerate
    have hL : Heap.IsTuple (Shared.heap ⟨hp, g, d, tk, os⟩) l items := hl
    wp_walk
    refine wpAny_stack_any fun st => wpAny_pure ?_
    split
    · rename_i c _ _ _ _ _
      cases (c == Value.type "enumerate")
      · wp_walk using wpAny_pyIter_tuple hL
        exact ⟨_, rfl, h⟩
      · wp_walk using wpAny_pyIter_tuple hL
        exact ⟨_, rfl, h⟩
    · wp_walk using wpAny_pyIter_tuple hL
      exact ⟨_, rfl, h⟩
section
variable {prog : Program} {w : World} {A : Around} {E : Value → Shared → Prop} {s : Shared}
theorem call_enumT {l : Addr} {items : Array Value} {Q : Value → Shared → Prop} (hL : s.heap.IsTuple l items)
    (h : ∀ h', IsEnum h' (s.heap.objs.size + 1) s.heap.objs.size 0 .none → h'.IsTupleIter s.heap.objs.size l 0 → h'.objs.size = s.heap.objs.size + 2 →
      (∀ b o, s.heap.get? b = some o → h'.get? b = some o) → Q (.ref (s.heap.objs.size + 1)) { s with heap := h' }) :
    wpAny (model prog w) A (call (.type "enumerate") [.ref l]) Q E s := by
  refine callType_new F.called_enumerate (by decide) (F.typeCall_enumerate_1 _) (F.newCall_enumerate_1 _) (fun obj => F.args_object_init_2 obj _) F.entry_enumerate_new
    (enum_newT l items) ⟨hL, ?_⟩
  have hz : (s.heap.push { cls := .type "tuple_iterator", data := .fields #[.ref l, .int 0 0] }).objs.size = s.heap.objs.size + 1 := Heap.size_push ..
  show _ ∧ _
  rw [hz]
  have he : IsEnum ((s.heap.push { cls := .type "tuple_iterator", data := .fields #[.ref l, .int 0 0] }).push
      { cls := .type "enumerate", data := .fields #[.none, .bool false, .ref s.heap.objs.size, rawInt 0, .none, .none] }) (s.heap.objs.size + 1) s.heap.objs.size 0 .none := by
    have q := Heap.get?_push_size (s.heap.push { cls := .type "tuple_iterator", data := .fields #[.ref l, .int 0 0] })
      (o := { cls := .type "enumerate", data := .fields #[.none, .bool false, .ref s.heap.objs.size, rawInt 0, .none, .none] }) rfl
    rw [hz] at q
    exact q
  refine ⟨⟨_, he, rfl⟩, h _ he ⟨_, Heap.get?_push_of_some _ (Heap.get?_push_size _ rfl), rfl, rfl⟩ (by rw [Heap.size_push, hz]) fun b o x => Heap.get?_push_of_some _ (Heap.get?_push_of_some _ x)⟩
end
theorem iterT_at {h h' : Heap} {it t : Addr} {i : Nat} (x : h.IsTupleIter it t i) (k : ∀ o, h.get? it = some o → h'.get? it = some o) : h'.IsTupleIter it t i :=
  let ⟨o, ho, r⟩ := x; ⟨o, k o ho, r⟩
theorem tupT_at {h h' : Heap} {t : Addr} {items : Array Value} (x : h.IsTuple t items) (k : ∀ o, h.get? t = some o → h'.get? t = some o) : h'.IsTuple t items :=
  let ⟨o, ho, r⟩ := x; ⟨o, k o ho, r⟩
theorem drawsT {prog : Program} {w : World} {A : Around} (hh : A.handled = none) (it l : Addr) (hne : l ≠ it) (items : Array Value) :
    Draws prog w A it [it, l] items.size (fun i v => items[i]? = some v) (fun i h => h.IsTupleIter it l i ∧ h.IsTuple l items) where
  live := fun _ _ st => let ⟨o, ho, _⟩ := st.1; ⟨o, ho⟩
  frame := fun _ _ _ st hk => ⟨iterT_at st.1 fun o e => hk it (by simp) o e, tupT_at st.2 fun o e => hk l (by simp) o e⟩
  item := fun i s Q E hi st hQ => by
    refine RZ.nextOf_tuple_item st.1 st.2 (x := items[i]) (by simp [hi]) fun h' hit' hs' => ?_
    exact hQ _ h' s.toks (by simp [hi]) ⟨hit', st.2.extBut hs'.extBut hne⟩ hs'
  done := fun s Q E st hE => RZ.nextOf_tuple_end hh st.1 st.2 (by simp) hE
/-! ### sorted(tuple of ints), at the library's level -/
section
variable {prog : Program} {w : World} {A : Around} {E : Value → Shared → Prop} {s : Shared}
open PyProof.Rows in
theorem sortedT {l : Addr} {vs : List Value} {ns : List Int} {Q : Value → Shared → Prop} (hl : s.heap.IsTuple l vs.toArray) (hI : IntsAre vs ns) (hz : vs.length ≤ sizeLine)
    (h : ∀ (h₁ h₂ : Heap) (out : List Value) (ep : Nat), (∀ b o, s.heap.get? b = some o → h₁.get? b = some o) → (∀ b o, h₁.get? b = some o → h₂.get? b = some o) →
      h₂.get? h₁.objs.size = some (seqObj "list" out.toArray ep) → IntsAre out (out.map SrtO.iv) → (out.map SrtO.iv).Perm ns → (out.map SrtO.iv).Pairwise (· ≤ ·) → Q (.ref h₁.objs.size) { s with heap := h₂ }) :
    wpAny (model prog w) A (call (.builtin "sorted") [.ref l]) Q E s := by
  obtain ⟨o, ho, hc, n, hd⟩ := hl
  refine Calls.call_function_entry kind_sorted plain_sorted entry_sorted (args_sorted1 _) ?_
  unfold Builtin.«sorted»
  refine wpAny_bind (m := checkCount "sorted" 1 1 _) (wpAny_pure ?_)
  refine wpAny_bind (wpAny_collect_seq l (.inr rfl) ho hc hd (fun h₁ hk => ?_) (by rw [List.size_toArray]; exact hz))
  rw [show vs.toArray.toList = vs by simp]
  refine wpAny_bind (wpAny_newList ?_ hz)
  have hoL : (h₁.push (seqObj "list" vs.toArray 0)).get? h₁.objs.size = some (seqObj "list" vs.toArray 0) := Heap.get?_push_size _ rfl
  have keep : ∀ b o, h₁.get? b = some o → b ≠ h₁.objs.size ∧ (h₁.push (seqObj "list" vs.toArray 0)).get? b = some o := fun b o q =>
    ⟨Nat.ne_of_lt (Heap.lt_size q), Heap.get?_push_of_some _ q⟩
  show wpAny _ _ _ _ _ { s with heap := h₁.push (seqObj "list" vs.toArray 0) }
  refine wpAny_bind (wpAny_holding (wpAny_call_entry slot_list_sort ⟨_, hoL, rfl⟩ entry_list_sort (SrtO.list_sort_ord SrtO.swo_int hoL hz (fun h2 => SrtO.ints_sortable hI h2) fun out hs hb => ⟨_, rfl, ?_⟩) (args_list_sort _)))
  obtain ⟨k1, k2, k3⟩ := SrtO.ints_out hI hs hb
  obtain ⟨ep, he⟩ := sortedHeap_at (vs := vs) (out := out.toArray) hoL
  refine wpAny_pure ⟨_, rfl, h h₁ _ out ep hk (fun b o q => ?_) he k1 k2 k3⟩
  obtain ⟨q1, q2⟩ := keep b o q
  rw [sortedHeap_old q1 (Heap.lt_size q2)]
  exact q2
end
end BLE

namespace BL
open PySem PySem.Spec PyProof.Rows L2
/-! ### enumerate(tuple) over the layer -/
/-- the tuple at a, item by item, each in a new pair -/
def Iet (K : PySem.W.Frag) (a : Addr) : It :=
  ⟨fun i H => ∃ (xs : List V) (x : V), SqT K H a xs ∧ xs[i]? = some x, fun i H v H' => ∃ T x, v = .ref T ∧ H T = none ∧ H' = upd H T (.tup [.int (i : Nat), x]) ∧ ∀ xs, SqT K H a xs → xs[i]? = some x, fun i H => ∃ xs : List V, SqT K H a xs ∧ xs.length = i⟩
theorem turn_enumT {P : Program} {w : World} {K : PySem.W.Frag} {elts : List Expr} {kk : Nat} {tpos : Pos} (a e it : Addr) :
    Turn P w K (.Tuple elts kk tpos) (Iet K a) [e, it] e (fun i h => (∃ old, IsEnum h e it ((i : Nat) : Int) old) ∧ h.IsTupleIter it a i ∧ e ≠ it) where
  mem := by simp
  obj := fun i h st b hb => by
    obtain ⟨⟨old, he⟩, ⟨o, ho, hc, hd⟩, _⟩ := st
    have e' : b = e ∨ b = it := by simpa using hb
    rcases e' with z | z
    · rw [z]; exact ⟨_, he, fun v q => nomatch q⟩
    · rw [z]; exact ⟨o, ho, fun v q => by rw [hd] at q; cases q⟩
  keep := fun i h h' st k => let ⟨⟨old, he⟩, hi, hne⟩ := st; ⟨⟨old, k e (by simp) _ he⟩, BLE.iterT_at hi fun o q => k it (by simp) o q, hne⟩
  item := by
    intro X hP hw hK hc i pins s σ H E I hf st hg
    subst hP hw hK
    obtain ⟨⟨old, he⟩, hit, hne⟩ := st
    obtain ⟨xs, x, hq, hx⟩ := hg
    obtain ⟨its, rv, p, hz⟩ := I.tuple hq
    obtain ⟨u, hu, ru⟩ := rv.get hx
    have hel : e < s.heap.objs.size := Heap.lt_size he
    have hil : it < s.heap.objs.size := by obtain ⟨_, q, _⟩ := hit; exact Heap.lt_size q
    have pT : s.heap.IsTuple a its.toArray := p
    have nai : a ≠ it := fun z => by
      obtain ⟨o1, e1, c1, _⟩ := pT
      obtain ⟨o2, e2, c2, _⟩ := hit
      rw [z, e2] at e1
      cases e1
      rw [c1] at c2
      exact absurd c2 (by decide)
    have nae : e ≠ a := fun z => by
      obtain ⟨o1, e1, c1, _⟩ := pT
      rw [← z, he] at e1
      cases e1
      exact absurd (show Value.type "enumerate" = Value.type "tuple" from c1) (by decide)
    have D := BLE.drawsT (prog := X.prog) (w := X.w) (A := X.A.in1) (I.ok.hd hc) it a nai its.toArray
    have hlt : i < its.toArray.size := by
      have q := (List.getElem?_eq_some_iff.mp hu).1
      simpa using q
    refine wpAny_pyNext_enum_itemD D he ⟨hit, pT⟩ hlt hne (by simp [hne, nae]) fun y h' tk hP ho hst hT hsz hk => ?_
    have ey : y = u := by
      have hP' : its.toArray[i]? = some y := hP
      have q : its.toArray[i]? = some u := by simpa using hu
      rw [q] at hP'
      exact (Option.some.inj hP').symm
    subst ey
    refine ⟨_, rfl, wpAny_letOwnedTupleGo_enum (s := { s with heap := h', toks := tk + 1 }) ho fun h'' he' sb => ?_⟩
    have hT2 : h''.get? s.heap.objs.size = some { cls := .type "tuple", data := .seq #[.int i tk, y] } := (sb.2 _ (Nat.ne_of_gt hel)).trans hT
    have new : ObjOk X.prog X.w (upd H s.heap.objs.size (.tup [.int (i : Nat), x])) h'' s.heap.objs.size (.tup [.int (i : Nat), x]) :=
      ⟨by show 2 ≤ sizeLine; decide, [.int i tk, y], .cons ⟨_, rfl⟩ (.cons ru .nil), ⟨_, hT2, rfl, _, rfl⟩⟩
    have I1 : Inv X pins σ (upd H s.heap.objs.size (.tup [.int (i : Nat), x])) { s with heap := h'', toks := tk + 1 } :=
      I.turnedNew (ch := [e, it]) (fun b ob hb q => (sb.2 b (fun z => hb (by simp [z]))).trans (hk b ob (fun z => hb (by simp [z])) (fun z => hb (by simp [z])) q)) hf (Nat.le_refl _) new
    refine ⟨.ref s.heap.objs.size, _, I1, rfl, ⟨_, x, rfl, I.hok.fresh (Nat.le_refl _), rfl, fun ys hy => ?_⟩, ⟨⟨y, ?_⟩, BLE.iterT_at hst.1 fun o q => (sb.2 it (Ne.symm hne)).trans q, hne⟩, fun b hb => ?_⟩
    · rw [I.tuple_inj hy hq]; exact hx
    · have e1 : ((i + 1 : Nat) : Int) = (i : Int) + 1 := by omega
      rw [e1]; exact he'
    · have hb' : b < s.heap.objs.size := by
        have e' : b = e ∨ b = it := by simpa using hb
        rcases e' with z | z
        · rw [z]; exact hel
        · rw [z]; exact hil
      rw [upd_ne (Nat.ne_of_lt hb')]
      exact (hf b hb).1
  done := by
    intro X hP hw hK hc i pins s σ H E I hf st hg
    subst hP hw hK
    obtain ⟨⟨old, he⟩, hit, hne⟩ := st
    obtain ⟨xs, hq, hx⟩ := hg
    obtain ⟨its, rv, p, hz⟩ := I.tuple hq
    obtain ⟨f0, f1, f2, f3, f4, f5⟩ := hf it (by simp)
    have hl := rv.length
    have pT : s.heap.IsTuple a its.toArray := p
    have nai : a ≠ it := fun z => by
      obtain ⟨o1, e1, c1, _⟩ := pT
      obtain ⟨o2, e2, c2, _⟩ := hit
      rw [z, e2] at e1
      cases e1
      rw [c1] at c2
      exact absurd c2 (by decide)
    have D := BLE.drawsT (prog := X.prog) (w := X.w) (A := X.A.in1) (I.ok.hd hc) it a nai its.toArray
    have ei : i = its.toArray.size := by rw [List.size_toArray, ← hl, hx]
    subst ei
    exact wpAny_pyNext_enum_endD D he ⟨hit, pT⟩ fun h' eb => ⟨rfl, I.turned (t' := s.toks) (fun b o hb q => eb b o hb q) f0 f1 f3 f4 f5⟩
  self := fun A i s Q E st h => let ⟨⟨_, he⟩, _⟩ := st; wpAny_pyIter_enum he h
def iEnumT (K : PySem.W.Frag) (ta : TA) : TI := fun σ H R => ta σ H fun vs H1 => ∃ a xs, vs = [.ref a] ∧ SqT K H1 a xs ∧ R (Iet K a) H1
theorem pi_enumT {X : Cx} {e : Expr} {ta : TA} {p pos tpos : Pos} {elts : List Expr} {kk : Nat} (hg : Gl X "enumerate") (hm : X.mg "enumerate" = none) (ha : PA X [e] ta) (hs : starEach [e] X.env = [(false, eval e X.env)] := by rfl) :
    PI X (.Tuple elts kk tpos) (.Call (.Name "enumerate" p) [e] [] pos) (iEnumT X.K ta) := by
  refine ⟨fun pins s σ H R I h => ?_⟩
  refine Call_ (ld_blt I hg hm boot_enumerate (PyProof.Rows.callWith_type1 (thn (ha.run pos pins s σ H _ I h) fun us s1 ⟨vs, H1, I1, r1, q1⟩ => ?_) hs rfl))
  obtain ⟨a, xs, ex, hq, q⟩ := q1
  subst ex
  cases r1 with
  | cons r rr =>
    cases rr
    cases r
    obtain ⟨its, rv, p', hz⟩ := I1.tuple hq
    have pT : s1.heap.IsTuple a its.toArray := p'
    refine BLE.call_enumT pT fun h' he hit hsz hk => wpAny_pyIter_enum he ?_
    have I2 : Inv X pins σ H1 { s1 with heap := h' } := I1.kept (t' := s1.toks) hk
    refine ⟨s1.heap.objs.size + 1, [s1.heap.objs.size + 1, s1.heap.objs.size], _, _, H1, rfl, I2, turn_enumT a (s1.heap.objs.size + 1) s1.heap.objs.size, ⟨⟨.none, he⟩, hit, Nat.succ_ne_self _⟩, fun b hb => ?_, q⟩
    have e' : b = s1.heap.objs.size + 1 ∨ b = s1.heap.objs.size := by simpa using hb
    have hle : s1.heap.objs.size ≤ b := by
      rcases e' with z | z
      · rw [z]; exact Nat.le_add_right _ _
      · rw [z]; exact Nat.le_refl _
    exact I1.fpOk hle (I1.hok.fresh hle)
theorem for_enumT {K : PySem.W.Frag} {a : Addr} {xs : List V} {g : TG} {tb : TS} {D : Ends} {σ : L2.St} {H : Hp} (Pv : Nat → L2.St → Hp → Prop) (h0 : Pv 0 σ H) (hq : ∀ i σ H, i ≤ xs.length → Pv i σ H → SqT K H a xs)
    (hs : ∀ (i : Nat) (x : V) (T : Addr) (σ : L2.St) (H : Hp), xs[i]? = some x → Pv i σ H → H T = none → g (.ref T) σ (upd H T (.tup [.int (i : Nat), x])) fun σ2 H2 => tb { D with nx := Pv (i + 1), ct := Pv (i + 1), bk := D.nx } σ2 H2)
    (hd : ∀ σ H, Pv xs.length σ H → D.nx σ H) :
    ∃ W : Nat → Nat → L2.St → Hp → Prop, (∃ m, W 0 m σ H) ∧ ∀ i m σ H, W i m σ H →
      ((Iet K a).stop i H ∧ D.nx σ H) ∨ ((Iet K a).go i H ∧ ∃ N : L2.St → Hp → Prop, (∀ σ' H', N σ' H' → ∃ m', m' < m ∧ W (i + 1) m' σ' H') ∧ ∀ x H', (Iet K a).yld i H x H' → g x σ H' fun σ2 H2 => tb { D with nx := N, ct := N, bk := D.nx } σ2 H2) := by
  refine ⟨fun i m σ H => m = xs.length - i ∧ i ≤ xs.length ∧ Pv i σ H, ⟨xs.length, by simp, Nat.zero_le _, h0⟩, ?_⟩
  rintro i m σ H ⟨rfl, hi, p⟩
  have q := hq i σ H hi p
  by_cases hlt : i < xs.length
  · refine .inr ⟨⟨xs, xs[i], q, by simp [hlt]⟩, Pv (i + 1), fun σ' H' p' => ⟨xs.length - (i + 1), by omega, rfl, hlt, p'⟩, fun x H' y => ?_⟩
    obtain ⟨T, z, rfl, hT, rfl, hz⟩ := y
    exact hs i z T σ H (hz xs q) p hT
  · have e : i = xs.length := by omega
    subst e
    exact .inl ⟨⟨xs, q, rfl⟩, hd σ H p⟩
/-! ### sorted(tuple of ints) over the layer -/
def rSortT (K : PySem.W.Frag) : List V → Hp → VK → Prop := fun vs H Q => ∃ (a : Addr) (ns : List Int), vs = [V.ref a] ∧ SqT K H a (ns.map V.int) ∧
  ∀ (ns' : List Int) (p : Addr), ns'.Perm ns → ns'.Pairwise (· ≤ ·) → H p = none → Q (.ref p) (upd H p (.lst (ns'.map V.int)))
section
variable {X : Cx}
theorem cr_sortT : CallR X (.builtin "sorted") (rSortT X.K) := by
  intro pins s σ H vs us Q I r h
  obtain ⟨a, ns, rfl, hs, q⟩ := h
  obtain ⟨its, rv, hl, hz⟩ := I.tuple hs
  rw [Vals.ref1 r]
  have hi := rv.ints
  have hT : s.heap.IsTuple a its.toArray := hl
  refine BLE.sortedT hT hi (by rw [← rv.length]; exact hz) fun h₁ h₂ out ep k1 k2 he i1 i2 i3 => ?_
  have I1 : Inv X pins σ H { s with heap := h₁ } := I.kept (t' := s.toks) k1
  have hlen : ((out.map SrtO.iv).map V.int).length ≤ sizeLine := by
    rw [List.length_map, i2.length_eq]
    rw [List.length_map] at hz
    exact hz
  exact ⟨.ref _, upd H h₁.objs.size (.lst ((out.map SrtO.iv).map V.int)), I1.laid (t' := s.toks) (h' := h₂) k2 (Nat.le_refl _) ⟨hlen, out, ep, vals_of_ints i1, he⟩, rfl, q _ _ i2 i3 (I1.hok.fresh (Nat.le_refl _))⟩
/-! ### bits of numbers that are not negative -/
theorem band (i j : Nat) : Builtin.bitAnd (i : Int) (j : Int) = ((i &&& j : Nat) : Int) := by
  rw [bitAnd_pp (Int.natCast_nonneg _) (Int.natCast_nonneg _), Int.toNat_natCast, Int.toNat_natCast]
theorem bor (i j : Nat) : Builtin.bitOr (i : Int) (j : Int) = ((i ||| j : Nat) : Int) := by
  rw [Bits.bitOr_pp (Int.natCast_nonneg _) (Int.natCast_nonneg _), Int.toNat_natCast, Int.toNat_natCast]
theorem bxor (i j : Nat) : Builtin.bitXor (i : Int) (j : Int) = ((i ^^^ j : Nat) : Int) := by
  rw [Bits.bitXor_pp (Int.natCast_nonneg _) (Int.natCast_nonneg _), Int.toNat_natCast, Int.toNat_natCast]
theorem shl_cast (i j : Nat) : (i : Int) * 2 ^ (j : Int).toNat = ((i <<< j : Nat) : Int) := by
  rw [Int.toNat_natCast, Nat.shiftLeft_eq, Int.natCast_mul, two_pow_cast]
theorem shr_cast (i j : Nat) : (i : Int) / 2 ^ (j : Int).toNat = ((i >>> j : Nat) : Int) := by
  rw [Int.toNat_natCast, Nat.shiftRight_eq_div_pow, Int.natCast_ediv, two_pow_cast]
def rN (C : Nat → Nat → Prop) (g : Nat → Nat → Nat) : R2 := fun x y H Q => ∃ i j : Nat, x = .int (i : Int) ∧ y = .int (j : Int) ∧ C i j ∧ Q (.int ((g i j : Nat) : Int)) H
theorem nn_and : OpR X (binaryOp .BitAnd) (rN (fun _ _ => True) (· &&& ·)) := by
  intro pins s σ H x y v u Q I rx ry h
  obtain ⟨i, j, rfl, rfl, _, q⟩ := h
  exact op_and pins s σ H _ _ v u Q I rx ry ⟨_, _, rfl, rfl, by show Q (.int (Builtin.bitAnd (i : Int) (j : Int))) H; rw [band]; exact q⟩
theorem nn_or : OpR X (binaryOp .BitOr) (rN (fun _ _ => True) (· ||| ·)) := by
  intro pins s σ H x y v u Q I rx ry h
  obtain ⟨i, j, rfl, rfl, _, q⟩ := h
  exact op_or pins s σ H _ _ v u Q I rx ry ⟨_, _, rfl, rfl, by show Q (.int (Builtin.bitOr (i : Int) (j : Int))) H; rw [bor]; exact q⟩
theorem nn_xor : OpR X (binaryOp .BitXor) (rN (fun _ _ => True) (· ^^^ ·)) := by
  intro pins s σ H x y v u Q I rx ry h
  obtain ⟨i, j, rfl, rfl, _, q⟩ := h
  exact op_xor pins s σ H _ _ v u Q I rx ry ⟨_, _, rfl, rfl, by show Q (.int (Builtin.bitXor (i : Int) (j : Int))) H; rw [bxor]; exact q⟩
theorem nn_shl : OpR X (binaryOp .LShift) (rN (fun i j => i < 2 ^ 64 ∧ j ≤ 1000000) (· <<< ·)) := by
  intro pins s σ H x y v u Q I rx ry h
  obtain ⟨i, j, rfl, rfl, ⟨c1, c2⟩, q⟩ := h
  exact op_shl pins s σ H _ _ v u Q I rx ry ⟨_, _, rfl, rfl, ⟨by omega, by omega, by rw [Int.natAbs_natCast]; exact c1⟩, by show Q (.int ((i : Int) * 2 ^ (j : Int).toNat)) H; rw [shl_cast]; exact q⟩
theorem nn_shr : OpR X (binaryOp .RShift) (rN (fun _ _ => True) (· >>> ·)) := by
  intro pins s σ H x y v u Q I rx ry h
  obtain ⟨i, j, rfl, rfl, _, q⟩ := h
  exact op_shr pins s σ H _ _ v u Q I rx ry ⟨_, _, rfl, rfl, by omega, by show Q (.int ((i : Int) / 2 ^ (j : Int).toNat)) H; rw [shr_cast]; exact q⟩
theorem ip_orN : PIp X .BitOr (rN (fun _ _ => True) (· ||| ·)) := by
  intro pins s σ H x y v u Q I rx ry h
  obtain ⟨i, j, rfl, rfl, _, q⟩ := h
  exact iop_or pins s σ H _ _ v u Q I rx ry ⟨_, _, rfl, rfl, by show Q (.int (Builtin.bitOr (i : Int) (j : Int))) H; rw [bor]; exact q⟩
theorem ip_shrN : PIp X .RShift (rN (fun _ _ => True) (· >>> ·)) := by
  intro pins s σ H x y v u Q I rx ry h
  obtain ⟨i, j, rfl, rfl, _, q⟩ := h
  exact iop_shr pins s σ H _ _ v u Q I rx ry ⟨_, _, rfl, rfl, by omega, by show Q (.int ((i : Int) / 2 ^ (j : Int).toNat)) H; rw [shr_cast]; exact q⟩
end
end BL
/-! ## BlDefs1 -/
/-! The defs of the two modules, each by its promise. -/
namespace BL
open PySem PySem.Spec PyProof.Rows L2
/-! ### the text by places -/
def top (i : Nat) : Stmt := PySem.Challenge.pw_bitlead_k06_whole_bit_by_bit.main.body.getD i (.Pass ⟨0, 0, 0, 0⟩)
/-! ### heaps, lists -/
abbrev iv (ns : List Int) : List V := ns.map V.int
abbrev nv (ps : List Nat) : List V := ps.map fun (k : Nat) => V.int (k : Int)
theorem sizeOk {n : Nat} (h : n ≤ 1000) : n < sizeLine := small1000 h
theorem same_new {H : Hp} {p : Addr} {o : HO} (h : H p = none) : Same H (upd H p o) := fun b x e => by
  rw [upd_ne (ne_of_none e h)]
  exact e
theorem Same.tup {K : PySem.W.Frag} {H H' : Hp} {a : Addr} {xs : List V} (e : Same H H') (h : SqT K H a xs) : SqT K H' a xs := by
  rcases h with (h | ⟨o, h⟩) | h
  · exact .inl (.inl (e _ _ h))
  · exact .inl (.inr ⟨o, e _ _ h⟩)
  · exact .inr h
theorem nv_snoc (ps : List Nat) (i : Nat) : nv ps ++ [V.int (i : Int)] = nv (ps ++ [i]) := by
  show _ = List.map _ _
  rw [List.map_append]
  rfl
theorem iv_at {ls : List Int} {i : Nat} {x : V} (h : (iv ls)[i]? = some x) : ∃ e, ls[i]? = some e ∧ x = V.int e := by
  rw [List.getElem?_map] at h
  cases q : ls[i]? with
  | none => rw [q] at h; cases h
  | some p => rw [q] at h; exact ⟨p, rfl, (Option.some.inj h).symm⟩
theorem iv_of {ls : List Int} {i : Nat} {e : Int} (h : ls[i]? = some e) : (iv ls)[i]? = some (V.int e) := by
  rw [List.getElem?_map, h]
  rfl
/-! ### a def as its callers take it -/
def Dn (P : Program) (w : World) (K : PySem.W.Frag) (mg : Str → Option Value) (base : Heap) (x : Str) (ps : List Str) (k : Nat) (sp : Sp) : Prop :=
  ∃ (f : Addr) (fd : FuncData), FnOk P w K mg base CX0 k f fd ps sp ∧ mg x = some (.ref f) ∧ PySem.W.keepIn K (.ref f) = true ∧ Binds K fd ps []
theorem pe_dn {X : Cx} {x : Str} {ps : List Str} {k : Nat} {sp : Sp} {e : Expr} {es : List Expr} {t : TA} {p pos : Pos} (D : Dn X.prog X.w X.K X.mg X.base x ps k sp) (hr : Room k X.A) (hg : Gl X x)
    (ha : PA X (e :: es) t) (hdb : (x == ("__debug__" : Str)) = false := by decide) (he : starEach (e :: es) X.env = (false, eval e X.env) :: starEach es X.env := by rfl) (hpl : (backTo pos (starEach es X.env)).any (·.1) = false := by rfl) :
    PE X (.Call (.Name x p) (e :: es) [] pos) (tCall sp [] E0 t) := by
  obtain ⟨f, fd, F, m, kp, b⟩ := D
  exact pe_call F hr hg m kp b .nil pass0 ha hdb he hpl
/-! ### the promises -/
def spFull : Sp := fun vs H Q _ => ∃ n : Nat, vs = [.int (n : Int)] ∧ n ≤ 64 ∧ Q (.int ((full n : Nat) : Int)) H
def spBitAt : Sp := fun vs H Q _ => ∃ m i : Nat, vs = [.int (m : Int), .int (i : Int)] ∧ Q (.int (((m >>> i) &&& 1 : Nat) : Int)) H
def spPlaces : Sp := fun vs H Q _ => ∃ m : Nat, vs = [.int (m : Int)] ∧ m < 2 ^ 64 ∧ ∀ (H' : Hp) (p : Addr), Same H H' → H p = none → H' p = some (.lst (nv (places m))) → Q (.ref p) H'
def spMask (K : PySem.W.Frag) : Sp := fun vs H Q _ => ∃ (a : Addr) (ps : List Nat), vs = [.ref a] ∧ SqL K H a (nv ps) ∧ (∀ p ∈ ps, p < 64) ∧ Q (.int ((orAll ps : Nat) : Int)) H
def spBits : Sp := fun vs H Q _ => ∃ m : Nat, vs = [.int (m : Int)] ∧ m < 2 ^ 64 ∧ ∀ H' : Hp, Same H H' → Q (.int (((places m).length : Nat) : Int)) H'
def spBitLed : Sp := fun vs H Q _ => ∃ (e : Int) (m : Nat), vs = [.int e, .int (m : Int)] ∧ Q (.int ((bitN e m : Nat) : Int)) H
def spLed (K : PySem.W.Frag) : Sp := fun vs H Q _ => ∃ (a : Addr) (ls : List Int) (m : Nat), vs = [.ref a, .int (m : Int)] ∧ SqT K H a (iv ls) ∧ ls.length ≤ 64 ∧ ∀ H' : Hp, Same H H' → Q (.int ((ledN ls m : Nat) : Int)) H'
section
variable {P : Program} {w : World} {K : PySem.W.Frag} {mg : Str → Option Value} {base : Heap}
/-! ### full, bit_at -/
abbrev sFull : Stmt := top 4
theorem scFull : FnScope ["width"] ["width"] (defScope sFull) := ⟨rfl, rfl, rfl, by decide +kernel, rfl, by decide +kernel, by decide +kernel⟩
theorem ok_full {f : Addr} {fd : FuncData} (F : Fun K "full" "full" sFull f fd) : FnOk P w K mg base CX0 1 f fd ["width"] spFull := by
  refine F.ok scFull (fun vs H Q E h => ?_) (fun cdv A outer s H vs Q E hr h => ?_)
  · obtain ⟨n, rfl, _⟩ := h
    rfl
  · obtain ⟨n, rfl, hn, q⟩ := h
    refine ⟨_, pss_one (ps_ret (pe_op op_sub (pe_op nn_shl pe_int (pv 0)) pe_int)), ?_⟩
    refine ⟨_, rfl, 1, n, rfl, rfl, ⟨by decide, by omega⟩, _, _, rfl, rfl, ?_⟩
    have e : (((1 <<< n : Nat) : Int) - 1) = ((full n : Nat) : Int) := by
      have h1 := Nat.two_pow_pos n
      unfold full
      rw [Nat.one_shiftLeft]
      omega
    show Q (.int (((1 <<< n : Nat) : Int) - 1)) H
    rw [e]
    exact q
abbrev sBitAt : Stmt := top 5
theorem scBitAt : FnScope ["word", "place"] ["word", "place"] (defScope sBitAt) := ⟨rfl, rfl, rfl, by decide +kernel, rfl, by decide +kernel, by decide +kernel⟩
theorem ok_bitAt {f : Addr} {fd : FuncData} (F : Fun K "bit_at" "bit_at" sBitAt f fd) : FnOk P w K mg base CX0 1 f fd ["word", "place"] spBitAt := by
  refine F.ok scBitAt (fun vs H Q E h => ?_) (fun cdv A outer s H vs Q E hr h => ?_)
  · obtain ⟨m, i, rfl, _⟩ := h
    rfl
  · obtain ⟨m, i, rfl, q⟩ := h
    refine ⟨_, pss_one (ps_ret (pe_op nn_and (pe_op nn_shr (pv 0) (pv 1)) pe_int)), ?_⟩
    exact ⟨_, rfl, _, rfl, m, i, rfl, rfl, trivial, _, 1, rfl, rfl, trivial, q⟩
/-! ### places_in -/
abbrev sPlaces : Stmt := top 6
theorem scPlaces : FnScope ["mask", "found", "place"] ["mask"] (defScope sPlaces) := ⟨rfl, rfl, rfl, by decide +kernel, rfl, by decide +kernel, by decide +kernel⟩
theorem ok_places {f : Addr} {fd : FuncData} (F : Fun K "places_in" "places_in" sPlaces f fd) : FnOk P w K mg base CX0 1 f fd ["mask"] spPlaces := by
  refine F.ok scPlaces (fun vs H Q E h => ?_) (fun cdv A outer s H vs Q E hr h => ?_)
  · obtain ⟨m, rfl, _⟩ := h
    rfl
  · obtain ⟨m, rfl, hm, q⟩ := h
    refine ⟨_, pss_cons (ps_set (i := 1) scPlaces.nd rfl (.inl rfl) (pe_lst pa_nil)) (pss_cons (ps_set (i := 2) scPlaces.nd rfl (.inl rfl) pe_int)
      (pss_cons (ps_while PassesOwn.never (pt_cmpR op_gt (pv 0) pe_int (nomark _))
        (C8.pss_cut (ps_if (pt_cmpR op_eq (pe_op nn_and (pv 0) pe_int) pe_int (nomark _))
            (pss_one (ps_expr (pe_bm PySem.F.plainAttrs_list PySem.F.slot_list_append PySem.F.type_list_append mt_append (pv 1) (pa_cons (pv 2) pa_nil)))) pss_nil)
          (pss_cons (ps_aug (i := 0) scPlaces.nd rfl (.inl rfl) pe_int ip_shrN) (pss_one (ps_aug (i := 2) scPlaces.nd rfl (.inl rfl) pe_int ip_add)))))
      (pss_one (ps_ret (pv 1))))), ?_⟩
    refine ⟨Nat.zero_le _, fun o no => ?_⟩
    have s1 : Same H (upd H o (.lst [])) := same_new no
    refine ⟨fun n σ H1 => ∃ i : Nat, n = 64 - i ∧ i ≤ 64 ∧ σ = [some (.int ((m >>> i : Nat) : Int)), some (.ref o), some (.int (i : Int))] ∧ Same H H1 ∧ H1 o = some (.lst (nv (plTo m i))), ⟨64, 0, rfl, by omega, rfl, s1, upd_same⟩, ?_⟩
    rintro n σ H1 ⟨i, rfl, hi, rfl, sm, ho⟩
    refine ⟨_, rfl, _, _, rfl, rfl, _, rfl, ?_⟩
    refine ite2 (fun hpos => ?_) (fun hz => ?_)
    · have hpos := of_decide_eq_true hpos
      have hi64 : i < 64 := by
        refine Nat.lt_of_not_le fun hge => ?_
        rw [shift_zero hm hge] at hpos
        omega
      refine ⟨fun σ' H' => σ' = [some (.int ((m >>> (i + 1) : Nat) : Int)), some (.ref o), some (.int ((i + 1 : Nat) : Int))] ∧ Same H H' ∧ H' o = some (.lst (nv (plTo m (i + 1)))), fun σ' H' hN => ?_, ?_⟩
      · obtain ⟨rfl, sm', ho'⟩ := hN
        exact ⟨64 - (i + 1), by omega, i + 1, rfl, by omega, rfl, sm', ho'⟩
      refine ⟨fun σ' H' => σ' = [some (.int ((m >>> i : Nat) : Int)), some (.ref o), some (.int (i : Int))] ∧ Same H H' ∧ H' o = some (.lst (nv (plTo m (i + 1)))), ?_, fun σ' H' hM => ?_⟩
      · refine ⟨_, rfl, _, 1, rfl, rfl, trivial, rfl, _, rfl, ite2 (fun e => ?_) (fun e => ?_)⟩
        · have e1 := V.int.inj (of_decide_eq_true e)
          have eb : m.testBit i = true := by
            have e2 := shift_bit m i
            cases hb : m.testBit i with
            | true => rfl
            | false =>
              rw [hb] at e2
              have e3 : m >>> i &&& 1 = 0 := e2
              have e4 : ((m >>> i &&& 1 : Nat) : Int) = 1 := e1
              rw [e3] at e4
              cases e4
          refine ⟨.ref o, rfl, .inl ⟨rfl, _, SqL.of ho⟩, _, rfl, o, _, _, rfl, rfl, ho, ?_, rfl, ?_, ?_⟩
          · have := plTo_len m i
            exact sizeOk (by rw [List.length_map]; omega)
          · intro b x e
            rw [upd_ne (ne_of_none e no)]
            exact sm _ _ e
          · rw [upd_same, plTo_succ, if_pos eb, nv_snoc]
        · have eb : ¬ m.testBit i = true := fun hb => by
            have e2 := shift_bit m i
            rw [hb] at e2
            have e3 : m >>> i &&& 1 = 1 := e2
            refine e (decide_eq_true ?_)
            show V.int ((m >>> i &&& 1 : Nat) : Int) = V.int 1
            rw [e3]
            rfl
          refine ⟨rfl, sm, ?_⟩
          rw [ho, plTo_succ, if_neg eb, List.append_nil]
      · obtain ⟨rfl, sm', ho'⟩ := hM
        refine ⟨_, rfl, _, 1, rfl, rfl, trivial, _, rfl, _, 1, rfl, rfl, ?_, sm', ho'⟩
        show [some (V.int (((m >>> i) >>> 1 : Nat) : Int)), some (V.ref o), some (V.int ((i : Int) + 1))] = _
        rw [shift_succ]
        rfl
    · have hz : m >>> i = 0 := by
        rcases Nat.eq_zero_or_pos (m >>> i) with z | z
        · exact z
        · exact absurd (decide_eq_true (Int.natCast_pos.mpr z)) hz
      rw [places_done hz hi] at ho
      exact ⟨_, rfl, q H1 o sm no ho⟩
/-! ### mask_of -/
abbrev sMask : Stmt := top 7
theorem scMask : FnScope ["places", "mask", "place"] ["places"] (defScope sMask) := ⟨rfl, rfl, rfl, by decide +kernel, rfl, by decide +kernel, by decide +kernel⟩
theorem ok_mask {f : Addr} {fd : FuncData} (F : Fun K "mask_of" "mask_of" sMask f fd) : FnOk P w K mg base CX0 1 f fd ["places"] (spMask K) := by
  refine F.ok scMask (fun vs H Q E h => ?_) (fun cdv A outer s H vs Q E hr h => ?_)
  · obtain ⟨a, ps, rfl, _⟩ := h
    rfl
  · obtain ⟨a, ps, rfl, hS, hlt, q⟩ := h
    refine ⟨_, pss_cons (ps_set (i := 1) scMask.nd rfl (.inl rfl) pe_int)
      (pss_cons (ps_for PassesOwn.never rfl (pi_list (pv 0)) (pg_name (i := 2) scMask.nd rfl (.inl rfl)) (pss_one (ps_aug (i := 1) scMask.nd rfl (.inl rfl) (pe_op nn_shl pe_int (pv 2)) ip_orN)))
      (pss_one (ps_ret (pv 1)))), ?_⟩
    refine ⟨.ref a, rfl, a, rfl, ⟨_, hS⟩, for_list (K := K) (a := a) (xs := nv ps) (fun i σ H' => H' = H ∧ ∃ v, σ = [some (.ref a), some (.int ((orAll (ps.take i) : Nat) : Int)), v]) ⟨rfl, none, rfl⟩ (fun i σ H' _ ⟨e, _⟩ => by rw [e]; exact hS) ?_ ?_⟩
    · rintro i x σ H' hx ⟨rfl, v, rfl⟩
      obtain ⟨p, hp, rfl⟩ : ∃ p, ps[i]? = some p ∧ x = V.int (p : Int) := by
        rw [List.getElem?_map] at hx
        cases e : ps[i]? with
        | none => rw [e] at hx; cases hx
        | some p => rw [e] at hx; exact ⟨p, rfl, (Option.some.inj hx).symm⟩
      have hp64 := hlt p (List.mem_of_getElem? hp)
      refine ⟨_, rfl, _, rfl, 1, p, rfl, rfl, ⟨by decide, by omega⟩, _, _, rfl, rfl, trivial, rfl, some (.int (p : Int)), ?_⟩
      show [some (V.ref a), some (V.int ((orAll (ps.take i) ||| (1 <<< p) : Nat) : Int)), some (V.int (p : Int))] = _
      rw [← orAll_append, List.take_add_one, hp]
      rfl
    · rintro σ H' ⟨rfl, v, rfl⟩
      refine ⟨_, rfl, ?_⟩
      rw [List.length_map, List.take_length]
      exact q
/-! ### bits_in -/
abbrev sBits : Stmt := top 8
theorem scBits : FnScope ["mask"] ["mask"] (defScope sBits) := ⟨rfl, rfl, rfl, by decide +kernel, rfl, by decide +kernel, by decide +kernel⟩
theorem ok_bits {f : Addr} {fd : FuncData} (F : Fun K "bits_in" "bits_in" sBits f fd) (D : Dn P w K mg base "places_in" ["mask"] 1 spPlaces) (zl : mg "len" = none) : FnOk P w K mg base CX0 2 f fd ["mask"] spBits := by
  refine F.ok scBits (fun vs H Q E h => ?_) (fun cdv A outer s H vs Q E hr h => ?_)
  · obtain ⟨m, rfl, _⟩ := h
    rfl
  · obtain ⟨m, rfl, hm, q⟩ := h
    refine ⟨_, pss_one (ps_ret (pe_callB call_len_seq (by rfl) zl PySem.boot_len (pa_cons (pe_dn D hr (by rfl) (pa_cons (pv 0) pa_nil)) pa_nil))), ?_⟩
    refine ⟨_, rfl, m, rfl, hm, fun H' p sm np hp => ?_⟩
    refine ⟨p, _, rfl, .inl (SqL.of hp), ?_⟩
    rw [List.length_map]
    exact q H' sm
/-! ### bit_led, led -/
abbrev sBitLed : Stmt := top 11
theorem scBitLed : FnScope ["entry", "word"] ["entry", "word"] (defScope sBitLed) := ⟨rfl, rfl, rfl, by decide +kernel, rfl, by decide +kernel, by decide +kernel⟩
theorem ok_bitLed {f : Addr} {fd : FuncData} (F : Fun K "bit_led" "bit_led" sBitLed f fd) (D : Dn P w K mg base "bit_at" ["word", "place"] 1 spBitAt) (zi : mg "int" = none) {tk : Nat} (g1 : mg "ONE" = some (.int (-2) tk)) : FnOk P w K mg base CX0 2 f fd ["entry", "word"] spBitLed := by
  refine F.ok scBitLed (fun vs H Q E h => ?_) (fun cdv A outer s H vs Q E hr h => ?_)
  · obtain ⟨e, m, rfl, _⟩ := h
    rfl
  · obtain ⟨e, m, rfl, q⟩ := h
    refine ⟨_, pss_cons (ps_if (pt_cmpR op_ge (pv 0) pe_int (nomark _)) (pss_one (ps_ret (pe_dn D hr (by rfl) (pa_cons (pv 1) (pa_cons (pv 0) pa_nil))))) pss_nil)
      (pss_one (ps_ret (pe_callTy call_int1 (by rfl) zi (by decide +kernel) (pa_cons (pe_cmpR op_eq (pv 0) (pe_glob (v := .int (-2)) (by rfl) g1 ⟨_, rfl⟩) (nomark _)) pa_nil)))), ?_⟩
    refine ⟨_, rfl, e, 0, rfl, rfl, _, rfl, ite2 (fun h0 => ?_) (fun h0 => ?_)⟩
    · have h0 := of_decide_eq_true h0
      refine ⟨_, rfl, _, rfl, m, e.toNat, ?_, ?_⟩
      · show [V.int (m : Int), V.int e] = _
        rw [Int.toNat_of_nonneg h0]
      · have e1 : bitN e m = (m >>> e.toNat) &&& 1 := by
          unfold bitN
          rw [if_pos h0]
        rw [← e1]
        exact q
    · have h0 : ¬ 0 ≤ e := fun z => h0 (decide_eq_true z)
      refine ⟨_, rfl, rfl, .inr ⟨_, rfl, ?_⟩⟩
      have e1 : (if decide (V.int e = V.int (-2)) = true then 1 else 0 : Int) = ((bitN e m : Nat) : Int) := by
        unfold bitN
        rw [if_neg h0]
        by_cases h2 : e = -2
        · rw [if_pos h2, if_pos (decide_eq_true (by rw [h2]))]
          rfl
        · rw [if_neg h2, if_neg (fun z => h2 (V.int.inj (of_decide_eq_true z)))]
          rfl
      rw [e1]
      exact q
abbrev sLed : Stmt := top 12
theorem scLed : FnScope ["leading", "word", "found", "place", "entry"] ["leading", "word"] (defScope sLed) := ⟨rfl, rfl, rfl, by decide +kernel, rfl, by decide +kernel, by decide +kernel⟩
theorem ok_led {f : Addr} {fd : FuncData} (F : Fun K "led" "led" sLed f fd) (D : Dn P w K mg base "bit_led" ["entry", "word"] 2 spBitLed) (ze : mg "enumerate" = none) : FnOk P w K mg base CX0 3 f fd ["leading", "word"] (spLed K) := by
  refine F.ok scLed (fun vs H Q E h => ?_) (fun cdv A outer s H vs Q E hr h => ?_)
  · obtain ⟨a, ls, m, rfl, _⟩ := h
    rfl
  · obtain ⟨a, ls, m, rfl, hS, hlen, q⟩ := h
    refine ⟨_, pss_cons (ps_set (i := 2) scLed.nd rfl (.inl rfl) pe_int)
      (pss_cons (ps_for PassesOwn.never rfl (pi_enumT (by rfl) ze (pa_cons (pv 0) pa_nil)) (pg_tup rfl (pgs_cons (pg_name (i := 3) scLed.nd rfl (.inl rfl)) (pgs_cons (pg_name (i := 4) scLed.nd rfl (.inl rfl)) pgs_nil)))
        (pss_one (ps_aug (i := 2) scLed.nd rfl (.inl rfl) (pe_op nn_shl (pe_dn D hr (by rfl) (pa_cons (pv 4) (pa_cons (pv 1) pa_nil))) (pv 3)) ip_orN)))
      (pss_one (ps_ret (pv 2)))), ?_⟩
    refine ⟨.ref a, rfl, a, iv ls, rfl, hS, for_enumT (fun i σ H' => Same H H' ∧ ∃ v3 v4, σ = [some (.ref a), some (.int (m : Int)), some (.int ((ledTo ls m i : Nat) : Int)), v3, v4]) ⟨Same.refl H, none, none, rfl⟩ (fun i σ H' _ ⟨e, _⟩ => Same.tup e hS) ?_ ?_⟩
    · rintro i x T σ H' hx ⟨sm, v3, v4, rfl⟩ nT
      obtain ⟨e, he, rfl⟩ := iv_at hx
      have hi : i < ls.length := (List.getElem?_eq_some_iff.mp he).1
      refine ⟨T, _, rfl, .inl (.inl upd_same), rfl, _, _, rfl, _, _, rfl, rfl, ?_⟩
      have hb := bitN_le e m
      refine ⟨_, rfl, _, rfl, _, rfl, e, m, rfl, _, rfl, bitN e m, i, rfl, rfl, ⟨by omega, by omega⟩, _, _, rfl, rfl, trivial, sm.trans (same_new nT), some (.int (i : Int)), some (.int e), ?_⟩
      have e1 : ledTo ls m (i + 1) = ledTo ls m i ||| (bitN e m <<< i) := by
        show ledTo ls m i ||| (at0 ls m i <<< i) = _
        unfold at0
        rw [he]
      rw [e1]
      rfl
    · rintro σ H' ⟨sm, v3, v4, rfl⟩
      refine ⟨_, rfl, ?_⟩
      rw [List.length_map]
      exact q H' sm
end
end BL
/-! ## BlDefs2 -/
/-! kept_by, is_even, turned_back. -/
namespace BL
open PySem PySem.Spec PyProof.Rows L2
/-! ### lists of ints compared -/
theorem eqvInts : ∀ ns ms : List Int, PyData.eqvAll (ns.map PyData.int) (ms.map PyData.int) = decide (ns = ms)
  | [], [] => by simp [PyData.eqvAll]
  | [], _ :: _ => by simp [PyData.eqvAll]
  | _ :: _, [] => by simp [PyData.eqvAll]
  | n :: ns, m :: ms => by
    rw [List.map_cons, List.map_cons, PyData.eqvAll, eqvInts ns ms, Bool.eq_iff_iff]
    simp [PyData.eqv]
theorem dpInts {K : PySem.W.Frag} {H : Hp} : ∀ ns : List Int, DpAll K H (iv ns) (ns.map PyData.int)
  | [] => .nil
  | n :: ns => .cons (.int n) (dpInts ns)
theorem rgV_ups (n : Nat) : rgV 0 (n : Int) = iv (ups n) := by
  unfold rgV ups iv
  rw [List.map_map, Int.sub_zero, Int.toNat_natCast]
  refine List.map_congr_left fun k _ => ?_
  show V.int (0 + (k : Int)) = V.int (k : Int)
  rw [Int.zero_add]
theorem len_ge {K : PySem.W.Frag} {a : Addr} {H : Hp} {n : Nat} (h : n ≤ 64) : n ≤ sizeLine := Nat.le_of_lt (sizeOk (by omega))
/-! ### kept_by's list, one more -/
theorem kpList_succ {ls : List Int} {i : Nat} {e : Int} (h : ls[i]? = some e) : kpList (ls.take (i + 1)) = kpList (ls.take i) ++ (if 0 ≤ e then [e.toNat] else []) := by
  unfold kpList
  rw [List.take_add_one, h, List.filter_append, List.map_append]
  congr 1
  by_cases he : 0 ≤ e
  · rw [if_pos he]
    simp [he]
  · rw [if_neg he]
    simp [he]
theorem kpList_len (ls : List Int) : (kpList ls).length ≤ ls.length := by
  unfold kpList
  rw [List.length_map]
  exact List.length_filter_le _ _
/-! ### the promises -/
def spKept (K : PySem.W.Frag) : Sp := fun vs H Q _ => ∃ (a : Addr) (ls : List Int), vs = [.ref a] ∧ SqT K H a (iv ls) ∧ ls.length ≤ 64 ∧ (∀ e ∈ ls, e < 64) ∧ ∀ H' : Hp, Same H H' → Q (.int ((kept ls : Nat) : Int)) H'
def spEven (K : PySem.W.Frag) : Sp := fun vs H Q _ => ∃ (a : Addr) (ls : List Int), vs = [.ref a] ∧ SqT K H a (iv ls) ∧ ls.length ≤ 64 ∧ ∀ (H' : Hp) (b : Bool), Same H H' → (b = true ↔ ls.Perm (ups ls.length)) → Q (.bl b) H'
def spBack (K : PySem.W.Frag) : Sp := fun vs H Q _ => ∃ (a : Addr) (ls : List Int), vs = [.ref a] ∧ SqT K H a (iv ls) ∧ ls.length ≤ 64 ∧ ls.Perm (ups ls.length) ∧
  ∀ (H' : Hp) (p : Addr), Same H H' → H' p = some (.tup (iv (bckTo ls ls.length))) → Q (.ref p) H'
section
variable {P : Program} {w : World} {K : PySem.W.Frag} {mg : Str → Option Value} {base : Heap}
abbrev sKept : Stmt := top 13
theorem scKept : FnScope ["leading", "entry"] ["leading"] (defScope sKept) := ⟨rfl, rfl, rfl, by decide +kernel, rfl, by decide +kernel, by decide +kernel⟩
theorem ok_kept {f : Addr} {fd : FuncData} (F : Fun K "kept_by" "kept_by" sKept f fd) (D : Dn P w K mg base "mask_of" ["places"] 1 (spMask K)) : FnOk P w K mg base CX0 2 f fd ["leading"] (spKept K) := by
  refine F.ok scKept (fun vs H Q E h => ?_) (fun cdv A outer s H vs Q E hr h => ?_)
  · obtain ⟨a, ls, rfl, _⟩ := h
    rfl
  · obtain ⟨a, ls, rfl, hS, hlen, hlt, q⟩ := h
    refine ⟨_, pss_one (ps_ret (pe_dn D hr (by rfl) (pa_cons (pe_lc (own := [("entry", 1)]) (g := gName 1) rfl scKept.nd (pi_tup (pv 0)) (blkOk_by (N := ["leading", "entry"]) (sc := defScope sKept) (by decide +kernel))
      (fun _ _ _ _ _ => pg_name (i := 1) scKept.nd rfl (.inl rfl)) (fun _ _ _ _ _ => pts_one (pt_cmpR op_ge (pv 1) pe_int (nomark _))) (fun _ _ _ _ _ => pv 1)) pa_nil))), ?_⟩
    refine ⟨.ref a, rfl, a, rfl, ⟨_, hS⟩, fun o no => ?_⟩
    refine lc_tup (K := K) (a := a) (xs := iv ls) (fun i H' => Same H H' ∧ H' o = some (.lst (nv (kpList (ls.take i))))) ⟨same_new no, upd_same⟩ (fun i H' _ ⟨e, _⟩ => Same.tup e hS) ?_ ?_
    · rintro i x H' hx ⟨sm, ho⟩
      obtain ⟨e, he, rfl⟩ := iv_at hx
      have hi : i < ls.length := (List.getElem?_eq_some_iff.mp he).1
      refine ⟨rfl, _, rfl, e, 0, rfl, rfl, _, rfl, ite2 (fun h0 => ?_) (fun h0 => ?_)⟩
      · have h0 := of_decide_eq_true h0
        refine ⟨_, rfl, _, ho, ?_, ?_, ?_⟩
        · rw [List.length_map]
          have := kpList_len (ls.take i)
          rw [List.length_take] at this
          exact sizeOk (by omega)
        · intro b u z
          rw [upd_ne (ne_of_none z no)]
          exact sm _ _ z
        · rw [upd_same, kpList_succ he, if_pos h0, ← nv_snoc, Int.toNat_of_nonneg h0]
      · have h0 : ¬ 0 ≤ e := fun z => h0 (decide_eq_true z)
        refine ⟨sm, ?_⟩
        rw [ho, kpList_succ he, if_neg h0, List.append_nil]
    · rintro H' ⟨sm, ho⟩
      rw [List.length_map, List.take_length] at ho
      refine ⟨o, _, rfl, SqL.of ho, fun p hp => ?_, q H' sm⟩
      have := hlt _ (mem_kpList.mp hp)
      omega
abbrev sEven : Stmt := top 14
theorem scEven : FnScope ["leading"] ["leading"] (defScope sEven) := ⟨rfl, rfl, rfl, by decide +kernel, rfl, by decide +kernel, by decide +kernel⟩
theorem ok_even {f : Addr} {fd : FuncData} (F : Fun K "is_even" "is_even" sEven f fd) (zs : mg "sorted" = none) (zl : mg "list" = none) (zr : mg "range" = none) (zn : mg "len" = none) : FnOk P w K mg base CX0 1 f fd ["leading"] (spEven K) := by
  refine F.ok scEven (fun vs H Q E h => ?_) (fun cdv A outer s H vs Q E hr h => ?_)
  · obtain ⟨a, ls, rfl, _⟩ := h
    rfl
  · obtain ⟨a, ls, rfl, hS, hlen, q⟩ := h
    refine ⟨_, pss_one (ps_ret (pe_cmpR (op_eqD hr.units) (pe_callB cr_sortT (by rfl) zs (by decide +kernel) (pa_cons (pv 0) pa_nil))
      (pe_listRg rfl (by rfl) zl (prg_1 (by rfl) zr (pe_callB call_len_seq (by rfl) zn PySem.boot_len (pa_cons (pv 0) pa_nil)))) (nomark _))), ?_⟩
    refine ⟨.ref a, rfl, a, ls, rfl, hS, fun ns o pm srt no => ?_⟩
    have s1 : Same H (upd H o (.lst (iv ns))) := same_new no
    refine ⟨.ref a, rfl, a, _, rfl, .inr (Same.tup s1 hS), _, rfl, ?_, fun p np => ?_⟩
    · rw [List.length_map]
      exact RgOk.of_le (by omega) (by omega) (by omega) (by omega)
    · have s2 := same_new (o := .lst (rgV 0 ((iv ls).length : Int))) np
      have npo : o ≠ p := fun e => by
        rw [← e, upd_same] at np
        cases np
      have ho : (upd (upd H o (.lst (iv ns))) p (.lst (rgV 0 ((iv ls).length : Int)))) o = some (.lst (iv ns)) := by
        rw [upd_ne npo, upd_same]
      have hp : (upd (upd H o (.lst (iv ns))) p (.lst (rgV 0 ((iv ls).length : Int)))) p = some (.lst (iv (ups ls.length))) := by
        rw [upd_same, List.length_map, rgV_ups]
      refine ⟨.list (ns.map .int), .list ((ups ls.length).map .int), .lst (SqL.of ho) (dpInts _), .lst (SqL.of hp) (dpInts _), PySem.W.ke_shaped_ints _, PySem.W.ke_shaped_ints _, q _ _ (s1.trans s2) ?_⟩
      rw [PyData.eqv, eqvInts, decide_eq_true_iff]
      exact even_iff pm srt
abbrev sBack : Stmt := top 15
theorem scBack : FnScope ["leading", "found", "place", "entry"] ["leading"] (defScope sBack) := ⟨rfl, rfl, rfl, by decide +kernel, rfl, by decide +kernel, by decide +kernel⟩
theorem flat_rep (n : Nat) : (List.replicate n [V.int 0]).flatten = iv (List.replicate n 0) := by
  induction n with
  | zero => rfl
  | succ n ih =>
    rw [List.replicate_succ, List.flatten_cons, ih, List.replicate_succ]
    rfl
theorem iv_set (ls : List Int) (j : Nat) (e : Int) : (iv ls).set j (V.int e) = iv (ls.set j e) := by
  show _ = List.map _ _
  rw [List.map_set]
theorem ok_back {f : Addr} {fd : FuncData} (F : Fun K "turned_back" "turned_back" sBack f fd) (D : Dn P w K mg base "is_even" ["leading"] 1 (spEven K)) (zn : mg "len" = none) (ze : mg "enumerate" = none) (zt : mg "tuple" = none) : FnOk P w K mg base CX0 2 f fd ["leading"] (spBack K) := by
  refine F.ok scBack (fun vs H Q E h => ?_) (fun cdv A outer s H vs Q E hr h => ?_)
  · obtain ⟨a, ls, rfl, _⟩ := h
    rfl
  · obtain ⟨a, ls, rfl, hS, hlen, hp, q⟩ := h
    refine ⟨_, pss_cons (ps_if (pt_not (pt_val (pe_dn D hr (by rfl) (pa_cons (pv 0) pa_nil)))) (pss_one ps_never) pss_nil)
      (pss_cons (ps_set (i := 1) scBack.nd rfl (.inl rfl) (pe_op op_rep (pe_lst (pa_cons pe_int pa_nil)) (pe_callB call_len_seq (by rfl) zn PySem.boot_len (pa_cons (pv 0) pa_nil))))
      (pss_cons (ps_for PassesOwn.never rfl (pi_enumT (by rfl) ze (pa_cons (pv 0) pa_nil)) (pg_tup rfl (pgs_cons (pg_name (i := 2) scBack.nd rfl (.inl rfl)) (pgs_cons (pg_name (i := 3) scBack.nd rfl (.inl rfl)) pgs_nil)))
        (pss_one (ps_asg (pv 2) (pg_sub (pv 1) (pv 3) set_list))))
      (pss_one (ps_ret (pe_callTy call_tuple_of (by rfl) zt boot_tuple (pa_cons (pv 1) pa_nil)))))), ?_⟩
    refine ⟨.ref a, rfl, a, ls, rfl, hS, hlen, fun H1 b sm1 hb => ?_⟩
    have eb : b = true := hb.mpr hp
    subst eb
    refine ⟨true, rfl, iteF ?_⟩
    have hS1 := Same.tup sm1 hS
    refine ⟨by show 1 ≤ sizeLine; decide, fun o1 n1 => ?_⟩
    have s2 := same_new (o := .lst [V.int 0]) n1
    refine ⟨.ref a, rfl, a, _, rfl, .inr (Same.tup s2 hS1), ?_⟩
    rw [List.length_map]
    refine ⟨o1, _, _, rfl, rfl, upd_same, by omega, by omega, ?_, fun o no => ?_⟩
    · rw [Int.toNat_natCast]
      exact Nat.le_trans (by show 1 * ls.length ≤ 64; omega) (len_ge (K := K) (a := a) (H := H) (Nat.le_refl _))
    rw [Int.toNat_natCast, flat_rep]
    have s3 := same_new (o := .lst (iv (List.replicate ls.length 0))) no
    have sm3 := (sm1.trans s2).trans s3
    have no1 : H o = none := (sm1.trans s2).free no
    refine ⟨.ref a, rfl, a, iv ls, rfl, Same.tup s3 (Same.tup s2 hS1), for_enumT (fun i σ H' => Same H H' ∧ H' o = some (.lst (iv (bckTo ls i))) ∧ ∃ v2 v3, σ = [some (.ref a), some (.ref o), v2, v3]) ⟨sm3, upd_same, none, none, rfl⟩ (fun i σ H' _ ⟨e, _⟩ => Same.tup e hS) ?_ ?_⟩
    · rintro i x T σ H' hx ⟨sm, ho, v2, v3, rfl⟩ nT
      obtain ⟨e, he, rfl⟩ := iv_at hx
      have L := (even_lead hp).1
      have N := (even_lead hp).2
      have he0 := N e (List.mem_of_getElem? he)
      have he1 := L.hi e (List.mem_of_getElem? he)
      refine ⟨T, _, rfl, .inl (.inl upd_same), rfl, _, _, rfl, _, _, rfl, rfl, ?_⟩
      have nTo : o ≠ T := ne_of_none ho nT
      refine ⟨_, rfl, _, rfl, _, rfl, o, iv (bckTo ls i), e, e.toNat, rfl, rfl, ?_, ?_, ?_⟩
      · rw [upd_ne nTo]
        exact ho
      · unfold ixN
        rw [List.length_map, bckTo_len, if_pos he0, if_pos he1]
      · refine ⟨fun b u z => ?_, ?_, some (.int (i : Int)), some (.int e), rfl⟩
        · rw [upd_ne (ne_of_none z no1)]
          exact same_new nT _ _ (sm _ _ z)
        · rw [upd_same, iv_set]
          have e1 : bckTo ls (i + 1) = (bckTo ls i).set e.toNat (i : Int) := by
            show (match ls[i]? with | some e => (bckTo ls i).set e.toNat (i : Int) | none => bckTo ls i) = _
            rw [he]
          rw [e1]
    · rintro σ H' ⟨sm, ho, v2, v3, rfl⟩
      rw [List.length_map] at ho
      refine ⟨_, rfl, o, _, rfl, .inl ⟨SqL.of ho, fun p np => ?_⟩⟩
      exact q _ p (sm.trans (same_new np)) upd_same
end
end BL
/-! ## BlDefs3 -/
/-! The law's hand: a list of a list of ints and three ints; one draw. -/
namespace BL
open PySem PySem.Spec PyProof.Rows L2
/-! ### the hand -/
structure HandAt (H : Hp) (h L : Addr) (ns : List Int) (i z c : Int) : Prop where
  hh : H h = some (.lst [.ref L, .int i, .int z, .int c])
  hL : H L = some (.lst (iv ns))
def Hand (H : Hp) (h L : Addr) : Prop := ∃ (ns : List Int) (i z c : Int), HandAt H h L ns i z c
/-- all but the hand is as it was -/
def Keep (h : Addr) (H H' : Hp) : Prop := ∀ b o, b ≠ h → H b = some o → H' b = some o
theorem Keep.refl (h : Addr) (H : Hp) : Keep h H H := fun _ _ _ e => e
theorem Keep.trans {h : Addr} {H H1 H2 : Hp} (a : Keep h H H1) (b : Keep h H1 H2) : Keep h H H2 := fun x o n e => b x o n (a x o n e)
theorem Same.keep {h : Addr} {H H' : Hp} (s : Same H H') : Keep h H H' := fun x o _ e => s x o e
theorem Keep.put (h : Addr) (H : Hp) (o : HO) : Keep h H (upd H h o) := fun x u n e => by
  rw [upd_ne n]
  exact e
theorem HandAt.ne {H : Hp} {h L : Addr} {ns : List Int} {i z c : Int} (A : HandAt H h L ns i z c) : L ≠ h := fun e => by
  have h1 := A.hh
  rw [← e, A.hL] at h1
  have h2 := HO.lst.inj (Option.some.inj h1)
  cases ns with
  | nil => cases h2
  | cons n ns =>
    have h3 := (List.cons.inj h2).1
    cases h3
theorem HandAt.put {H : Hp} {h L : Addr} {ns : List Int} {i z c : Int} (A : HandAt H h L ns i z c) (i' z' c' : Int) : HandAt (upd H h (.lst [.ref L, .int i', .int z', .int c'])) h L ns i' z' c' :=
  ⟨upd_same, by rw [upd_ne A.ne]; exact A.hL⟩
theorem Hand.same {H H' : Hp} {h L : Addr} (A : Hand H h L) (s : Same H H') : Hand H' h L := by
  obtain ⟨ns, i, z, c, a, b⟩ := A
  exact ⟨ns, i, z, c, s _ _ a, s _ _ b⟩
theorem Hand.upd {H : Hp} {h L o : Addr} {u : HO} (A : Hand H h L) (n1 : o ≠ h) (n2 : o ≠ L) : Hand (upd H o u) h L := by
  obtain ⟨ns, i, z, c, a, b⟩ := A
  exact ⟨ns, i, z, c, by rw [upd_ne n1.symm]; exact a, by rw [upd_ne n2.symm]; exact b⟩
theorem Hand.neH {H : Hp} {h L o : Addr} (A : Hand H h L) (n : H o = none) : o ≠ h := by
  obtain ⟨ns, i, z, c, a, b⟩ := A
  exact (ne_of_none a n).symm
theorem Hand.neL {H : Hp} {h L o : Addr} (A : Hand H h L) (n : H o = none) : o ≠ L := by
  obtain ⟨ns, i, z, c, a, b⟩ := A
  exact (ne_of_none b n).symm
theorem Keep.free {h : Addr} {H H' : Hp} {o : Addr} (k : Keep h H H') (n : H' o = none) (ne : o ≠ h) : H o = none := by
  cases q : H o with
  | none => rfl
  | some u =>
    rw [k o u ne q] at n
    cases n
/-- something new is written at an address that was free -/
theorem Keep.at {h : Addr} {H H' : Hp} {o : Addr} {u : HO} (k : Keep h H H') (n : H o = none) : Keep h H (upd H' o u) := fun x v ne e => by
  rw [upd_ne (ne_of_none e n)]
  exact k x v ne e
theorem cmul_mod {e m j : Int} (h0 : 0 < m) (h1 : m ≤ 2147483647) : CMul (e % m) j := by
  have a := Int.emod_nonneg e (show m ≠ 0 by omega)
  have b := Int.emod_lt_of_pos e h0
  exact .inl ⟨by omega, by omega⟩
theorem cut_iv (ns : List Int) (lo hi : Option Int) : ∃ ms : List Int, cutV (iv ns) lo hi = iv ms ∧ ms.length ≤ ns.length := by
  unfold cutV
  refine ⟨(ns.drop (HT.sIx (iv ns).length 0 lo)).take (HT.sIx (iv ns).length (iv ns).length hi - HT.sIx (iv ns).length 0 lo), ?_, ?_⟩
  · show _ = List.map _ _
    rw [List.map_take, List.map_drop]
  · rw [List.length_take, List.length_drop]
    omega
/-! ### the promises -/
def spHand (K : PySem.W.Frag) : Sp := fun vs H Q _ => ∃ (a : Addr) (ns : List Int), vs = [.ref a] ∧ SqL K H a (iv ns) ∧ ns.length ≤ 63 ∧ ∀ (H' : Hp) (p : Addr), Same H H' → H p = none → (∃ L, Hand H' p L) → Q (.ref p) H'
def spDraw : Sp := fun vs H Q _ => ∃ (h L : Addr) (m : Int), vs = [.ref h, .int m] ∧ 0 < m ∧ m < 1073741824 ∧ Hand H h L ∧ ∀ (H' : Hp) (r : Int), 0 ≤ r → r < m → Hand H' h L → Keep h H H' → Q (.int r) H'
section
variable {P : Program} {w : World} {K : PySem.W.Frag} {mg : Str → Option Value} {base : Heap}
abbrev sHand : Stmt := top 17
theorem scHand : FnScope ["_law_script", "_law_cell"] ["_law_script"] (defScope sHand) := ⟨rfl, rfl, rfl, by decide +kernel, rfl, by decide +kernel, by decide +kernel⟩
theorem ok_hand {f : Addr} {fd : FuncData} (F : Fun K "_law_hand" "_law_hand" sHand f fd) (za : mg "abs" = none) : FnOk P w K mg base CX0 1 f fd ["_law_script"] (spHand K) := by
  refine F.ok scHand (fun vs H Q E h => ?_) (fun cdv A outer s H vs Q E hr h => ?_)
  · obtain ⟨a, ns, rfl, _⟩ := h
    rfl
  · obtain ⟨a, ns, rfl, hS, hlen, q⟩ := h
    refine ⟨_, pss_one (ps_ret (pe_lst (pa_cons (pe_lc (own := [("_law_cell", 1)]) (g := gName 1) (tt := tYes) rfl scHand.nd (pi_list (pe_slice sl_list (pv 0) po_none (po_some pe_int)))
        (blkOk_by (N := ["_law_script", "_law_cell"]) (sc := defScope sHand) (by decide +kernel))
        (fun _ _ _ _ _ => pg_name (i := 1) scHand.nd rfl (.inl rfl)) (fun _ _ _ _ _ => pts_nil) (fun _ _ _ _ _ => pe_callB call_abs (by rfl) za (by decide +kernel) (pa_cons (pv 1) pa_nil)))
      (pa_cons pe_int (pa_cons pe_int (pa_cons pe_int pa_nil)))))), ?_⟩
    obtain ⟨ms, ems, hms⟩ := cut_iv ns none (some 63)
    refine ⟨.ref a, rfl, 63, rfl, a, iv ns, rfl, hS, fun c nc => ?_⟩
    rw [ems]
    have s1 := same_new (o := .lst (iv ms)) nc
    refine ⟨c, rfl, ⟨_, SqL.of upd_same⟩, fun o no => ?_⟩
    have s2 := same_new (o := .lst []) no
    have no1 : H o = none := s1.free no
    refine lc_list (K := K) (a := c) (xs := iv ms) (fun i H' => Same (upd H c (.lst (iv ms))) H' ∧ ∃ ks : List Int, H' o = some (.lst (iv ks)) ∧ ks.length ≤ i) ⟨s2, [], upd_same, Nat.le_refl _⟩ (fun i H' _ ⟨e, _⟩ => e.seq (SqL.of upd_same)) ?_ ?_
    · rintro i x H' hx ⟨sm, ks, ho, hk⟩
      obtain ⟨e, he, rfl⟩ := iv_at hx
      have hi : i < ms.length := (List.getElem?_eq_some_iff.mp he).1
      refine ⟨rfl, _, rfl, e, rfl, _, ho, ?_, ?_, ks ++ [if e < 0 then -e else e], ?_, ?_⟩
      · rw [List.length_map]
        exact sizeOk (by omega)
      · intro b u z
        rw [upd_ne (ne_of_none z no)]
        exact sm _ _ z
      · rw [upd_same]
        show _ = some (HO.lst (List.map _ _))
        rw [List.map_append]
        rfl
      · rw [List.length_append, List.length_singleton]
        omega
    · rintro H' ⟨sm, ks, ho, hk⟩
      refine ⟨by show 4 ≤ sizeLine; decide, fun p np => ?_⟩
      have s3 := s1.trans sm
      exact q _ p (s3.trans (same_new np)) (s3.free np) ⟨o, ks, 0, 0, 0, upd_same, by rw [upd_ne (ne_of_none ho np)]; exact ho⟩
abbrev sDraw : Stmt := top 18
theorem scDraw : FnScope ["_law_hand_here", "_law_many", "_law_cell", "_law_once", "_law_twice", "_law_found"] ["_law_hand_here", "_law_many"] (defScope sDraw) := ⟨rfl, rfl, rfl, by decide +kernel, rfl, by decide +kernel, by decide +kernel⟩
theorem ok_draw {f : Addr} {fd : FuncData} (F : Fun K "_law_draw" "_law_draw" sDraw f fd) (zn : mg "len" = none) : FnOk P w K mg base CX0 1 f fd ["_law_hand_here", "_law_many"] spDraw := by
  refine F.ok scDraw (fun vs H Q E h => ?_) (fun cdv A outer s H vs Q E hr h => ?_)
  · obtain ⟨h, L, m, rfl, _⟩ := h
    rfl
  · obtain ⟨h, L, m, rfl, hm0, hm1, ⟨ns, i, z, c, A0⟩, q⟩ := h
    refine ⟨_, pss_cons (ps_asg (pe_op op_add (pe_ix ix_list (pv 0) pe_int (fun _ _ => rfl)) pe_int) (pg_sub (pv 0) pe_int set_list))
      (C8.pss_cut (ps_if (pt_cmpR op_eq (pe_ix ix_list (pv 0) pe_int (fun _ _ => rfl)) pe_int (nomark _))
        (pss_cons (ps_set (i := 2) scDraw.nd rfl (.inl rfl) pe_int)
        (C8.pss_cut (ps_if (pt_cmpR op_gt (pe_callB call_len_seq (by rfl) zn PySem.boot_len (pa_cons (pe_ix ix_list (pv 0) pe_int (fun _ _ => rfl)) pa_nil)) pe_int (nomark _))
          (pss_one (ps_set (i := 2) scDraw.nd rfl (.inl rfl) (pe_ix ix_list (pe_ix ix_list (pv 0) pe_int (fun _ _ => rfl))
            (pe_op op_mod (pe_ix ix_list (pv 0) pe_int (fun _ _ => rfl)) (pe_callB call_len_seq (by rfl) zn PySem.boot_len (pa_cons (pe_ix ix_list (pv 0) pe_int (fun _ _ => rfl)) pa_nil))) (fun _ _ => rfl)))) pss_nil)
        (pss_cons (ps_asg (pe_op op_add (pe_ix ix_list (pv 0) pe_int (fun _ _ => rfl)) pe_int) (pg_sub (pv 0) pe_int set_list))
        (pss_cons (ps_if (PW.pt (pw_or (pt_cmpR op_lt (pv 2) (pe_op op_pow pe_int pe_int) (nomark _))
            (pw_or1 (pt_cmpR op_gt (pe_ix ix_list (pv 0) pe_int (fun _ _ => rfl)) (pe_callB call_len_seq (by rfl) zn PySem.boot_len (pa_cons (pe_ix ix_list (pv 0) pe_int (fun _ _ => rfl)) pa_nil)) (nomark _)))))
          (pss_cons (ps_set (i := 3) scDraw.nd rfl (.inl rfl) (pe_op op_mod (pe_op op_mul (pe_op op_add (pe_op op_add (pe_op op_mod (pv 2) pe_int) (pe_op op_mul pe_int (pe_ix ix_list (pv 0) pe_int (fun _ _ => rfl)))) pe_int) pe_int) pe_int))
          (pss_cons (ps_set (i := 4) scDraw.nd rfl (.inl rfl) (pe_op op_mod (pe_op op_add (pe_op op_mul (pv 3) (pe_op op_add (pe_op op_mod (pv 3) pe_int) (pe_ix ix_list (pv 0) pe_int (fun _ _ => rfl)))) (pe_op op_mul pe_int (pe_ix ix_list (pv 0) pe_int (fun _ _ => rfl)))) pe_int))
          (pss_one (ps_ret (pe_op op_mod (pe_op op_fdiv (pv 4) pe_int) (pv 1)))))) pss_nil)
        (pss_one (ps_asg (pv 2) (pg_sub (pv 0) pe_int set_list))))))) pss_nil)
      (pss_cons (ps_set (i := 5) scDraw.nd rfl (.inl rfl) (pe_op op_mod (pe_ix ix_list (pv 0) pe_int (fun _ _ => rfl)) (pv 1)))
      (pss_cons (ps_asg (pe_op op_fdiv (pe_ix ix_list (pv 0) pe_int (fun _ _ => rfl)) (pv 1)) (pg_sub (pv 0) pe_int set_list))
      (pss_one (ps_ret (pv 5)))))), ?_⟩
    refine ⟨_, rfl, h, _, 3, .int c, rfl, rfl, SqL.of A0.hh, atI_nat (j := 3) rfl, c, 1, rfl, rfl, _, rfl, h, _, 3, 3, rfl, rfl, A0.hh, rfl, ?_⟩
    have A1 := A0.put i z (c + 1)
    have k1 := Keep.put h H (.lst [.ref L, .int i, .int z, .int (c + 1)])
    refine ⟨fun σ' H' => ∃ (v2 v3 v4 v5 : Option V) (i z c : Int), σ' = [some (.ref h), some (.int m), v2, v3, v4, v5] ∧ HandAt H' h L ns i z c ∧ Keep h H H', ?_, ?_⟩
    · refine ⟨_, rfl, h, _, 2, .int z, rfl, rfl, SqL.of A1.hh, atI_nat (j := 2) rfl, rfl, _, rfl, ite2 (fun e => ?_) (fun e => ?_)⟩
      · refine ⟨fun σ' H' => ∃ cell : Int, σ' = [some (.ref h), some (.int m), some (.int cell), none, none, none] ∧ H' = upd H h (.lst [.ref L, .int i, .int z, .int (c + 1)]), ?_, ?_⟩
        · refine ⟨_, rfl, h, _, 0, .ref L, rfl, rfl, SqL.of A1.hh, atI_nat (j := 0) rfl, L, _, rfl, .inl (SqL.of A1.hL), _, 0, rfl, rfl, _, rfl, ite2 (fun hp => ?_) (fun hp => ?_)⟩
          · have hp : (0 : Int) < ((iv ns).length : Int) := of_decide_eq_true hp
            have r0 := Int.emod_nonneg i (show ((iv ns).length : Int) ≠ 0 by omega)
            have r1 := Int.emod_lt_of_pos i hp
            obtain ⟨j, ej⟩ : ∃ j : Nat, i % ((iv ns).length : Int) = (j : Int) := ⟨(i % ((iv ns).length : Int)).toNat, by omega⟩
            have hj : j < ns.length := by
              rw [List.length_map] at r1 ej
              omega
            refine ⟨_, rfl, h, _, 0, .ref L, rfl, rfl, SqL.of A1.hh, atI_nat (j := 0) rfl, _, rfl, h, _, 1, .int i, rfl, rfl, SqL.of A1.hh, atI_nat (j := 1) rfl,
              _, rfl, h, _, 0, .ref L, rfl, rfl, SqL.of A1.hh, atI_nat (j := 0) rfl, L, _, rfl, .inl (SqL.of A1.hL), i, _, rfl, rfl, hp, L, _, _, _, rfl, rfl, SqL.of A1.hL, at_of (v := V.int ns[j]) ej (iv_of (List.getElem?_eq_getElem hj)), ns[j], rfl, rfl⟩
          · exact ⟨0, rfl, rfl⟩
        · rintro σ' H' ⟨cell, rfl, rfl⟩
          refine ⟨_, rfl, h, _, 1, .int i, rfl, rfl, SqL.of A1.hh, atI_nat (j := 1) rfl, i, 1, rfl, rfl, _, rfl, h, _, 1, 1, rfl, rfl, A1.hh, rfl, ?_⟩
          have A2 := A1.put (i + 1) z (c + 1)
          have k2 := k1.trans (Keep.put h (upd H h (.lst [.ref L, .int i, .int z, .int (c + 1)])) (.lst [.ref L, .int (i + 1), .int z, .int (c + 1)]))
          refine ⟨_, rfl, 10, 18, rfl, rfl, ⟨by decide, by decide, by decide⟩, cell, _, rfl, rfl, _, rfl, ite2 (fun _ => iteT ?_)
            (fun _ => ⟨_, rfl, h, _, 1, .int (i + 1), rfl, rfl, SqL.of A2.hh, atI_nat (j := 1) rfl, _, rfl, h, _, 0, .ref L, rfl, rfl, SqL.of A2.hh, atI_nat (j := 0) rfl, L, _, rfl, .inl (SqL.of A2.hL), _, _, rfl, rfl, _, rfl, ite2 (fun _ => ?_) (fun _ => ?_)⟩)⟩
          rotate_right
          · refine ⟨_, rfl, _, rfl, h, _, 2, 2, rfl, rfl, A2.hh, rfl, ?_⟩
            exact ⟨_, _, _, _, i + 1, cell, c + 1, rfl, A2.put _ _ _, k2.trans (Keep.put _ _ _)⟩
          all_goals
            refine ⟨_, rfl, cell, 2147483629, rfl, rfl, (show (0 : Int) < 2147483629 by decide), _, rfl, h, _, 3, .int (c + 1), rfl, rfl, SqL.of A2.hh, atI_nat (j := 3) rfl, 7919, _, rfl, rfl, .inl ⟨by decide, by decide⟩,
              _, _, rfl, rfl, _, 11, rfl, rfl, _, 48271, rfl, rfl, .inr ⟨by decide, by decide⟩, _, 2147483647, rfl, rfl, (show (0 : Int) < 2147483647 by decide), ?_⟩
            refine ⟨_, rfl, _, rfl, _, 39373, rfl, rfl, (show (0 : Int) < 39373 by decide), _, rfl, h, _, 3, .int (c + 1), rfl, rfl, SqL.of A2.hh, atI_nat (j := 3) rfl, _, _, rfl, rfl, _, _, rfl, rfl, cmul_mod (by decide) (by decide),
              _, rfl, h, _, 3, .int (c + 1), rfl, rfl, SqL.of A2.hh, atI_nat (j := 3) rfl, 104729, _, rfl, rfl, .inl ⟨by decide, by decide⟩, _, _, rfl, rfl, _, 1999999973, rfl, rfl, (show (0 : Int) < 1999999973 by decide), ?_⟩
            refine ⟨_, rfl, _, 64, rfl, rfl, ⟨by decide, by decide⟩, _, rfl, _, m, rfl, rfl, hm0, ?_⟩
            exact q _ _ (Int.emod_nonneg _ (show m ≠ 0 by omega)) (Int.emod_lt_of_pos _ hm0) ⟨ns, _, _, _, A2⟩ k2
      · exact ⟨_, _, _, _, i, z, c + 1, rfl, A1, k1⟩
    · rintro σ' H' ⟨v2, v3, v4, v5, i, z, c, rfl, A3, k3⟩
      refine ⟨_, rfl, h, _, 2, .int z, rfl, rfl, SqL.of A3.hh, atI_nat (j := 2) rfl, _, rfl, z, m, rfl, rfl, hm0, ?_⟩
      refine ⟨_, rfl, h, _, 2, .int z, rfl, rfl, SqL.of A3.hh, atI_nat (j := 2) rfl, _, rfl, z, m, rfl, rfl, ⟨hm0, hm1⟩, _, rfl, h, _, 2, 2, rfl, rfl, A3.hh, rfl, ?_⟩
      exact ⟨_, rfl, q _ _ (Int.emod_nonneg _ (show m ≠ 0 by omega)) (Int.emod_lt_of_pos _ hm0) ⟨ns, _, _, _, A3.put i (z / m) c⟩ (k3.trans (Keep.put _ _ _))⟩
end
end BL
/-! ## BlDefs4 -/
/-! The law's drawn widths, words, even leadings. -/
namespace BL
open PySem PySem.Spec PyProof.Rows L2
def spWidth : Sp := fun vs H Q _ => ∃ h L : Addr, vs = [.ref h] ∧ Hand H h L ∧ ∀ (H' : Hp) (n : Nat), 1 ≤ n → n ≤ 64 → Hand H' h L → Keep h H H' → Q (.int (n : Int)) H'
def spWord : Sp := fun vs H Q _ => ∃ (h L : Addr) (n : Nat), vs = [.ref h, .int (n : Int)] ∧ 1 ≤ n ∧ n ≤ 64 ∧ Hand H h L ∧ ∀ (H' : Hp) (x : Nat), x < 2 ^ n → Hand H' h L → Keep h H H' → Q (.int (x : Int)) H'
def spDrawn : Sp := fun vs H Q _ => ∃ (h L : Addr) (n : Nat), vs = [.ref h, .int (n : Int)] ∧ 1 ≤ n ∧ n ≤ 64 ∧ Hand H h L ∧ ∀ (H' : Hp) (p : Addr) (ls : List Int), Lead n ls → H' p = some (.tup (iv ls)) → Hand H' h L → Keep h H H' → Q (.ref p) H'
def spPlOf (K : PySem.W.Frag) : Sp := fun vs H Q _ => ∃ (a : Addr) (ls : List Int) (p : Int), vs = [.ref a, .int p] ∧ SqT K H a (iv ls) ∧ ls.length ≤ 64 ∧ ∀ H' : Hp, Same H H' → Q (.int ((plOf ls p : Nat) : Int)) H'
theorem nat_of {r : Int} (h : 0 ≤ r) : ∃ k : Nat, r = (k : Int) := ⟨r.toNat, by omega⟩
theorem full64 {n : Nat} (h : n ≤ 64) : full n < 2 ^ 64 := Nat.lt_of_lt_of_le (full_lt n) (Nat.pow_le_pow_right (by decide) h)
theorem oneShl (n : Nat) : (((1 <<< n : Nat) : Int) - 1) = ((full n : Nat) : Int) := by
  have h1 := Nat.two_pow_pos n
  unfold full
  rw [Nat.one_shiftLeft]
  omega
section
variable {P : Program} {w : World} {K : PySem.W.Frag} {mg : Str → Option Value} {base : Heap}
abbrev sWidth : Stmt := top 19
theorem scWidth : FnScope ["_law_hand_here", "_law_way"] ["_law_hand_here"] (defScope sWidth) := ⟨rfl, rfl, rfl, by decide +kernel, rfl, by decide +kernel, by decide +kernel⟩
theorem ok_width {f : Addr} {fd : FuncData} (F : Fun K "_law_width" "_law_width" sWidth f fd) (D : Dn P w K mg base "_law_draw" ["_law_hand_here", "_law_many"] 1 spDraw) : FnOk P w K mg base CX0 2 f fd ["_law_hand_here"] spWidth := by
  refine F.ok scWidth (fun vs H Q E h => ?_) (fun cdv A outer s H vs Q E hr h => ?_)
  · obtain ⟨h, L, rfl, _⟩ := h
    rfl
  · obtain ⟨h, L, rfl, hA, q⟩ := h
    refine ⟨_, pss_cons (ps_set (i := 1) scWidth.nd rfl (.inl rfl) (pe_dn D hr (by rfl) (pa_cons (pv 0) (pa_cons pe_int pa_nil))))
      (pss_cons (ps_if (pt_cmpR op_eq (pv 1) pe_int (nomark _)) (pss_one (ps_ret (pe_op op_sub pe_int (pe_dn D hr (by rfl) (pa_cons (pv 0) (pa_cons pe_int pa_nil)))))) pss_nil)
      (pss_cons (ps_if (pt_cmpR op_lt (pv 1) pe_int (nomark _)) (pss_one (ps_ret (pe_op op_add pe_int (pe_dn D hr (by rfl) (pa_cons (pv 0) (pa_cons pe_int pa_nil)))))) pss_nil)
      (pss_one (ps_ret (pe_op op_add pe_int (pe_dn D hr (by rfl) (pa_cons (pv 0) (pa_cons pe_int pa_nil)))))))), ?_⟩
    refine ⟨_, rfl, h, L, 8, rfl, by decide, by decide, hA, fun H1 way w0 w1 hA1 k1 => ?_⟩
    refine ⟨_, rfl, rfl, _, rfl, ite2 (fun e => ?_) (fun e => ?_)⟩
    · refine ⟨_, rfl, h, L, 17, rfl, by decide, by decide, hA1, fun H2 r r0 r1 hA2 k2 => ?_⟩
      refine ⟨64, r, rfl, rfl, ?_⟩
      obtain ⟨k, ek⟩ := nat_of (show (0 : Int) ≤ 64 - r by omega)
      show Q (.int (64 - r)) H2
      rw [ek]
      exact q H2 k (by omega) (by omega) hA2 (k1.trans k2)
    · refine ⟨_, rfl, way, 3, rfl, rfl, _, rfl, ite2 (fun e => ?_) (fun e => ?_)⟩
      · refine ⟨_, rfl, h, L, 25, rfl, by decide, by decide, hA1, fun H2 r r0 r1 hA2 k2 => ?_⟩
        refine ⟨9, r, rfl, rfl, ?_⟩
        obtain ⟨k, ek⟩ := nat_of (show (0 : Int) ≤ 9 + r by omega)
        show Q (.int (9 + r)) H2
        rw [ek]
        exact q H2 k (by omega) (by omega) hA2 (k1.trans k2)
      · refine ⟨_, rfl, h, L, 8, rfl, by decide, by decide, hA1, fun H2 r r0 r1 hA2 k2 => ?_⟩
        refine ⟨1, r, rfl, rfl, ?_⟩
        obtain ⟨k, ek⟩ := nat_of (show (0 : Int) ≤ 1 + r by omega)
        show Q (.int (1 + r)) H2
        rw [ek]
        exact q H2 k (by omega) (by omega) hA2 (k1.trans k2)
abbrev sWord : Stmt := top 20
theorem scWord : FnScope ["_law_hand_here", "_law_width_here", "_law_whole", "_law_way", "_law_drawn", "_law_k"] ["_law_hand_here", "_law_width_here"] (defScope sWord) := ⟨rfl, rfl, rfl, by decide +kernel, rfl, by decide +kernel, by decide +kernel⟩
theorem ok_word {f : Addr} {fd : FuncData} (F : Fun K "_law_word" "_law_word" sWord f fd) (D : Dn P w K mg base "_law_draw" ["_law_hand_here", "_law_many"] 1 spDraw) (zr : mg "range" = none) : FnOk P w K mg base CX0 2 f fd ["_law_hand_here", "_law_width_here"] spWord := by
  refine F.ok scWord (fun vs H Q E h => ?_) (fun cdv A outer s H vs Q E hr h => ?_)
  · obtain ⟨h, L, n, rfl, _⟩ := h
    rfl
  · obtain ⟨h, L, n, rfl, hn1, hn2, hA, q⟩ := h
    refine ⟨_, C8.pss_cut (ps_set (i := 2) scWord.nd rfl (.inl rfl) (pe_op op_sub (pe_op nn_shl pe_int (pv 1)) pe_int))
      (pss_cons (ps_set (i := 3) scWord.nd rfl (.inl rfl) (pe_dn D hr (by rfl) (pa_cons (pv 0) (pa_cons pe_int pa_nil))))
      (pss_cons (ps_if (pt_cmpR op_lt (pv 3) pe_int (nomark _)) (pss_one (ps_ret (pe_ix ix_list (pe_lst (pa_cons pe_int (pa_cons (pv 2) pa_nil))) (pv 3) (fun _ _ => rfl)))) pss_nil)
      (pss_cons (ps_if (pt_cmpR op_eq (pv 3) pe_int (nomark _)) (pss_one (ps_ret (pe_op nn_shl pe_int (pe_dn D hr (by rfl) (pa_cons (pv 0) (pa_cons (pv 1) pa_nil)))))) pss_nil)
      (pss_cons (ps_if (pt_cmpR op_eq (pv 3) pe_int (nomark _)) (pss_one (ps_ret (pe_op nn_and (pe_op nn_shl (pe_op op_fdiv (pv 2) pe_int) (pe_dn D hr (by rfl) (pa_cons (pv 0) (pa_cons pe_int pa_nil)))) (pv 2)))) pss_nil)
      (pss_cons (ps_set (i := 4) scWord.nd rfl (.inl rfl) pe_int)
      (pss_cons (ps_for PassesOwn.never rfl (pi_range1 (by rfl) zr (pa_cons pe_int pa_nil)) (pg_name (i := 5) scWord.nd rfl (.inl rfl))
        (pss_one (ps_set (i := 4) scWord.nd rfl (.inl rfl) (pe_op nn_or (pe_op nn_shl (pv 4) pe_int) (pe_dn D hr (by rfl) (pa_cons (pv 0) (pa_cons (pe_op nn_shl pe_int pe_int) pa_nil)))))))
      (pss_one (ps_ret (pe_op nn_and (pe_op nn_shr (pv 4) (pe_dn D hr (by rfl) (pa_cons (pv 0) (pa_cons pe_int pa_nil)))) (pv 2)))))))))), ?_⟩
    refine ⟨fun σ' H' => σ' = [some (.ref h), some (.int (n : Int)), some (.int ((full n : Nat) : Int)), none, none, none] ∧ H = H', ?_, ?_⟩
    · refine ⟨_, rfl, 1, n, rfl, rfl, ⟨by decide, by omega⟩, _, _, rfl, rfl, ?_, rfl⟩
      show [some (.ref h), some (.int (n : Int)), some (V.int (((1 <<< n : Nat) : Int) - 1)), none, none, none] = _
      rw [oneShl]
    rintro σ' H' ⟨rfl, rfl⟩
    have hf := full_lt n
    have hf64 := full64 hn2
    refine ⟨_, rfl, h, L, 8, rfl, by decide, by decide, hA, fun H1 way w0 w1 hA1 k1 => ?_⟩
    refine ⟨_, rfl, way, 2, rfl, rfl, _, rfl, ite2 (fun e => ?_) (fun e => ?_)⟩
    · have e : way < 2 := of_decide_eq_true e
      refine ⟨_, rfl, by show 2 ≤ sizeLine; decide, fun p np => ?_⟩
      have s1 := same_new (o := .lst [V.int 0, V.int ((full n : Nat) : Int)]) np
      have hA2 := hA1.same s1
      have k2 := k1.trans (Same.keep s1)
      obtain ⟨j, rfl⟩ := nat_of w0
      have hj : j = 0 ∨ j = 1 := by omega
      rcases hj with rfl | rfl
      · exact ⟨_, rfl, p, _, _, _, rfl, rfl, SqL.of upd_same, atI_nat (j := 0) rfl, q _ 0 (Nat.two_pow_pos n) hA2 k2⟩
      · exact ⟨_, rfl, p, _, _, _, rfl, rfl, SqL.of upd_same, atI_nat (j := 1) rfl, q _ (full n) hf hA2 k2⟩
    refine ⟨_, rfl, rfl, _, rfl, ite2 (fun e => ?_) (fun e => ?_)⟩
    · refine ⟨_, rfl, _, rfl, h, L, (n : Int), rfl, by omega, by omega, hA1, fun H2 r r0 r1 hA2 k2 => ?_⟩
      obtain ⟨k, rfl⟩ := nat_of r0
      refine ⟨1, k, rfl, rfl, ⟨by decide, by omega⟩, q H2 (1 <<< k) ?_ hA2 (k1.trans k2)⟩
      rw [Nat.one_shiftLeft]
      exact Nat.pow_lt_pow_right (by decide) (by omega)
    refine ⟨_, rfl, rfl, _, rfl, ite2 (fun e => ?_) (fun e => ?_)⟩
    · refine ⟨_, rfl, ((full n : Nat) : Int), 3, rfl, rfl, ⟨by decide, by decide⟩, _, rfl, h, L, 2, rfl, by decide, by decide, hA1, fun H2 r r0 r1 hA2 k2 => ?_⟩
      obtain ⟨k, rfl⟩ := nat_of r0
      refine ⟨full n / 3, k, congrArg V.int (by omega), rfl, ⟨by omega, by omega⟩, _, rfl, _, full n, rfl, rfl, trivial, q H2 _ ?_ hA2 (k1.trans k2)⟩
      exact Nat.and_lt_two_pow _ hf
    refine ⟨4, rfl, by decide, by decide, for_range (lo := 0) (n := 4) (fun i σ H' => ∃ (d : Nat) (v5 : Option V), σ = [some (.ref h), some (.int (n : Int)), some (.int ((full n : Nat) : Int)), some (.int way), some (.int (d : Int)), v5] ∧ d < 2 ^ (16 * i) ∧ Hand H' h L ∧ Keep h H H')
      ⟨0, none, rfl, by decide, hA1, k1⟩ ?_ ?_⟩
    · rintro i σ H' hi ⟨d, v5, rfl, hd, hA2, k2⟩
      have hd64 : d < 2 ^ 64 := Nat.lt_of_lt_of_le hd (Nat.pow_le_pow_right (by decide) (by omega))
      refine ⟨_, rfl, d, 16, rfl, rfl, ⟨hd64, by decide⟩, _, rfl, 1, 16, rfl, rfl, ⟨by decide, by decide⟩, h, L, ((1 <<< 16 : Nat) : Int), rfl, by decide, by decide, hA2, fun H3 r r0 r1 hA3 k3 => ?_⟩
      obtain ⟨k, rfl⟩ := nat_of r0
      have hk : k < 2 ^ 16 := by
        have e1 : (1 <<< 16 : Nat) = 2 ^ 16 := by decide
        rw [e1] at r1
        omega
      refine ⟨_, k, rfl, rfl, trivial, (d <<< 16) ||| k, _, rfl, ?_, hA3, k2.trans k3⟩
      refine Nat.or_lt_two_pow ?_ (Nat.lt_of_lt_of_le hk (Nat.pow_le_pow_right (by decide) (by omega)))
      rw [Nat.shiftLeft_eq, show 16 * (i + 1) = 16 * i + 16 by omega, Nat.pow_add]
      exact Nat.mul_lt_mul_of_pos_right hd (by decide)
    · rintro σ H' ⟨d, v5, rfl, hd, hA2, k2⟩
      refine ⟨_, rfl, _, rfl, h, L, 33, rfl, by decide, by decide, hA2, fun H3 r r0 r1 hA3 k3 => ?_⟩
      obtain ⟨k, rfl⟩ := nat_of r0
      exact ⟨d, k, rfl, rfl, trivial, _, rfl, _, full n, rfl, rfl, trivial, q H3 _ (Nat.and_lt_two_pow _ hf) hA3 (k2.trans k3)⟩
/-! ### even leadings -/
abbrev sEvn : Stmt := top 22
theorem scEvn : FnScope ["_law_hand_here", "_law_width_here", "_law_left", "_law_found"] ["_law_hand_here", "_law_width_here"] (defScope sEvn) := ⟨rfl, rfl, rfl, by decide +kernel, rfl, by decide +kernel, by decide +kernel⟩
theorem iv_erase : ∀ (ls : List Int) (k : Nat), (iv ls).eraseIdx k = iv (ls.eraseIdx k)
  | [], _ => rfl
  | _ :: _, 0 => rfl
  | x :: r, k + 1 => by
    show V.int x :: (iv r).eraseIdx k = V.int x :: iv (r.eraseIdx k)
    rw [iv_erase r k]
theorem iv_snoc (ls : List Int) (e : Int) : iv ls ++ [V.int e] = iv (ls ++ [e]) := by
  show _ = List.map _ _
  rw [List.map_append]
  rfl
theorem ok_evn {f : Addr} {fd : FuncData} (F : Fun K "_law_even" "_law_even" sEvn f fd) (D : Dn P w K mg base "_law_draw" ["_law_hand_here", "_law_many"] 1 spDraw) (zl : mg "list" = none) (zr : mg "range" = none) (zn : mg "len" = none) (zt : mg "tuple" = none) :
    FnOk P w K mg base CX0 2 f fd ["_law_hand_here", "_law_width_here"] spDrawn := by
  refine F.ok scEvn (fun vs H Q E h => ?_) (fun cdv A outer s H vs Q E hr h => ?_)
  · obtain ⟨h, L, n, rfl, _⟩ := h
    rfl
  · obtain ⟨h, L, n, rfl, hn1, hn2, hA, q⟩ := h
    refine ⟨_, pss_cons (ps_set (i := 2) scEvn.nd rfl (.inl rfl) (pe_listRg rfl (by rfl) zl (prg_1 (by rfl) zr (pv 1)))) (pss_cons (ps_set (i := 3) scEvn.nd rfl (.inl rfl) (pe_lst pa_nil))
      (pss_cons (ps_while PassesOwn.never (pt_cmpR (op_neD hr.units) (pv 2) (pe_lst pa_nil) (nomark _))
        (pss_one (ps_expr (pe_bm PySem.F.plainAttrs_list PySem.F.slot_list_append PySem.F.type_list_append mt_append (pv 3) (pa_cons
          (pe_bm PySem.F.plainAttrs_list PySem.F.slot_list_pop PySem.F.type_list_pop mt_popAt (pv 2) (pa_cons (pe_dn D hr (by rfl) (pa_cons (pv 0) (pa_cons (pe_callB call_len_seq (by rfl) zn PySem.boot_len (pa_cons (pv 2) pa_nil)) pa_nil))) pa_nil)) pa_nil)))))
      (pss_one (ps_ret (pe_callTy call_tuple_of (by rfl) zt boot_tuple (pa_cons (pv 3) pa_nil)))))), ?_⟩
    refine ⟨_, rfl, (n : Int), rfl, RgOk.of_le (by omega) (by omega) (by omega) (by omega), fun l nl => ?_⟩
    rw [rgV_ups]
    have s1 := same_new (o := .lst (iv (ups n))) nl
    refine ⟨Nat.zero_le _, fun o no => ?_⟩
    have s2 := same_new (o := .lst []) no
    have no0 : H o = none := s1.free no
    have hlo : l ≠ o := fun e => by
      rw [← e, upd_same] at no
      cases no
    have lh := hA.neH nl
    have lL := hA.neL nl
    have oh := hA.neH no0
    have oL := hA.neL no0
    refine ⟨fun m σ H' => ∃ xs ys : List Int, m = xs.length ∧ σ = [some (.ref h), some (.int (n : Int)), some (.ref l), some (.ref o)] ∧ H' l = some (.lst (iv xs)) ∧ H' o = some (.lst (iv ys)) ∧ xs.length + ys.length = n ∧ (∀ e ∈ xs, 0 ≤ e ∧ e < (n : Int)) ∧ (∀ e ∈ ys, 0 ≤ e ∧ e < (n : Int)) ∧ Hand H' h L ∧ Keep h H H',
      ⟨n, ups n, [], (ups_len n).symm, rfl, s2 _ _ upd_same, upd_same, by rw [ups_len]; rfl, fun e he => mem_ups.mp he, fun e he => (by cases he), (hA.same s1).same s2, Same.keep (s1.trans s2)⟩, ?_⟩
    rintro m σ H1 ⟨xs, ys, rfl, rfl, hl, ho, hlen, hx, hy, hA1, k1⟩
    refine ⟨_, rfl, Nat.zero_le _, fun t nt => ?_⟩
    have s3 := same_new (o := .lst []) nt
    have hl2 := s3 _ _ hl
    have ho2 := s3 _ _ ho
    have hA2 := hA1.same s3
    have k2 := k1.trans (Same.keep s3)
    refine ⟨.list (xs.map .int), .list (([] : List Int).map .int), .lst (SqL.of hl2) (dpInts _), .lst (SqL.of upd_same) (dpInts []), PySem.W.ke_shaped_ints _, PySem.W.ke_shaped_ints _, _, rfl, ?_⟩
    rw [PyData.eqv, eqvInts]
    refine ite2 (fun e => ?_) (fun e => ?_)
    · have hne : xs ≠ [] := fun z => by
        rw [decide_eq_true z] at e
        cases e
      have hpos : 0 < xs.length := List.length_pos_iff.mpr hne
      generalize hH2 : upd H1 t (.lst []) = H2 at hl2 ho2 hA2 k2
      refine ⟨fun σ' H' => ∃ xs' ys' : List Int, xs'.length + 1 = xs.length ∧ σ' = [some (.ref h), some (.int (n : Int)), some (.ref l), some (.ref o)] ∧ H' l = some (.lst (iv xs')) ∧ H' o = some (.lst (iv ys')) ∧ xs'.length + ys'.length = n ∧ (∀ e ∈ xs', 0 ≤ e ∧ e < (n : Int)) ∧ (∀ e ∈ ys', 0 ≤ e ∧ e < (n : Int)) ∧ Hand H' h L ∧ Keep h H H', ?_, ?_⟩
      · rintro σ' H' ⟨xs', ys', e1, rfl, a1, a2, a3, a4, a5, a6, a7⟩
        exact ⟨xs'.length, by omega, xs', ys', rfl, rfl, a1, a2, a3, a4, a5, a6, a7⟩
      refine ⟨.ref o, rfl, .inl ⟨rfl, _, SqL.of ho2⟩, .ref l, rfl, .inl ⟨rfl, _, SqL.of hl2⟩, _, rfl, _, rfl, l, _, rfl, .inl (SqL.of hl2), h, L, _, rfl, ?_, ?_, hA2, fun H3 r r0 r1 hA3 k3 => ?_⟩
      · rw [List.length_map]
        omega
      · rw [List.length_map]
        omega
      obtain ⟨k, rfl⟩ := nat_of r0
      rw [List.length_map] at r1
      have hk : k < xs.length := by omega
      have hl3 := k3 _ _ lh hl2
      have ho3 := k3 _ _ oh ho2
      have hxk := hx _ (List.getElem_mem hk)
      refine ⟨l, iv xs, (k : Int), k, V.int xs[k], rfl, rfl, hl3, by omega, by omega, (ixN_seq ?_).1, iv_of (List.getElem?_eq_getElem hk), ?_⟩
      · unfold ixN
        rw [List.length_map, if_pos (by omega), if_pos (by omega), Int.toNat_natCast]
      rw [iv_erase]
      have lerase : (xs.eraseIdx k).length + 1 = xs.length := by
        rw [List.length_eraseIdx_of_lt hk]
        omega
      refine ⟨o, iv ys, V.int xs[k], rfl, rfl, by rw [upd_ne hlo.symm]; exact ho3, ?_, xs.eraseIdx k, ys ++ [xs[k]], lerase, rfl, ?_, ?_, ?_, ?_, ?_, ?_, ?_⟩
      · rw [List.length_map]
        exact sizeOk (by omega)
      · rw [upd_ne hlo, upd_same]
      · rw [upd_same, iv_snoc]
      · rw [List.length_append, List.length_singleton]
        omega
      · intro e he
        exact hx e (List.mem_of_mem_eraseIdx he)
      · intro e he
        rcases List.mem_append.mp he with z | z
        · exact hy e z
        · rw [List.mem_singleton] at z
          rw [z]
          exact hxk
      · exact (hA3.upd lh lL).upd oh oL
      · exact ((k2.trans k3).at nl).at no0
    · have hxs : xs = [] := by
        cases xs with
        | nil => rfl
        | cons x r => exact absurd rfl e
      subst hxs
      refine ⟨_, rfl, o, _, rfl, .inl ⟨SqL.of ho2, fun p np => ?_⟩⟩
      have s4 := same_new (o := .tup (iv ys)) np
      refine q _ p ys ⟨by simpa using hlen, fun e he => ?_, fun e he => (hy e he).2⟩ upd_same (hA2.same s4) (k2.trans (Same.keep s4))
      have := (hy e he).1
      omega
/-! ### the places of an entry -/
abbrev sPlOf : Stmt := top 23
theorem scPlOf : FnScope ["_law_leading_here", "_law_place", "_law_k"] ["_law_leading_here", "_law_place"] (defScope sPlOf) := ⟨rfl, rfl, rfl, by decide +kernel, rfl, by decide +kernel, by decide +kernel⟩
theorem ok_plOf {f : Addr} {fd : FuncData} (F : Fun K "_law_places_of" "_law_places_of" sPlOf f fd) (D : Dn P w K mg base "mask_of" ["places"] 1 (spMask K)) (zr : mg "range" = none) (zn : mg "len" = none) :
    FnOk P w K mg base CX0 2 f fd ["_law_leading_here", "_law_place"] (spPlOf K) := by
  refine F.ok scPlOf (fun vs H Q E h => ?_) (fun cdv A outer s H vs Q E hr h => ?_)
  · obtain ⟨a, ls, p, rfl, _⟩ := h
    rfl
  · obtain ⟨a, ls, p, rfl, hS, hlen, q⟩ := h
    refine ⟨_, pss_one (ps_ret (pe_dn D hr (by rfl) (pa_cons (pe_lc (own := [("_law_k", 2)]) (g := gName 2) rfl scPlOf.nd (pi_range1 (by rfl) zr (pa_cons (pe_callB call_len_seq (by rfl) zn PySem.boot_len (pa_cons (pv 0) pa_nil)) pa_nil))
      (blkOk_by (N := ["_law_leading_here", "_law_place", "_law_k"]) (sc := defScope sPlOf) (by decide +kernel))
      (fun _ _ _ _ _ => pg_name (i := 2) scPlOf.nd rfl (.inl rfl)) (fun _ _ _ _ _ => pts_one (pt_cmpR op_eq (pe_ix (show IxR _ (rIxT K) from ix_tup) (pv 0) (pv 2) (fun _ _ => rfl)) (pv 1) (nomark _))) (fun _ _ _ _ _ => pv 2)) pa_nil))), ?_⟩
    refine ⟨.ref a, rfl, a, _, rfl, .inr hS, _, rfl, ?_, ?_, fun o no => ?_⟩
    · rw [List.length_map]
      omega
    · rw [List.length_map]
      omega
    refine lc_range (lo := 0) (n := (iv ls).length) (fun i H' => Same H H' ∧ H' o = some (.lst (nv (plList ls p i)))) ⟨same_new no, upd_same⟩ ?_ ?_
    · rintro i H' hi ⟨sm, ho⟩
      rw [List.length_map] at hi
      have he := List.getElem?_eq_getElem hi
      refine ⟨rfl, _, rfl, _, rfl, a, iv ls, _, V.int ls[i], rfl, rfl, Same.tup sm hS, at_of (j := i) (Int.zero_add _) (iv_of he), _, rfl, rfl, _, rfl, ite2 (fun e => ?_) (fun e => ?_)⟩
      · have e := V.int.inj (of_decide_eq_true e)
        refine ⟨_, rfl, _, ho, ?_, ?_, ?_⟩
        · rw [List.length_map]
          have := plList_len ls p i
          exact sizeOk (by omega)
        · intro b u z
          rw [upd_ne (ne_of_none z no)]
          exact sm _ _ z
        · rw [upd_same, plList_succ ls p _ i he, if_pos e, ← nv_snoc, Int.zero_add]
      · have e : ¬ ls[i] = p := fun z => e (decide_eq_true (by rw [z]))
        refine ⟨sm, ?_⟩
        rw [ho, plList_succ ls p _ i he, if_neg e, List.append_nil]
    · rintro H' ⟨sm, ho⟩
      rw [List.length_map] at ho
      refine ⟨o, _, rfl, SqL.of ho, fun k hk => ?_, q H' sm⟩
      have := plList_lt ls p _ k hk
      omega
end
end BL
/-! ## BlDefs5 -/
/-! The law's drawn leadings. -/
namespace BL
open PySem PySem.Spec PyProof.Rows L2
section
variable {P : Program} {w : World} {K : PySem.W.Frag} {mg : Str → Option Value} {base : Heap}
abbrev sLdg : Stmt := top 21
abbrev nLdg : List Str := ["_law_hand_here", "_law_width_here", "_law_way", "_law_some", "_law_p", "_law_k"]
theorem scLdg : FnScope nLdg ["_law_hand_here", "_law_width_here"] (defScope sLdg) := ⟨rfl, rfl, rfl, by decide +kernel, rfl, by decide +kernel, by decide +kernel⟩
theorem ok_ldg {f : Addr} {fd : FuncData} (F : Fun K "_law_leading" "_law_leading" sLdg f fd) (D : Dn P w K mg base "_law_draw" ["_law_hand_here", "_law_many"] 1 spDraw) (De : Dn P w K mg base "_law_even" ["_law_hand_here", "_law_width_here"] 2 spDrawn)
    (zr : mg "range" = none) (zt : mg "tuple" = none) :
    FnOk P w K mg base CX0 3 f fd ["_law_hand_here", "_law_width_here"] spDrawn := by
  refine F.ok scLdg (fun vs H Q E h => ?_) (fun cdv A outer s H vs Q E hr h => ?_)
  · obtain ⟨h, L, n, rfl, _⟩ := h
    rfl
  · obtain ⟨h, L, n, rfl, hn1, hn2, hA, q⟩ := h
    have hr1 : Room 1 _ := hr.mono (by decide)
    refine ⟨_, pss_cons (ps_set (i := 2) scLdg.nd rfl (.inl rfl) (pe_dn D hr1 (by rfl) (pa_cons (pv 0) (pa_cons pe_int pa_nil))))
      (pss_cons (ps_if (pt_cmpR op_eq (pv 2) pe_int (nomark _)) (pss_one (ps_ret (pe_callTy call_tuple_of (by rfl) zt boot_tuple (pa_cons
        (pe_lc (own := [("_law_p", 4)]) (g := gName 4) (tt := tYes) rfl scLdg.nd (pi_range1 (by rfl) zr (pa_cons (pv 1) pa_nil)) (blkOk_by (N := nLdg) (sc := defScope sLdg) (by decide +kernel))
          (fun _ _ _ _ _ => pg_name (i := 4) scLdg.nd rfl (.inl rfl)) (fun _ _ _ _ _ => pts_nil)
          (fun _ _ _ _ _ => pe_op op_sub (pe_dn D hr1 (by rfl) (pa_cons (pv 0) (pa_cons (pe_op op_add (pv 1) pe_int) pa_nil))) pe_int)) pa_nil)))) pss_nil)
      (pss_cons (ps_if (pt_cmpR op_eq (pv 2) pe_int (nomark _))
        (pss_cons (ps_set (i := 3) scLdg.nd rfl (.inr rfl)
          (pe_lc (own := [("_law_k", 5)]) (g := gName 5) (tt := tYes) rfl scLdg.nd (pi_range1 (by rfl) zr (pa_cons pe_int pa_nil)) (blkOk_by (N := nLdg) (sc := defScope sLdg) (by decide +kernel))
            (fun _ _ _ _ _ => pg_name (i := 5) scLdg.nd rfl (.inl rfl)) (fun _ _ _ _ _ => pts_nil)
            (fun _ _ _ _ _ => pe_dn D hr1 (by rfl) (pa_cons (pv 0) (pa_cons (pv 1) pa_nil)))))
        (pss_one (ps_ret (pe_callTy call_tuple_of (by rfl) zt boot_tuple (pa_cons
          (pe_lc (own := [("_law_p", 4)]) (g := gName 4) (tt := tYes) rfl scLdg.nd (pi_range1 (by rfl) zr (pa_cons (pv 1) pa_nil)) (blkOk_by (N := nLdg) (sc := defScope sLdg) (by decide +kernel))
            (fun _ _ _ _ _ => pg_name (i := 4) scLdg.nd rfl (.inl rfl)) (fun _ _ _ _ _ => pts_nil)
            (fun _ _ _ _ _ => pe_ix (show IxR _ (rIxL K) from ix_list) (pe_op op_cat (pv 3) (pe_lst (pa_cons (pe_un un_neg pe_int) (pa_cons (pe_un un_neg pe_int) pa_nil)))) (pe_dn D hr1 (by rfl) (pa_cons (pv 0) (pa_cons pe_int pa_nil))) (fun _ _ => rfl))) pa_nil))))) pss_nil)
      (pss_cons (ps_if (pt_cmpR op_eq (pv 2) pe_int (nomark _)) (pss_one (ps_ret (pe_dn De hr (by rfl) (pa_cons (pv 0) (pa_cons (pv 1) pa_nil))))) pss_nil)
      (pss_one (ps_ret (pe_callTy call_tuple_of (by rfl) zt boot_tuple (pa_cons
        (pe_lc (own := [("_law_p", 4)]) (g := gName 4) (tt := tYes) rfl scLdg.nd (pi_range1 (by rfl) zr (pa_cons (pv 1) pa_nil)) (blkOk_by (N := nLdg) (sc := defScope sLdg) (by decide +kernel))
          (fun _ _ _ _ _ => pg_name (i := 4) scLdg.nd rfl (.inl rfl)) (fun _ _ _ _ _ => pts_nil)
          (fun _ _ _ _ _ => pe_ifExp (pt_cmpR op_gt (pe_dn D hr1 (by rfl) (pa_cons (pv 0) (pa_cons pe_int pa_nil))) pe_int (nomark _)) (pv 4)
            (pe_op op_sub (pe_un un_neg pe_int) (pe_dn D hr1 (by rfl) (pa_cons (pv 0) (pa_cons pe_int pa_nil)))))) pa_nil))))))), ?_⟩
    refine ⟨_, rfl, h, L, 4, rfl, by decide, by decide, hA, fun H1 way w0 w1 hA1 k1 => ?_⟩
    -- the end of each: a tuple of the made list
    have fin : ∀ (H2 : Hp) (o : Addr) (ks : List Int), H2 o = some (.lst (iv ks)) → ks.length = n → (∀ e ∈ ks, -2 ≤ e ∧ e < (n : Int)) → Hand H2 h L → Keep h H H2 → ∀ p, H2 p = none → Q (.ref p) (upd H2 p (.tup (iv ks))) := by
      intro H2 o ks ho hk he hA2 k2 p np
      have s3 := same_new (o := .tup (iv ks)) np
      exact q _ p ks ⟨hk, fun e z => (he e z).1, fun e z => (he e z).2⟩ upd_same (hA2.same s3) (k2.trans (Same.keep s3))
    refine ⟨_, rfl, rfl, _, rfl, ite2 (fun e => ?_) (fun e => ?_)⟩
    · refine ⟨_, rfl, (n : Int), rfl, by omega, by omega, fun o no => ?_⟩
      have oh := hA1.neH no
      have oL := hA1.neL no
      have no0 := k1.free no oh
      refine lc_range (lo := 0) (n := n) (fun i H' => ∃ ks : List Int, H' o = some (.lst (iv ks)) ∧ ks.length = i ∧ (∀ e ∈ ks, -2 ≤ e ∧ e < (n : Int)) ∧ Hand H' h L ∧ Keep h H H')
        ⟨[], upd_same, rfl, fun e z => (by cases z), hA1.upd oh oL, k1.at no0⟩ ?_ ?_
      · rintro i H' hi ⟨ks, ho, hk, he, hA2, k2⟩
        refine ⟨rfl, _, rfl, _, rfl, (n : Int), 2, rfl, rfl, h, L, _, rfl, by omega, by omega, hA2, fun H3 r r0 r1 hA3 k3 => ?_⟩
        refine ⟨r, 2, rfl, rfl, iv ks, k3 _ _ oh ho, ?_, ks ++ [r - 2], ?_, ?_, ?_, hA3.upd oh oL, (k2.trans k3).at no0⟩
        · rw [List.length_map]
          exact sizeOk (by omega)
        · rw [upd_same, iv_snoc]
        · rw [List.length_append, List.length_singleton]
          omega
        · intro e z
          rcases List.mem_append.mp z with z | z
          · exact he e z
          · rw [List.mem_singleton] at z
            omega
      · rintro H2 ⟨ks, ho, hk, he, hA2, k2⟩
        exact ⟨o, _, rfl, .inl ⟨SqL.of ho, fun p np => fin H2 o ks ho hk he hA2 k2 p np⟩⟩
    refine ⟨_, rfl, rfl, _, rfl, ite2 (fun e => ?_) (fun e => ?_)⟩
    · refine ⟨3, rfl, by decide, by decide, fun t nt => ?_⟩
      have th := hA1.neH nt
      have tL := hA1.neL nt
      have nt0 := k1.free nt th
      refine lc_range (lo := 0) (n := 3) (fun i H' => ∃ ks : List Int, H' t = some (.lst (iv ks)) ∧ ks.length = i ∧ (∀ e ∈ ks, -2 ≤ e ∧ e < (n : Int)) ∧ Hand H' h L ∧ Keep h H H')
        ⟨[], upd_same, rfl, fun e z => (by cases z), hA1.upd th tL, k1.at nt0⟩ ?_ ?_
      · rintro i H' hi ⟨ks, ho, hk, he, hA2, k2⟩
        refine ⟨rfl, _, rfl, _, rfl, h, L, (n : Int), rfl, by omega, by omega, hA2, fun H3 r r0 r1 hA3 k3 => ?_⟩
        refine ⟨iv ks, k3 _ _ th ho, ?_, ks ++ [r], ?_, ?_, ?_, hA3.upd th tL, (k2.trans k3).at nt0⟩
        · rw [List.length_map]
          exact sizeOk (by omega)
        · rw [upd_same, iv_snoc]
        · rw [List.length_append, List.length_singleton]
          omega
        · intro e z
          rcases List.mem_append.mp z with z | z
          · exact he e z
          · rw [List.mem_singleton] at z
            omega
      · rintro H2 ⟨us, ht, hus, hue, hA2, k2⟩
        refine ⟨_, rfl, (n : Int), rfl, by omega, by omega, fun o no => ?_⟩
        have oh := hA2.neH no
        have oL := hA2.neL no
        have no0 := k2.free no oh
        have to : t ≠ o := ne_of_none ht no
        refine lc_range (lo := 0) (n := n) (fun i H' => ∃ ks : List Int, H' o = some (.lst (iv ks)) ∧ ks.length = i ∧ (∀ e ∈ ks, -2 ≤ e ∧ e < (n : Int)) ∧ H' t = some (.lst (iv us)) ∧ Hand H' h L ∧ Keep h H H')
          ⟨[], upd_same, rfl, fun e z => (by cases z), by rw [upd_ne to]; exact ht, hA2.upd oh oL, k2.at no0⟩ ?_ ?_
        · rintro i H' hi ⟨ks, ho, hk, he, ht', hA3, k3⟩
          refine ⟨rfl, _, rfl, 1, rfl, 2, rfl, by show 2 ≤ sizeLine; decide, fun x nx => ?_⟩
          have sx := same_new (o := .lst [V.int (-1), V.int (-2)]) nx
          refine ⟨t, x, iv us, _, rfl, rfl, sx _ _ ht', upd_same, ?_, fun y ny => ?_⟩
          · rw [List.length_map, hus]
            decide
          have ecat : iv us ++ [V.int (-1), V.int (-2)] = iv (us ++ [-1, -2]) := by
            show _ = List.map _ _
            rw [List.map_append]
            rfl
          rw [ecat]
          have sy := same_new (o := .lst (iv (us ++ [-1, -2]))) ny
          have sxy := sx.trans sy
          refine ⟨_, rfl, h, L, 5, rfl, by decide, by decide, hA3.same sxy, fun H4 r r0 r1 hA4 k4 => ?_⟩
          obtain ⟨j, rfl⟩ := nat_of r0
          have yh := hA3.neH (sx.free ny)
          have hy4 := k4 _ _ yh upd_same
          have hj : j < (us ++ [-1, -2]).length := by
            rw [List.length_append, hus]
            show j < 5
            omega
          have hv : -2 ≤ (us ++ [-1, -2])[j] ∧ (us ++ [-1, -2])[j] < (n : Int) := by
            have hm := List.getElem_mem hj
            rcases List.mem_append.mp hm with z | z
            · exact hue _ z
            · have hz : (us ++ [-1, -2])[j] = -1 ∨ (us ++ [-1, -2])[j] = -2 := by simpa using z
              omega
          refine ⟨y, _, _, V.int (us ++ [-1, -2])[j], rfl, rfl, SqL.of hy4, atI_nat (iv_of (List.getElem?_eq_getElem hj)), iv ks, k4 _ _ oh (sxy _ _ ho), ?_, ks ++ [(us ++ [-1, -2])[j]], ?_, ?_, ?_, ?_, hA4.upd oh oL, ((k3.trans (Same.keep sxy)).trans k4).at no0⟩
          · rw [List.length_map]
            exact sizeOk (by omega)
          · rw [upd_same, iv_snoc]
          · rw [List.length_append, List.length_singleton]
            omega
          · intro e z
            rcases List.mem_append.mp z with z | z
            · exact he e z
            · rw [List.mem_singleton] at z
              rw [z]
              exact hv
          · rw [upd_ne to]
            exact k4 _ _ th (sxy _ _ ht')
        · rintro H3 ⟨ks, ho, hk, he, ht', hA3, k3⟩
          exact ⟨o, _, rfl, .inl ⟨SqL.of ho, fun p np => fin H3 o ks ho hk he hA3 k3 p np⟩⟩
    refine ⟨_, rfl, rfl, _, rfl, ite2 (fun e => ?_) (fun e => ?_)⟩
    · exact ⟨_, rfl, _, rfl, h, L, n, rfl, hn1, hn2, hA1, fun H2 p ls hl hp hA2 k2 => q H2 p ls hl hp hA2 (k1.trans k2)⟩
    · refine ⟨_, rfl, (n : Int), rfl, by omega, by omega, fun o no => ?_⟩
      have oh := hA1.neH no
      have oL := hA1.neL no
      have no0 := k1.free no oh
      refine lc_range (lo := 0) (n := n) (fun i H' => ∃ ks : List Int, H' o = some (.lst (iv ks)) ∧ ks.length = i ∧ (∀ e ∈ ks, -2 ≤ e ∧ e < (n : Int)) ∧ Hand H' h L ∧ Keep h H H')
        ⟨[], upd_same, rfl, fun e z => (by cases z), hA1.upd oh oL, k1.at no0⟩ ?_ ?_
      · rintro i H' hi ⟨ks, ho, hk, he, hA2, k2⟩
        -- what is appended
        have app : ∀ (H3 : Hp) (v : Int), -2 ≤ v → v < (n : Int) → H3 o = some (.lst (iv ks)) → Hand H3 h L → Keep h H H3 →
            ∃ acc, H3 o = some (.lst acc) ∧ acc.length < sizeLine ∧ ∃ ks' : List Int, (upd H3 o (.lst (acc ++ [V.int v]))) o = some (.lst (iv ks')) ∧ ks'.length = i + 1 ∧ (∀ e ∈ ks', -2 ≤ e ∧ e < (n : Int)) ∧ Hand (upd H3 o (.lst (acc ++ [V.int v]))) h L ∧ Keep h H (upd H3 o (.lst (acc ++ [V.int v]))) := by
          intro H3 v v0 v1 ho3 hA3 k3
          refine ⟨iv ks, ho3, ?_, ks ++ [v], ?_, ?_, ?_, hA3.upd oh oL, k3.at no0⟩
          · rw [List.length_map]
            exact sizeOk (by omega)
          · rw [upd_same, iv_snoc]
          · rw [List.length_append, List.length_singleton]
            omega
          · intro e z
            rcases List.mem_append.mp z with z | z
            · exact he e z
            · rw [List.mem_singleton] at z
              omega
        refine ⟨rfl, _, rfl, h, L, 4, rfl, by decide, by decide, hA2, fun H3 r r0 r1 hA3 k3 => ?_⟩
        have ho3 := k3 _ _ oh ho
        refine ⟨r, 0, rfl, rfl, _, rfl, ite2 (fun e => ?_) (fun e => ?_)⟩
        · exact ⟨_, rfl, app H3 (0 + (i : Int)) (by omega) (by omega) ho3 hA3 (k2.trans k3)⟩
        · refine ⟨1, rfl, _, rfl, h, L, 2, rfl, by decide, by decide, hA3, fun H4 r' r0' r1' hA4 k4 => ?_⟩
          exact ⟨-1, r', rfl, rfl, app H4 (-1 - r') (by omega) (by omega) (k4 _ _ oh ho3) hA4 ((k2.trans k3).trans k4)⟩
      · rintro H2 ⟨ks, ho, hk, he, hA2, k2⟩
        exact ⟨o, _, rfl, .inl ⟨SqL.of ho, fun p np => fin H2 o ks ho hk he hA2 k2 p np⟩⟩
end
end BL
/-! ## BlDefs6 -/
/-! The law's two looks, and the law. -/
namespace BL
open PySem PySem.Spec PyProof.Rows L2
theorem inV_nv (k : Nat) (ps : List Nat) : inV (.int (k : Int)) (nv ps) = decide (k ∈ ps) := by
  unfold inV
  rw [List.any_map, Bool.eq_iff_iff, List.any_eq_true, decide_eq_true_iff]
  constructor
  · rintro ⟨j, hj, e⟩
    have e' : ((j : Int) == (k : Int)) = true := e
    have e2 : (j : Int) = (k : Int) := by simpa using e'
    have e3 : j = k := by omega
    rw [← e3]
    exact hj
  · intro h
    refine ⟨k, h, ?_⟩
    show ((k : Int) == (k : Int)) = true
    simp
theorem flat_nv (ps : List Nat) : (nv ps).all flatV = true := by
  rw [List.all_map, List.all_eq_true]
  intro _ _
  rfl
theorem iteNeg {b : Bool} {A B : Prop} (hb : b = false) (h : B) : if b = true then A else B := by
  rw [hb]
  exact iteF h
/-- the looks: of a leading and a word, True -/
def spLook (K : PySem.W.Frag) : Sp := fun vs H Q _ => ∃ (a : Addr) (ls : List Int) (m n : Nat), vs = [.ref a, .int (m : Int)] ∧ SqT K H a (iv ls) ∧ Lead n ls ∧ n ≤ 64 ∧ ∀ H' : Hp, Same H H' → Q (.bl true) H'
section
variable {P : Program} {w : World} {K : PySem.W.Frag} {mg : Str → Option Value} {base : Heap}
abbrev sCha : Stmt := top 24
theorem scCha : FnScope ["_law_leading_here", "_law_word_here", "_law_told", "_law_seen", "_law_place", "_law_changed"] ["_law_leading_here", "_law_word_here"] (defScope sCha) := ⟨rfl, rfl, rfl, by decide +kernel, rfl, by decide +kernel, by decide +kernel⟩
theorem ok_cha {f : Addr} {fd : FuncData} (F : Fun K "_law_bits_changed" "_law_bits_changed" sCha f fd) (Dl : Dn P w K mg base "led" ["leading", "word"] 3 (spLed K)) (Dp : Dn P w K mg base "_law_places_of" ["_law_leading_here", "_law_place"] 2 (spPlOf K))
    (Di : Dn P w K mg base "places_in" ["mask"] 1 spPlaces) (Dk : Dn P w K mg base "kept_by" ["leading"] 2 (spKept K)) (Df : Dn P w K mg base "full" ["width"] 1 spFull) (zr : mg "range" = none) (zn : mg "len" = none) :
    FnOk P w K mg base CX0 4 f fd ["_law_leading_here", "_law_word_here"] (spLook K) := by
  refine F.ok scCha (fun vs H Q E h => ?_) (fun cdv A outer s H vs Q E hr h => ?_)
  · obtain ⟨a, ls, m, n, rfl, _⟩ := h
    rfl
  · obtain ⟨a, ls, m, n, rfl, hS, hL, hn, q⟩ := h
    have hr1 : Room 1 _ := hr.mono (by decide)
    have hr2 : Room 2 _ := hr.mono (by decide)
    refine ⟨_, pss_cons (ps_set (i := 2) scCha.nd rfl (.inl rfl) (pe_dn Dl hr (by rfl) (pa_cons (pv 0) (pa_cons (pv 1) pa_nil))))
      (pss_cons (ps_set (i := 3) scCha.nd rfl (.inl rfl) pe_int)
      (pss_cons (ps_for PassesOwn.never rfl (pi_range1 (by rfl) zr (pa_cons (pe_callB call_len_seq (by rfl) zn PySem.boot_len (pa_cons (pv 0) pa_nil)) pa_nil)) (pg_name (i := 4) scCha.nd rfl (.inl rfl))
        (pss_cons (ps_set (i := 5) scCha.nd rfl (.inl rfl) (pe_op nn_xor (pe_dn Dl hr (by rfl) (pa_cons (pv 0) (pa_cons (pe_op nn_xor (pv 1) (pe_op nn_shl pe_int (pv 4))) pa_nil))) (pv 2)))
        (pss_cons (ps_if (pt_cmpR op_ne (pv 5) (pe_dn Dp hr2 (by rfl) (pa_cons (pv 0) (pa_cons (pv 4) pa_nil))) (nomark _)) (pss_one (ps_ret pe_bl)) pss_nil)
        (pss_cons (ps_if (PW.pt (pw_or (pt_cmpR op_ne (pe_cmpR op_eq (pv 5) pe_int (nomark _))
              (pe_cmpR op_notIn_seq (pv 4) (pe_dn Di hr1 (by rfl) (pa_cons (pe_dn Dk hr2 (by rfl) (pa_cons (pv 0) pa_nil)) pa_nil)) (by with_unfolding_all rfl)) (nomark _))
            (pw_or1 (pt_cmpR op_ne (pe_op nn_and (pv 3) (pv 5)) pe_int (nomark _))))) (pss_one (ps_ret pe_bl)) pss_nil)
        (pss_one (ps_set (i := 3) scCha.nd rfl (.inl rfl) (pe_op nn_or (pv 3) (pv 5))))))))
      (pss_one (ps_ret (pe_cmpR op_eq (pv 3) (pe_op nn_xor (pe_op nn_xor (pe_dn Df hr1 (by rfl) (pa_cons (pe_callB call_len_seq (by rfl) zn PySem.boot_len (pa_cons (pv 0) pa_nil)) pa_nil))
        (pe_dn Dp hr2 (by rfl) (pa_cons (pv 0) (pa_cons (pe_un un_neg pe_int) pa_nil)))) (pe_dn Dp hr2 (by rfl) (pa_cons (pv 0) (pa_cons (pe_un un_neg pe_int) pa_nil)))) (nomark _)))))), ?_⟩
    have hlen : ls.length ≤ 64 := by rw [hL.len]; exact hn
    have h64 : ∀ e ∈ ls, e < 64 := fun e he => by
      have := hL.hi e he
      omega
    refine ⟨_, rfl, _, rfl, a, ls, m, rfl, hS, hlen, fun H1 s1 => ?_⟩
    refine ⟨_, rfl, a, _, rfl, .inr (Same.tup s1 hS), _, rfl, ?_, ?_, ?_⟩
    · rw [List.length_map]
      omega
    · rw [List.length_map]
      omega
    rw [List.length_map, hL.len]
    refine for_range (lo := 0) (n := n) (fun i σ H' => Same H H' ∧ ∃ v4 v5 : Option V, σ = [some (.ref a), some (.int (m : Int)), some (.int ((ledN ls m : Nat) : Int)), some (.int ((seenTo ls i : Nat) : Int)), v4, v5]) ⟨s1, none, none, rfl⟩ ?_ ?_
    · rintro i σ H2 hi ⟨s2, v4, v5, rfl⟩
      rw [show (0 : Int) + (i : Int) = (i : Int) from Int.zero_add _]
      refine ⟨_, rfl, _, rfl, _, rfl, 1, i, rfl, rfl, ⟨by decide, by omega⟩, m, _, rfl, rfl, trivial, a, ls, _, rfl, Same.tup s2 hS, hlen, fun H3 s3 => ?_⟩
      have s13 := s2.trans s3
      refine ⟨_, rfl, _, ledN ls m, rfl, rfl, trivial, ?_⟩
      show tSeq _ _ _ [some (.ref a), some (.int (m : Int)), some (.int ((ledN ls m : Nat) : Int)), some (.int ((seenTo ls i : Nat) : Int)), some (.int (i : Int)), some (.int ((ledN ls (m ^^^ (1 <<< i)) ^^^ ledN ls m : Nat) : Int))] H3
      rw [changed_eq hL m i]
      refine ⟨_, rfl, _, rfl, _, rfl, a, ls, (i : Int), rfl, Same.tup s13 hS, hlen, fun H4 s4 => ⟨rfl, _, rfl, iteNS rfl ?_⟩⟩
      have s14 := s13.trans s4
      refine ⟨_, rfl, rfl, _, rfl, _, rfl, a, ls, rfl, Same.tup s14 hS, hlen, h64, fun H5 s5 => ?_⟩
      have hk64 : kept ls < 2 ^ 64 := Nat.lt_of_lt_of_le (kept_lt hL.hi) (Nat.pow_le_pow_right (by decide) hn)
      refine ⟨kept ls, rfl, hk64, fun H6 p s6 np hp => ?_⟩
      have s16 := (s14.trans s5).trans s6
      refine ⟨p, _, rfl, .inl (SqL.of hp), rfl, flat_nv _, rfl, _, rfl, iteNeg ?_ ?_⟩
      · have z := zero_iff hL hn i
        have e1 : decide (V.int ((plOf ls (i : Int) : Nat) : Int) = V.int 0) = !inV (.int (i : Int)) (nv (places (kept ls))) := by
          rw [inV_nv, Bool.eq_iff_iff, decide_eq_true_iff, Bool.not_eq_true', decide_eq_false_iff_not]
          constructor
          · intro q
            refine z.mp ?_
            have q' := V.int.inj q
            omega
          · intro q
            rw [z.mpr q]
            rfl
        show (!decide (V.bl (decide (V.int ((plOf ls (i : Int) : Nat) : Int) = V.int 0)) = V.bl (!inV (.int (i : Int)) (nv (places (kept ls)))))) = false
        rw [e1, decide_eq_true rfl]
        rfl
      · refine ⟨_, rfl, _, rfl, seenTo ls i, plOf ls (i : Int), rfl, rfl, trivial, rfl, _, rfl, iteNS ?_ ?_⟩
        · show V.int ((seenTo ls i &&& plOf ls (i : Int) : Nat) : Int) = V.int 0
          rw [seen_and]
          rfl
        · exact ⟨_, rfl, _, rfl, seenTo ls i, plOf ls (i : Int), rfl, rfl, trivial, s16, _, _, rfl⟩
    · rintro σ H2 ⟨s2, v4, v5, rfl⟩
      refine ⟨_, rfl, _, rfl, a, _, rfl, .inr (Same.tup s2 hS), ?_⟩
      rw [List.length_map, hL.len]
      refine ⟨n, rfl, hn, _, rfl, 1, rfl, a, ls, -1, rfl, Same.tup s2 hS, hlen, fun H3 s3 => ?_⟩
      have s23 := s2.trans s3
      refine ⟨full n, plOf ls (-1), rfl, rfl, trivial, _, rfl, 2, rfl, a, ls, -2, rfl, Same.tup s23 hS, hlen, fun H4 s4 => ?_⟩
      refine ⟨_, plOf ls (-2), rfl, rfl, trivial, rfl, ?_⟩
      show Q (.bl (decide (V.int ((seenTo ls n : Nat) : Int) = V.int ((full n ^^^ plOf ls (-1) ^^^ plOf ls (-2) : Nat) : Int)))) H4
      rw [seen_end hL, decide_eq_true rfl]
      exact q H4 (s23.trans s4)
abbrev sHlv : Stmt := top 25
theorem scHlv : FnScope ["_law_leading_here", "_law_word_here", "_law_width_here", "_law_one", "_law_other", "_law_ones", "_law_noughts"] ["_law_leading_here", "_law_word_here"] (defScope sHlv) := ⟨rfl, rfl, rfl, by decide +kernel, rfl, by decide +kernel, by decide +kernel⟩
theorem ok_hlv {f : Addr} {fd : FuncData} (F : Fun K "_law_halves_right" "_law_halves_right" sHlv f fd) (Dl : Dn P w K mg base "led" ["leading", "word"] 3 (spLed K)) (Dp : Dn P w K mg base "_law_places_of" ["_law_leading_here", "_law_place"] 2 (spPlOf K))
    (Df : Dn P w K mg base "full" ["width"] 1 spFull) (zn : mg "len" = none) : FnOk P w K mg base CX0 4 f fd ["_law_leading_here", "_law_word_here"] (spLook K) := by
  refine F.ok scHlv (fun vs H Q E h => ?_) (fun cdv A outer s H vs Q E hr h => ?_)
  · obtain ⟨a, ls, m, n, rfl, _⟩ := h
    rfl
  · obtain ⟨a, ls, m, n, rfl, hS, hL, hn, q⟩ := h
    have hr1 : Room 1 _ := hr.mono (by decide)
    have hr2 : Room 2 _ := hr.mono (by decide)
    refine ⟨_, pss_cons (ps_set (i := 2) scHlv.nd rfl (.inl rfl) (pe_callB call_len_seq (by rfl) zn PySem.boot_len (pa_cons (pv 0) pa_nil)))
      (pss_cons (ps_par (i := 3) (j := 4) (by rfl) scHlv.nd rfl rfl (by decide) rfl rfl (pa_cons (pe_dn Dl hr (by rfl) (pa_cons (pv 0) (pa_cons (pv 1) pa_nil)))
        (pa_cons (pe_dn Dl hr (by rfl) (pa_cons (pv 0) (pa_cons (pe_op nn_xor (pe_dn Df hr1 (by rfl) (pa_cons (pv 2) pa_nil)) (pv 1)) pa_nil))) pa_nil)) (by rfl))
      (pss_cons (ps_par (i := 5) (j := 6) (by rfl) scHlv.nd rfl rfl (by decide) rfl rfl (pa_cons (pe_dn Dp hr2 (by rfl) (pa_cons (pv 0) (pa_cons (pe_un un_neg pe_int) pa_nil)))
        (pa_cons (pe_dn Dp hr2 (by rfl) (pa_cons (pv 0) (pa_cons (pe_un un_neg pe_int) pa_nil))) pa_nil)) (by rfl))
      (pss_one (ps_ret (pe_and (pe_cmpR op_eq (pe_op nn_and (pv 3) (pv 4)) (pv 5) (nomark _))
        (pe_one (pe_cmpR op_eq (pe_op nn_or (pv 3) (pv 4)) (pe_op nn_xor (pe_dn Df hr1 (by rfl) (pa_cons (pv 2) pa_nil)) (pv 6)) (nomark _)))))))), ?_⟩
    have hlen : ls.length ≤ 64 := by rw [hL.len]; exact hn
    refine ⟨_, rfl, a, _, rfl, .inr hS, ?_⟩
    rw [List.length_map, hL.len]
    refine ⟨_, rfl, _, rfl, a, ls, m, rfl, hS, hlen, fun H1 s1 => ?_⟩
    refine ⟨_, rfl, _, rfl, n, rfl, hn, _, rfl, full n, m, rfl, rfl, trivial, a, ls, _, rfl, Same.tup s1 hS, hlen, fun H2 s2 => ?_⟩
    have s12 := s1.trans s2
    refine ⟨_, _, rfl, ?_⟩
    refine ⟨_, rfl, 2, rfl, a, ls, -2, rfl, Same.tup s12 hS, hlen, fun H3 s3 => ?_⟩
    have s13 := s12.trans s3
    refine ⟨_, rfl, 1, rfl, a, ls, -1, rfl, Same.tup s13 hS, hlen, fun H4 s4 => ?_⟩
    have s14 := s13.trans s4
    refine ⟨_, _, rfl, ?_⟩
    refine ⟨_, rfl, _, rfl, ledN ls m, ledN ls (full n ^^^ m), rfl, rfl, trivial, _, rfl, rfl, true, ?_, iteT ?_⟩
    · show V.bl (decide (V.int ((ledN ls m &&& ledN ls (full n ^^^ m) : Nat) : Int) = V.int ((plOf ls (-2) : Nat) : Int))) = V.bl true
      rw [halves_and hL, decide_eq_true rfl]
    · refine ⟨_, rfl, _, rfl, ledN ls m, ledN ls (full n ^^^ m), rfl, rfl, trivial, _, rfl, n, rfl, hn, _, rfl, full n, plOf ls (-1), rfl, rfl, trivial, rfl, ?_⟩
      show Q (.bl (decide (V.int ((ledN ls m ||| ledN ls (full n ^^^ m) : Nat) : Int) = V.int ((full n ^^^ plOf ls (-1) : Nat) : Int)))) H4
      rw [halves_or hL, decide_eq_true rfl]
      exact q H4 s14
end
end BL
/-! ## BlDefs7 -/
/-! The law. -/
namespace BL
open PySem PySem.Spec PyProof.Rows L2
def spLaw (K : PySem.W.Frag) : Sp := fun vs H Q _ => ∃ (a : Addr) (ns : List Int), vs = [.ref a] ∧ SqL K H a (iv ns) ∧ ns.length ≤ 63 ∧ ∀ H' : Hp, Q (.bl true) H'
section
variable {P : Program} {w : World} {K : PySem.W.Frag} {mg : Str → Option Value} {base : Heap}
abbrev sLaw : Stmt := top 26
theorem scLaw : FnScope ["_law_script", "_law_hand_here", "_law_turn", "_law_width_here", "_law_leading_here", "_law_word_here", "_law_even_here"] ["_law_script"] (defScope sLaw) := ⟨rfl, rfl, rfl, by decide +kernel, rfl, by decide +kernel, by decide +kernel⟩
theorem ok_law {f : Addr} {fd : FuncData} (F : Fun K "law" "law" sLaw f fd) (Dh : Dn P w K mg base "_law_hand" ["_law_script"] 1 (spHand K)) (Dw : Dn P w K mg base "_law_width" ["_law_hand_here"] 2 spWidth)
    (Dg : Dn P w K mg base "_law_leading" ["_law_hand_here", "_law_width_here"] 3 spDrawn) (Dx : Dn P w K mg base "_law_word" ["_law_hand_here", "_law_width_here"] 2 spWord) (De : Dn P w K mg base "_law_even" ["_law_hand_here", "_law_width_here"] 2 spDrawn)
    (Dc : Dn P w K mg base "_law_bits_changed" ["_law_leading_here", "_law_word_here"] 4 (spLook K)) (Dr : Dn P w K mg base "_law_halves_right" ["_law_leading_here", "_law_word_here"] 4 (spLook K))
    (Di : Dn P w K mg base "is_even" ["leading"] 1 (spEven K)) (Db : Dn P w K mg base "bits_in" ["mask"] 2 spBits) (Dl : Dn P w K mg base "led" ["leading", "word"] 3 (spLed K)) (Dt : Dn P w K mg base "turned_back" ["leading"] 2 (spBack K)) (zr : mg "range" = none) :
    FnOk P w K mg base CX0 5 f fd ["_law_script"] (spLaw K) := by
  refine F.ok scLaw (fun vs H Q E h => ?_) (fun cdv A outer s H vs Q E hr h => ?_)
  · obtain ⟨a, ns, rfl, _⟩ := h
    rfl
  · obtain ⟨a, ns, rfl, hS, hlen, q⟩ := h
    have hr1 : Room 1 _ := hr.mono (by decide)
    have hr2 : Room 2 _ := hr.mono (by decide)
    have hr3 : Room 3 _ := hr.mono (by decide)
    refine ⟨_, pss_cons (ps_set (i := 1) scLaw.nd rfl (.inl rfl) (pe_dn Dh hr1 (by rfl) (pa_cons (pv 0) pa_nil)))
      (pss_cons (ps_for PassesOwn.never rfl (pi_range1 (by rfl) zr (pa_cons pe_int pa_nil)) (pg_name (i := 2) scLaw.nd rfl (.inl rfl))
        (pss_cons (ps_set (i := 3) scLaw.nd rfl (.inl rfl) (pe_dn Dw hr2 (by rfl) (pa_cons (pv 1) pa_nil)))
        (pss_cons (ps_set (i := 4) scLaw.nd rfl (.inl rfl) (pe_dn Dg hr3 (by rfl) (pa_cons (pv 1) (pa_cons (pv 3) pa_nil))))
        (pss_cons (ps_set (i := 5) scLaw.nd rfl (.inl rfl) (pe_dn Dx hr2 (by rfl) (pa_cons (pv 1) (pa_cons (pv 3) pa_nil))))
        (C8.pss_cut (ps_if (PW.pt (pw_and (pt_cmpR op_lt (pv 3) pe_int (nomark _)) (pw_and1 (pt_not (pt_val (pe_dn Dc hr (by rfl) (pa_cons (pv 4) (pa_cons (pv 5) pa_nil)))))))) (pss_one (ps_ret pe_bl)) pss_nil)
        (pss_cons (ps_if (pt_not (pt_val (pe_dn Dr hr (by rfl) (pa_cons (pv 4) (pa_cons (pv 5) pa_nil))))) (pss_one (ps_ret pe_bl)) pss_nil)
        (pss_one (ps_for PassesOwn.never rfl (pi_tup (pe_tup (pa_cons (pv 4) (pa_cons (pe_dn De hr2 (by rfl) (pa_cons (pv 1) (pa_cons (pv 3) pa_nil))) pa_nil)))) (pg_name (i := 6) scLaw.nd rfl (.inl rfl))
          (pss_one (ps_if (pt_val (pe_dn Di hr1 (by rfl) (pa_cons (pv 6) pa_nil)))
            (pss_one (ps_if (PW.pt (pw_or (pt_cmpR op_ne (pe_dn Db hr2 (by rfl) (pa_cons (pe_dn Dl hr3 (by rfl) (pa_cons (pv 6) (pa_cons (pv 5) pa_nil))) pa_nil)) (pe_dn Db hr2 (by rfl) (pa_cons (pv 5) pa_nil)) (nomark _))
                (pw_or1 (pt_cmpR op_ne (pe_dn Dl hr3 (by rfl) (pa_cons (pe_dn Dt hr2 (by rfl) (pa_cons (pv 6) pa_nil)) (pa_cons (pe_dn Dl hr3 (by rfl) (pa_cons (pv 6) (pa_cons (pv 5) pa_nil))) pa_nil))) (pv 5) (nomark _)))))
              (pss_one (ps_ret pe_bl)) pss_nil)) pss_nil))))))))))
      (pss_one (ps_ret pe_bl))), ?_⟩
    refine ⟨_, rfl, a, ns, rfl, hS, hlen, fun H1 h s1 nh ⟨L, hA1⟩ => ?_⟩
    refine ⟨8, rfl, by decide, by decide, for_range (lo := 0) (n := 8) (fun i σ H' => ∃ v2 v3 v4 v5 v6 : Option V, σ = [some (.ref a), some (.ref h), v2, v3, v4, v5, v6] ∧ Hand H' h L) ⟨none, none, none, none, none, rfl, hA1⟩ ?_ ?_⟩
    · rintro i σ H2 hi ⟨v2, v3, v4, v5, v6, rfl, hA2⟩
      -- width, leading, word
      refine ⟨_, rfl, h, L, rfl, hA2, fun H3 n n1 n64 hA3 k3 => ?_⟩
      refine ⟨_, rfl, _, rfl, h, L, n, rfl, n1, n64, hA3, fun H4 p ls hl hp4 hA4 k4 => ?_⟩
      refine ⟨_, rfl, _, rfl, h, L, n, rfl, n1, n64, hA4, fun H5 x hx hA5 k5 => ?_⟩
      have ph : p ≠ h := by
        obtain ⟨_, _, _, _, g⟩ := hA4
        exact ne_of hp4 g.hh (by intro z; cases z)
      have hp5 := k5 _ _ ph hp4
      have hlen : ls.length ≤ 64 := by rw [hl.len]; exact n64
      have hx64 : x < 2 ^ 64 := Nat.lt_of_lt_of_le hx (Nat.pow_le_pow_right (by decide) n64)
      refine ⟨fun σ' H' => σ' = [some (.ref a), some (.ref h), some (.int (0 + (i : Int))), some (.int (n : Int)), some (.ref p), some (.int (x : Int)), v6] ∧ Hand H' h L ∧ H' p = some (.tup (iv ls)), ?_, ?_⟩
      · refine ⟨_, rfl, (n : Int), 34, rfl, rfl, _, rfl, ite2 (fun e => ?_) (fun e => iteF ⟨rfl, hA5, hp5⟩)⟩
        exact ⟨_, rfl, _, rfl, p, ls, x, n, rfl, SqT.of hp5, hl, n64, fun H6 s6 => ⟨true, rfl, iteF ⟨rfl, hA5.same s6, s6 _ _ hp5⟩⟩⟩
      · rintro σ' H6 ⟨rfl, hA6, hp6⟩
        refine ⟨_, rfl, _, rfl, p, ls, x, n, rfl, SqT.of hp6, hl, n64, fun H7 s7 => ⟨true, rfl, iteF ?_⟩⟩
        have hA7 := hA6.same s7
        have hp7 := s7 _ _ hp6
        -- for even in (leading, _law_even(..))
        refine ⟨_, rfl, _, rfl, _, rfl, h, L, n, rfl, n1, n64, hA7, fun H8 p' ls' hl' hp8' hA8 k8 => ?_⟩
        have hp8 := k8 _ _ ph hp7
        refine ⟨by show 2 ≤ sizeLine; decide, fun t nt => ?_⟩
        have s9 := same_new (o := .tup [V.ref p, V.ref p']) nt
        refine ⟨t, rfl, ⟨_, SqT.of upd_same⟩, for_tup (K := K) (a := t) (xs := [V.ref p, V.ref p']) (fun j σ H' => ∃ v6 : Option V, σ = [some (.ref a), some (.ref h), some (.int (0 + (i : Int))), some (.int (n : Int)), some (.ref p), some (.int (x : Int)), v6] ∧ Hand H' h L ∧
            H' p = some (.tup (iv ls)) ∧ H' p' = some (.tup (iv ls')) ∧ H' t = some (.tup [V.ref p, V.ref p'])) ⟨v6, rfl, hA8.same s9, s9 _ _ hp8, s9 _ _ hp8', upd_same⟩ (fun j σ H' _ ⟨_, _, _, _, _, g⟩ => SqT.of g) ?_ ?_⟩
        · rintro j y σ H9 hy ⟨w6, rfl, hA9, hp9, hp9', ht9⟩
          obtain ⟨e, es, rfl, he9, hes⟩ : ∃ (e : Addr) (es : List Int), y = V.ref e ∧ H9 e = some (.tup (iv es)) ∧ Lead n es := by
            match j, hy with
            | 0, hy => exact ⟨p, ls, (Option.some.inj hy).symm, hp9, hl⟩
            | 1, hy => exact ⟨p', ls', (Option.some.inj hy).symm, hp9', hl'⟩
            | j + 2, hy => cases hy
          have helen : es.length ≤ 64 := by rw [hes.len]; exact n64
          -- what every way leaves
          have done : ∀ H' : Hp, Same H9 H' → ∃ v6 : Option V, [some (V.ref a), some (V.ref h), some (V.int (0 + (i : Int))), some (V.int (n : Int)), some (V.ref p), some (V.int (x : Int)), some (V.ref e)] = [some (.ref a), some (.ref h), some (.int (0 + (i : Int))), some (.int (n : Int)), some (.ref p), some (.int (x : Int)), v6] ∧ Hand H' h L ∧
              H' p = some (.tup (iv ls)) ∧ H' p' = some (.tup (iv ls')) ∧ H' t = some (.tup [V.ref p, V.ref p']) := fun H' s' => ⟨_, rfl, hA9.same s', s' _ _ hp9, s' _ _ hp9', s' _ _ ht9⟩
          refine ⟨_, rfl, e, es, rfl, SqT.of he9, helen, fun H10 b s10 hb => ⟨b, rfl, ite2 (fun hbt => ?_) (fun _ => done H10 s10)⟩⟩
          have hperm := hb.mp hbt
          have hpermn : es.Perm (ups n) := by
            rw [hes.len] at hperm
            exact hperm
          have lt1 : ledN es x < 2 ^ 64 := by
            have z := ledN_lt es x
            exact Nat.lt_of_lt_of_le z (Nat.pow_le_pow_right (by decide) helen)
          refine ⟨_, rfl, _, rfl, e, es, x, rfl, SqT.of (s10 _ _ he9), helen, fun H11 s11 => ?_⟩
          refine ⟨ledN es x, rfl, lt1, fun H12 s12 => ?_⟩
          refine ⟨_, rfl, x, rfl, hx64, fun H13 s13 => ?_⟩
          have t13 := ((s10.trans s11).trans s12).trans s13
          refine ⟨rfl, _, rfl, iteNS (congrArg (fun k : Nat => V.int (k : Int)) (bits_led hpermn n64 hx)) ?_⟩
          refine ⟨_, rfl, e, es, rfl, SqT.of (t13 _ _ he9), helen, hperm, fun H14 pb s14 hpb => ?_⟩
          have t14 := t13.trans s14
          refine ⟨_, rfl, _, rfl, e, es, x, rfl, SqT.of (t14 _ _ he9), helen, fun H15 s15 => ?_⟩
          refine ⟨pb, bckTo es es.length, ledN es x, rfl, SqT.of (s15 _ _ hpb), by rw [bckTo_len]; exact helen, fun H16 s16 => ?_⟩
          refine ⟨_, rfl, rfl, _, rfl, iteNS (congrArg (fun k : Nat => V.int (k : Int)) (back_ok hpermn hx)) ?_⟩
          exact done H16 ((t14.trans s15).trans s16)
        · rintro σ H9 ⟨w6, rfl, hA9, _⟩
          exact ⟨_, _, _, _, _, rfl, hA9⟩
    · rintro σ H2 ⟨v2, v3, v4, v5, v6, rfl, hA2⟩
      exact q H2
end
end BL
/-! ## BlFinal -/
/-! What the top has written, by name; the row's theorem. -/
namespace BL
open PySem PySem.Spec PyProof.Rows L2
theorem all_mk {l : PySem.W.OpenLaw} {w : World} {K : PySem.W.Frag} {h : Heap} {mg : Str → Option Value} {fa : Addr} (X : K.In h) (G : h.Ns mainGlobals mg) (hfa : mg "law" = some (.ref fa))
    {f4 f5 f6 f7 f8 f11 f12 f13 f14 f15 f17 f18 f19 f20 f22 f21 f23 f24 f25 f26 : Addr}
    {od4 an4 od5 an5 od6 an6 od7 an7 od8 an8 od11 an11 od12 an12 od13 an13 od14 an14 od15 an15 od17 an17 od18 an18 od19 an19 od20 an20 od22 an22 od21 an21 od23 an23 od24 an24 od25 an25 od26 an26 : Option Addr}
    {sl4 sl5 sl6 sl7 sl8 sl11 sl12 sl13 sl14 sl15 sl17 sl18 sl19 sl20 sl22 sl21 sl23 sl24 sl25 sl26 : Array (Option Value)}
    {oc4 kV4 dc4 pm4 cd4 ct4 oc5 kV5 dc5 pm5 cd5 ct5 oc6 kV6 dc6 pm6 cd6 ct6 oc7 kV7 dc7 pm7 cd7 ct7 oc8 kV8 dc8 pm8 cd8 ct8 oc11 kV11 dc11 pm11 cd11 ct11 oc12 kV12 dc12 pm12 cd12 ct12 oc13 kV13 dc13 pm13 cd13 ct13 oc14 kV14 dc14 pm14 cd14 ct14 oc15 kV15 dc15 pm15 cd15 ct15 oc17 kV17 dc17 pm17 cd17 ct17 oc18 kV18 dc18 pm18 cd18 ct18 oc19 kV19 dc19 pm19 cd19 ct19 oc20 kV20 dc20 pm20 cd20 ct20 oc22 kV22 dc22 pm22 cd22 ct22 oc21 kV21 dc21 pm21 cd21 ct21 oc23 kV23 dc23 pm23 cd23 ct23 oc24 kV24 dc24 pm24 cd24 ct24 oc25 kV25 dc25 pm25 cd25 ct25 oc26 kV26 dc26 pm26 cd26 ct26 : Value} {tk1 : Nat}
    (a4 : PySem.W.nsIn K mainGlobals "full" = some (some (.ref f4)))
    (l4 : K.lookup f4 = some ⟨oc4, od4, .func (PySem.W.fnOf "full" "full" (defArgs sFull) (defBody sFull) (defScope sFull) .none kV4 dc4 pm4 an4 cd4 ct4), sl4⟩)
    (c4 : PySem.W.codeIn K cd4 "full" = true) (k4 : PySem.W.keepIn K (.ref f4) = true)
    (a5 : PySem.W.nsIn K mainGlobals "bit_at" = some (some (.ref f5)))
    (l5 : K.lookup f5 = some ⟨oc5, od5, .func (PySem.W.fnOf "bit_at" "bit_at" (defArgs sBitAt) (defBody sBitAt) (defScope sBitAt) .none kV5 dc5 pm5 an5 cd5 ct5), sl5⟩)
    (c5 : PySem.W.codeIn K cd5 "bit_at" = true) (k5 : PySem.W.keepIn K (.ref f5) = true)
    (a6 : PySem.W.nsIn K mainGlobals "places_in" = some (some (.ref f6)))
    (l6 : K.lookup f6 = some ⟨oc6, od6, .func (PySem.W.fnOf "places_in" "places_in" (defArgs sPlaces) (defBody sPlaces) (defScope sPlaces) .none kV6 dc6 pm6 an6 cd6 ct6), sl6⟩)
    (c6 : PySem.W.codeIn K cd6 "places_in" = true) (k6 : PySem.W.keepIn K (.ref f6) = true)
    (a7 : PySem.W.nsIn K mainGlobals "mask_of" = some (some (.ref f7)))
    (l7 : K.lookup f7 = some ⟨oc7, od7, .func (PySem.W.fnOf "mask_of" "mask_of" (defArgs sMask) (defBody sMask) (defScope sMask) .none kV7 dc7 pm7 an7 cd7 ct7), sl7⟩)
    (c7 : PySem.W.codeIn K cd7 "mask_of" = true) (k7 : PySem.W.keepIn K (.ref f7) = true)
    (a8 : PySem.W.nsIn K mainGlobals "bits_in" = some (some (.ref f8)))
    (l8 : K.lookup f8 = some ⟨oc8, od8, .func (PySem.W.fnOf "bits_in" "bits_in" (defArgs sBits) (defBody sBits) (defScope sBits) .none kV8 dc8 pm8 an8 cd8 ct8), sl8⟩)
    (c8 : PySem.W.codeIn K cd8 "bits_in" = true) (k8 : PySem.W.keepIn K (.ref f8) = true)
    (a11 : PySem.W.nsIn K mainGlobals "bit_led" = some (some (.ref f11)))
    (l11 : K.lookup f11 = some ⟨oc11, od11, .func (PySem.W.fnOf "bit_led" "bit_led" (defArgs sBitLed) (defBody sBitLed) (defScope sBitLed) .none kV11 dc11 pm11 an11 cd11 ct11), sl11⟩)
    (c11 : PySem.W.codeIn K cd11 "bit_led" = true) (k11 : PySem.W.keepIn K (.ref f11) = true)
    (a12 : PySem.W.nsIn K mainGlobals "led" = some (some (.ref f12)))
    (l12 : K.lookup f12 = some ⟨oc12, od12, .func (PySem.W.fnOf "led" "led" (defArgs sLed) (defBody sLed) (defScope sLed) .none kV12 dc12 pm12 an12 cd12 ct12), sl12⟩)
    (c12 : PySem.W.codeIn K cd12 "led" = true) (k12 : PySem.W.keepIn K (.ref f12) = true)
    (a13 : PySem.W.nsIn K mainGlobals "kept_by" = some (some (.ref f13)))
    (l13 : K.lookup f13 = some ⟨oc13, od13, .func (PySem.W.fnOf "kept_by" "kept_by" (defArgs sKept) (defBody sKept) (defScope sKept) .none kV13 dc13 pm13 an13 cd13 ct13), sl13⟩)
    (c13 : PySem.W.codeIn K cd13 "kept_by" = true) (k13 : PySem.W.keepIn K (.ref f13) = true)
    (a14 : PySem.W.nsIn K mainGlobals "is_even" = some (some (.ref f14)))
    (l14 : K.lookup f14 = some ⟨oc14, od14, .func (PySem.W.fnOf "is_even" "is_even" (defArgs sEven) (defBody sEven) (defScope sEven) .none kV14 dc14 pm14 an14 cd14 ct14), sl14⟩)
    (c14 : PySem.W.codeIn K cd14 "is_even" = true) (k14 : PySem.W.keepIn K (.ref f14) = true)
    (a15 : PySem.W.nsIn K mainGlobals "turned_back" = some (some (.ref f15)))
    (l15 : K.lookup f15 = some ⟨oc15, od15, .func (PySem.W.fnOf "turned_back" "turned_back" (defArgs sBack) (defBody sBack) (defScope sBack) .none kV15 dc15 pm15 an15 cd15 ct15), sl15⟩)
    (c15 : PySem.W.codeIn K cd15 "turned_back" = true) (k15 : PySem.W.keepIn K (.ref f15) = true)
    (a17 : PySem.W.nsIn K mainGlobals "_law_hand" = some (some (.ref f17)))
    (l17 : K.lookup f17 = some ⟨oc17, od17, .func (PySem.W.fnOf "_law_hand" "_law_hand" (defArgs sHand) (defBody sHand) (defScope sHand) .none kV17 dc17 pm17 an17 cd17 ct17), sl17⟩)
    (c17 : PySem.W.codeIn K cd17 "_law_hand" = true) (k17 : PySem.W.keepIn K (.ref f17) = true)
    (a18 : PySem.W.nsIn K mainGlobals "_law_draw" = some (some (.ref f18)))
    (l18 : K.lookup f18 = some ⟨oc18, od18, .func (PySem.W.fnOf "_law_draw" "_law_draw" (defArgs sDraw) (defBody sDraw) (defScope sDraw) .none kV18 dc18 pm18 an18 cd18 ct18), sl18⟩)
    (c18 : PySem.W.codeIn K cd18 "_law_draw" = true) (k18 : PySem.W.keepIn K (.ref f18) = true)
    (a19 : PySem.W.nsIn K mainGlobals "_law_width" = some (some (.ref f19)))
    (l19 : K.lookup f19 = some ⟨oc19, od19, .func (PySem.W.fnOf "_law_width" "_law_width" (defArgs sWidth) (defBody sWidth) (defScope sWidth) .none kV19 dc19 pm19 an19 cd19 ct19), sl19⟩)
    (c19 : PySem.W.codeIn K cd19 "_law_width" = true) (k19 : PySem.W.keepIn K (.ref f19) = true)
    (a20 : PySem.W.nsIn K mainGlobals "_law_word" = some (some (.ref f20)))
    (l20 : K.lookup f20 = some ⟨oc20, od20, .func (PySem.W.fnOf "_law_word" "_law_word" (defArgs sWord) (defBody sWord) (defScope sWord) .none kV20 dc20 pm20 an20 cd20 ct20), sl20⟩)
    (c20 : PySem.W.codeIn K cd20 "_law_word" = true) (k20 : PySem.W.keepIn K (.ref f20) = true)
    (a22 : PySem.W.nsIn K mainGlobals "_law_even" = some (some (.ref f22)))
    (l22 : K.lookup f22 = some ⟨oc22, od22, .func (PySem.W.fnOf "_law_even" "_law_even" (defArgs sEvn) (defBody sEvn) (defScope sEvn) .none kV22 dc22 pm22 an22 cd22 ct22), sl22⟩)
    (c22 : PySem.W.codeIn K cd22 "_law_even" = true) (k22 : PySem.W.keepIn K (.ref f22) = true)
    (a21 : PySem.W.nsIn K mainGlobals "_law_leading" = some (some (.ref f21)))
    (l21 : K.lookup f21 = some ⟨oc21, od21, .func (PySem.W.fnOf "_law_leading" "_law_leading" (defArgs sLdg) (defBody sLdg) (defScope sLdg) .none kV21 dc21 pm21 an21 cd21 ct21), sl21⟩)
    (c21 : PySem.W.codeIn K cd21 "_law_leading" = true) (k21 : PySem.W.keepIn K (.ref f21) = true)
    (a23 : PySem.W.nsIn K mainGlobals "_law_places_of" = some (some (.ref f23)))
    (l23 : K.lookup f23 = some ⟨oc23, od23, .func (PySem.W.fnOf "_law_places_of" "_law_places_of" (defArgs sPlOf) (defBody sPlOf) (defScope sPlOf) .none kV23 dc23 pm23 an23 cd23 ct23), sl23⟩)
    (c23 : PySem.W.codeIn K cd23 "_law_places_of" = true) (k23 : PySem.W.keepIn K (.ref f23) = true)
    (a24 : PySem.W.nsIn K mainGlobals "_law_bits_changed" = some (some (.ref f24)))
    (l24 : K.lookup f24 = some ⟨oc24, od24, .func (PySem.W.fnOf "_law_bits_changed" "_law_bits_changed" (defArgs sCha) (defBody sCha) (defScope sCha) .none kV24 dc24 pm24 an24 cd24 ct24), sl24⟩)
    (c24 : PySem.W.codeIn K cd24 "_law_bits_changed" = true) (k24 : PySem.W.keepIn K (.ref f24) = true)
    (a25 : PySem.W.nsIn K mainGlobals "_law_halves_right" = some (some (.ref f25)))
    (l25 : K.lookup f25 = some ⟨oc25, od25, .func (PySem.W.fnOf "_law_halves_right" "_law_halves_right" (defArgs sHlv) (defBody sHlv) (defScope sHlv) .none kV25 dc25 pm25 an25 cd25 ct25), sl25⟩)
    (c25 : PySem.W.codeIn K cd25 "_law_halves_right" = true) (k25 : PySem.W.keepIn K (.ref f25) = true)
    (a26 : PySem.W.nsIn K mainGlobals "law" = some (some (.ref f26)))
    (l26 : K.lookup f26 = some ⟨oc26, od26, .func (PySem.W.fnOf "law" "law" (defArgs sLaw) (defBody sLaw) (defScope sLaw) .none kV26 dc26 pm26 an26 cd26 ct26), sl26⟩)
    (c26 : PySem.W.codeIn K cd26 "law" = true) (k26 : PySem.W.keepIn K (.ref f26) = true)
    (one : PySem.W.nsIn K mainGlobals "ONE" = some (some (.int (-2) tk1)))
    (Zlen : PySem.W.nsIn K mainGlobals "len" = some none)
    (Zint : PySem.W.nsIn K mainGlobals "int" = some none)
    (Zenumerate : PySem.W.nsIn K mainGlobals "enumerate" = some none)
    (Zsorted : PySem.W.nsIn K mainGlobals "sorted" = some none)
    (Zlist : PySem.W.nsIn K mainGlobals "list" = some none)
    (Zrange : PySem.W.nsIn K mainGlobals "range" = some none)
    (Ztuple : PySem.W.nsIn K mainGlobals "tuple" = some none)
    (Zabs : PySem.W.nsIn K mainGlobals "abs" = some none)
    : ∃ fd : FuncData, (∀ (s : Shared) (v : Value), BindsTo s fd ⟨[v], []⟩ [("_law_script", v)]) ∧ ∀ base : Heap, K.In base → base.Ns mainGlobals mg → FnOk l.prog w K mg base CX0 5 fa fd ["_law_script"] (spLaw K) := by
  have e := hfa.symm.trans (PySem.W.mg_of X G a26)
  cases e
  have z : ∀ {x : Str}, PySem.W.nsIn K mainGlobals x = some none → mg x = none := fun u => PySem.W.mg_none_of X G u
  have F4 := fun_mk (st := sFull) l4 c4 k4
  have b4 := F4.binds (ps := ["width"]) fun _ _ _ _ _ _ us hl => match us, hl with | [_], _ => rfl
  have F5 := fun_mk (st := sBitAt) l5 c5 k5
  have b5 := F5.binds (ps := ["word", "place"]) fun _ _ _ _ _ _ us hl => match us, hl with | [_, _], _ => rfl
  have F6 := fun_mk (st := sPlaces) l6 c6 k6
  have b6 := F6.binds (ps := ["mask"]) fun _ _ _ _ _ _ us hl => match us, hl with | [_], _ => rfl
  have F7 := fun_mk (st := sMask) l7 c7 k7
  have b7 := F7.binds (ps := ["places"]) fun _ _ _ _ _ _ us hl => match us, hl with | [_], _ => rfl
  have F8 := fun_mk (st := sBits) l8 c8 k8
  have b8 := F8.binds (ps := ["mask"]) fun _ _ _ _ _ _ us hl => match us, hl with | [_], _ => rfl
  have F11 := fun_mk (st := sBitLed) l11 c11 k11
  have b11 := F11.binds (ps := ["entry", "word"]) fun _ _ _ _ _ _ us hl => match us, hl with | [_, _], _ => rfl
  have F12 := fun_mk (st := sLed) l12 c12 k12
  have b12 := F12.binds (ps := ["leading", "word"]) fun _ _ _ _ _ _ us hl => match us, hl with | [_, _], _ => rfl
  have F13 := fun_mk (st := sKept) l13 c13 k13
  have b13 := F13.binds (ps := ["leading"]) fun _ _ _ _ _ _ us hl => match us, hl with | [_], _ => rfl
  have F14 := fun_mk (st := sEven) l14 c14 k14
  have b14 := F14.binds (ps := ["leading"]) fun _ _ _ _ _ _ us hl => match us, hl with | [_], _ => rfl
  have F15 := fun_mk (st := sBack) l15 c15 k15
  have b15 := F15.binds (ps := ["leading"]) fun _ _ _ _ _ _ us hl => match us, hl with | [_], _ => rfl
  have F17 := fun_mk (st := sHand) l17 c17 k17
  have b17 := F17.binds (ps := ["_law_script"]) fun _ _ _ _ _ _ us hl => match us, hl with | [_], _ => rfl
  have F18 := fun_mk (st := sDraw) l18 c18 k18
  have b18 := F18.binds (ps := ["_law_hand_here", "_law_many"]) fun _ _ _ _ _ _ us hl => match us, hl with | [_, _], _ => rfl
  have F19 := fun_mk (st := sWidth) l19 c19 k19
  have b19 := F19.binds (ps := ["_law_hand_here"]) fun _ _ _ _ _ _ us hl => match us, hl with | [_], _ => rfl
  have F20 := fun_mk (st := sWord) l20 c20 k20
  have b20 := F20.binds (ps := ["_law_hand_here", "_law_width_here"]) fun _ _ _ _ _ _ us hl => match us, hl with | [_, _], _ => rfl
  have F22 := fun_mk (st := sEvn) l22 c22 k22
  have b22 := F22.binds (ps := ["_law_hand_here", "_law_width_here"]) fun _ _ _ _ _ _ us hl => match us, hl with | [_, _], _ => rfl
  have F21 := fun_mk (st := sLdg) l21 c21 k21
  have b21 := F21.binds (ps := ["_law_hand_here", "_law_width_here"]) fun _ _ _ _ _ _ us hl => match us, hl with | [_, _], _ => rfl
  have F23 := fun_mk (st := sPlOf) l23 c23 k23
  have b23 := F23.binds (ps := ["_law_leading_here", "_law_place"]) fun _ _ _ _ _ _ us hl => match us, hl with | [_, _], _ => rfl
  have F24 := fun_mk (st := sCha) l24 c24 k24
  have b24 := F24.binds (ps := ["_law_leading_here", "_law_word_here"]) fun _ _ _ _ _ _ us hl => match us, hl with | [_, _], _ => rfl
  have F25 := fun_mk (st := sHlv) l25 c25 k25
  have b25 := F25.binds (ps := ["_law_leading_here", "_law_word_here"]) fun _ _ _ _ _ _ us hl => match us, hl with | [_, _], _ => rfl
  have F26 := fun_mk (st := sLaw) l26 c26 k26
  refine ⟨PySem.W.fnOf "law" "law" (defArgs sLaw) (defBody sLaw) (defScope sLaw) .none kV26 dc26 pm26 an26 cd26 ct26, fun s v => .of_eq rfl, fun base _ _ => ?_⟩
  have D4 : Dn l.prog w K mg base "full" ["width"] 1 spFull := ⟨_, _, ok_full F4, PySem.W.mg_of X G a4, k4, b4⟩
  have D5 : Dn l.prog w K mg base "bit_at" ["word", "place"] 1 spBitAt := ⟨_, _, ok_bitAt F5, PySem.W.mg_of X G a5, k5, b5⟩
  have D6 : Dn l.prog w K mg base "places_in" ["mask"] 1 spPlaces := ⟨_, _, ok_places F6, PySem.W.mg_of X G a6, k6, b6⟩
  have D7 : Dn l.prog w K mg base "mask_of" ["places"] 1 (spMask K) := ⟨_, _, ok_mask F7, PySem.W.mg_of X G a7, k7, b7⟩
  have D8 : Dn l.prog w K mg base "bits_in" ["mask"] 2 spBits := ⟨_, _, ok_bits F8 D6 (z Zlen), PySem.W.mg_of X G a8, k8, b8⟩
  have D11 : Dn l.prog w K mg base "bit_led" ["entry", "word"] 2 spBitLed := ⟨_, _, ok_bitLed F11 D5 (z Zint) (PySem.W.mg_of X G one), PySem.W.mg_of X G a11, k11, b11⟩
  have D12 : Dn l.prog w K mg base "led" ["leading", "word"] 3 (spLed K) := ⟨_, _, ok_led F12 D11 (z Zenumerate), PySem.W.mg_of X G a12, k12, b12⟩
  have D13 : Dn l.prog w K mg base "kept_by" ["leading"] 2 (spKept K) := ⟨_, _, ok_kept F13 D7, PySem.W.mg_of X G a13, k13, b13⟩
  have D14 : Dn l.prog w K mg base "is_even" ["leading"] 1 (spEven K) := ⟨_, _, ok_even F14 (z Zsorted) (z Zlist) (z Zrange) (z Zlen), PySem.W.mg_of X G a14, k14, b14⟩
  have D15 : Dn l.prog w K mg base "turned_back" ["leading"] 2 (spBack K) := ⟨_, _, ok_back F15 D14 (z Zlen) (z Zenumerate) (z Ztuple), PySem.W.mg_of X G a15, k15, b15⟩
  have D17 : Dn l.prog w K mg base "_law_hand" ["_law_script"] 1 (spHand K) := ⟨_, _, ok_hand F17 (z Zabs), PySem.W.mg_of X G a17, k17, b17⟩
  have D18 : Dn l.prog w K mg base "_law_draw" ["_law_hand_here", "_law_many"] 1 spDraw := ⟨_, _, ok_draw F18 (z Zlen), PySem.W.mg_of X G a18, k18, b18⟩
  have D19 : Dn l.prog w K mg base "_law_width" ["_law_hand_here"] 2 spWidth := ⟨_, _, ok_width F19 D18, PySem.W.mg_of X G a19, k19, b19⟩
  have D20 : Dn l.prog w K mg base "_law_word" ["_law_hand_here", "_law_width_here"] 2 spWord := ⟨_, _, ok_word F20 D18 (z Zrange), PySem.W.mg_of X G a20, k20, b20⟩
  have D22 : Dn l.prog w K mg base "_law_even" ["_law_hand_here", "_law_width_here"] 2 spDrawn := ⟨_, _, ok_evn F22 D18 (z Zlist) (z Zrange) (z Zlen) (z Ztuple), PySem.W.mg_of X G a22, k22, b22⟩
  have D21 : Dn l.prog w K mg base "_law_leading" ["_law_hand_here", "_law_width_here"] 3 spDrawn := ⟨_, _, ok_ldg F21 D18 D22 (z Zrange) (z Ztuple), PySem.W.mg_of X G a21, k21, b21⟩
  have D23 : Dn l.prog w K mg base "_law_places_of" ["_law_leading_here", "_law_place"] 2 (spPlOf K) := ⟨_, _, ok_plOf F23 D7 (z Zrange) (z Zlen), PySem.W.mg_of X G a23, k23, b23⟩
  have D24 : Dn l.prog w K mg base "_law_bits_changed" ["_law_leading_here", "_law_word_here"] 4 (spLook K) := ⟨_, _, ok_cha F24 D12 D23 D6 D13 D4 (z Zrange) (z Zlen), PySem.W.mg_of X G a24, k24, b24⟩
  have D25 : Dn l.prog w K mg base "_law_halves_right" ["_law_leading_here", "_law_word_here"] 4 (spLook K) := ⟨_, _, ok_hlv F25 D12 D23 D4 (z Zlen), PySem.W.mg_of X G a25, k25, b25⟩
  exact ok_law F26 D17 D19 D21 D20 D22 D24 D25 D14 D8 D12 D15 (z Zrange)
end BL
open PySem PySem.W PyProof.Rows
set_option maxRecDepth 100000 in
set_option maxHeartbeats 0 in
theorem PySem.Challenge.cw_bitlead_k06_whole_bit_by_bit_holds : PySem.Challenge.rw_bitlead_k06_whole_bit_by_bit.Holds := by
  w_on; o_law; k_head; (case hw => w_witness2)
  k_fill
  refine L2.walk_of (l := PySem.Challenge.rw_bitlead_k06_whole_bit_by_bit) (n := 63) (k := 5) (x := "_law_script") (CX := fun _ => L2.CX0) (sp := fun w => BL.spLaw _) rfl (by decide) rfl ⟨rfl, by decide, by decide⟩ (fun w h Y => PySem.W.kIn_of Y) ?F (fun _ _ a ns hl _ hS => ⟨a, ns, rfl, hS, hl, fun _ => rfl⟩) (fun _ _ _ _ _ h => h)
  case F =>
    intro w mg fa h KX G hmg
    refine' BL.all_mk KX G hmg ?a4 ?l4 ?c4 ?k4 ?a5 ?l5 ?c5 ?k5 ?a6 ?l6 ?c6 ?k6 ?a7 ?l7 ?c7 ?k7 ?a8 ?l8 ?c8 ?k8 ?a11 ?l11 ?c11 ?k11 ?a12 ?l12 ?c12 ?k12 ?a13 ?l13 ?c13 ?k13 ?a14 ?l14 ?c14 ?k14 ?a15 ?l15 ?c15 ?k15 ?a17 ?l17 ?c17 ?k17 ?a18 ?l18 ?c18 ?k18 ?a19 ?l19 ?c19 ?k19 ?a20 ?l20 ?c20 ?k20 ?a22 ?l22 ?c22 ?k22 ?a21 ?l21 ?c21 ?k21 ?a23 ?l23 ?c23 ?k23 ?a24 ?l24 ?c24 ?k24 ?a25 ?l25 ?c25 ?k25 ?a26 ?l26 ?c26 ?k26 ?one ?Zlen ?Zint ?Zenumerate ?Zsorted ?Zlist ?Zrange ?Ztuple ?Zabs
    (case a4 => k_is)
    (case l4 => k_is)
    (case c4 => k_is)
    (case k4 => k_is)
    (case a5 => k_is)
    (case l5 => k_is)
    (case c5 => k_is)
    (case k5 => k_is)
    (case a6 => k_is)
    (case l6 => k_is)
    (case c6 => k_is)
    (case k6 => k_is)
    (case a7 => k_is)
    (case l7 => k_is)
    (case c7 => k_is)
    (case k7 => k_is)
    (case a8 => k_is)
    (case l8 => k_is)
    (case c8 => k_is)
    (case k8 => k_is)
    (case a11 => k_is)
    (case l11 => k_is)
    (case c11 => k_is)
    (case k11 => k_is)
    (case a12 => k_is)
    (case l12 => k_is)
    (case c12 => k_is)
    (case k12 => k_is)
    (case a13 => k_is)
    (case l13 => k_is)
    (case c13 => k_is)
    (case k13 => k_is)
    (case a14 => k_is)
    (case l14 => k_is)
    (case c14 => k_is)
    (case k14 => k_is)
    (case a15 => k_is)
    (case l15 => k_is)
    (case c15 => k_is)
    (case k15 => k_is)
    (case a17 => k_is)
    (case l17 => k_is)
    (case c17 => k_is)
    (case k17 => k_is)
    (case a18 => k_is)
    (case l18 => k_is)
    (case c18 => k_is)
    (case k18 => k_is)
    (case a19 => k_is)
    (case l19 => k_is)
    (case c19 => k_is)
    (case k19 => k_is)
    (case a20 => k_is)
    (case l20 => k_is)
    (case c20 => k_is)
    (case k20 => k_is)
    (case a22 => k_is)
    (case l22 => k_is)
    (case c22 => k_is)
    (case k22 => k_is)
    (case a21 => k_is)
    (case l21 => k_is)
    (case c21 => k_is)
    (case k21 => k_is)
    (case a23 => k_is)
    (case l23 => k_is)
    (case c23 => k_is)
    (case k23 => k_is)
    (case a24 => k_is)
    (case l24 => k_is)
    (case c24 => k_is)
    (case k24 => k_is)
    (case a25 => k_is)
    (case l25 => k_is)
    (case c25 => k_is)
    (case k25 => k_is)
    (case a26 => k_is)
    (case l26 => k_is)
    (case c26 => k_is)
    (case k26 => k_is)
    (case one => k_is)
    (case Zlen => k_is)
    (case Zint => k_is)
    (case Zenumerate => k_is)
    (case Zsorted => k_is)
    (case Zlist => k_is)
    (case Zrange => k_is)
    (case Ztuple => k_is)
    (case Zabs => k_is)
