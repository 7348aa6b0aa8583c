import PyProof.Rows.All
import Wide.All
import OpenK.AllK
import Wide.FinOn
import Open.SpecLaws
import KE.OsGo
import HandS.ForSpec
import HandS.Comp
import HandS.Iter
import HandS.WideBits
import PySem.Challenge.RW_strangetalk_s01_answers
set_option Elab.async false
set_option linter.all false
set_option maxRecDepth 100000
set_option maxHeartbeats 8000000
/-! Plain mathematics of the words of strangers: what the program's own steps compute is what the specification says. -/
namespace Wd
open Km362
/-! ### members -/
def blen (s : Nat) : Nat := if s = 0 then 0 else s.log2 + 1
def members (s : Nat) : List Nat := (List.range (blen s)).filter fun k => s.testBit k
theorem lt_blen (s : Nat) : s < 2 ^ blen s := by
  unfold blen
  split
  · omega
  · rename_i h
    exact (Nat.log2_lt h).mp (Nat.lt_succ_self _)
theorem blen_le {s n : Nat} (h : s < 2 ^ n) : blen s ≤ n := by
  unfold blen
  split
  · omega
  · rename_i hs
    exact (Nat.log2_lt hs).mpr h
theorem filter_range_le {p : Nat → Bool} : ∀ (n m : Nat), n ≤ m → (∀ k, n ≤ k → p k = false) → (List.range m).filter p = (List.range n).filter p
  | n, 0, h, _ => by
    have e : n = 0 := by omega
    rw [e]
  | n, m + 1, h, hp => by
    by_cases e : n = m + 1
    · rw [e]
    · rw [List.range_succ, List.filter_append, filter_range_le n m (by omega) hp]
      have z : List.filter p [m] = [] := by
        rw [List.filter_cons, hp m (by omega)]
        rfl
      rw [z, List.append_nil]
theorem members_eq {s n : Nat} (h : s < 2 ^ n) : members s = (List.range n).filter fun k => s.testBit k :=
  (filter_range_le (blen s) n (blen_le h) fun k hk => Nat.testBit_lt_two_pow (Nat.lt_of_lt_of_le (lt_blen s) (Nat.pow_le_pow_right (by omega) hk))).symm
theorem mem_members {s k : Nat} : k ∈ members s ↔ s.testBit k = true := by
  unfold members
  rw [List.mem_filter, List.mem_range]
  constructor
  · exact fun h => h.2
  · intro h
    refine ⟨?_, h⟩
    by_cases c : k < blen s
    · exact c
    · rw [Nat.testBit_lt_two_pow (Nat.lt_of_lt_of_le (lt_blen s) (Nat.pow_le_pow_right (by omega) (Nat.le_of_not_lt c)))] at h
      cases h
/-! ### a fold of or -/
theorem or_fold {α : Type} (f : α → Nat) : ∀ (l : List α) (s x : Nat), (l.foldl (fun s r => s ||| 2 ^ f r) s).testBit x = (s.testBit x || l.any fun r => f r == x)
  | [], s, x => by simp
  | r :: l, s, x => by
    rw [List.foldl_cons, or_fold f l, Nat.testBit_or, Nat.testBit_two_pow, List.any_cons, Bool.or_assoc]
    rfl
theorem add_pow {a x : Nat} (h : a.testBit x = false) : a ||| 2 ^ x = a + 2 ^ x := by
  have hp : 0 < 2 ^ x := Nat.two_pow_pos x
  have e2 : 2 ^ (x + 1) = 2 ^ x * 2 := Nat.pow_succ ..
  have hm : a % 2 ^ (x + 1) < 2 ^ (x + 1) := Nat.mod_lt _ (by omega)
  have hd : 2 ^ (x + 1) * (a / 2 ^ (x + 1)) + a % 2 ^ (x + 1) = a := Nat.div_add_mod ..
  have hr : a % 2 ^ (x + 1) < 2 ^ x := by
    refine Nat.lt_pow_two_of_testBit _ fun i hi => ?_
    rw [Nat.testBit_mod_two_pow]
    by_cases c : i = x
    · rw [c, h, Bool.and_false]
    · rw [decide_eq_false (by omega), Bool.false_and]
  generalize a % 2 ^ (x + 1) = r at *
  generalize a / 2 ^ (x + 1) = q at *
  have k1 := Nat.two_pow_add_eq_or_of_lt (i := x + 1) (b := r) (by omega) q
  have k2 := Nat.two_pow_add_eq_or_of_lt (i := x + 1) (b := 2 ^ x * 1 + r) (by omega) q
  have k3 := Nat.two_pow_add_eq_or_of_lt (i := x) (b := r) hr 1
  rw [← hd, k1, show 2 ^ (x + 1) * q ||| r ||| 2 ^ x = 2 ^ (x + 1) * q ||| (2 ^ x * 1 ||| r) by rw [Nat.or_assoc, Nat.or_comm r, Nat.mul_one], ← k3, ← k2]
  rw [← k1]
  omega
theorem sum_or (f : Nat → Nat) : ∀ (l : List Nat) (a : Nat), (l.map f).Nodup → (∀ k ∈ l, a.testBit (f k) = false) → l.foldl (fun s k => s ||| 2 ^ f k) a = a + (l.map fun k => 2 ^ f k).sum
  | [], a, _, _ => by simp
  | k :: l, a, hn, ha => by
    rw [List.map_cons, List.nodup_cons] at hn
    rw [List.foldl_cons, List.map_cons, List.sum_cons, add_pow (ha k (List.mem_cons_self ..)), sum_or f l _ hn.2 ?_, Nat.add_assoc]
    intro j hj
    have ne : f j ≠ f k := fun e => hn.1 (e ▸ List.mem_map_of_mem hj)
    rw [← add_pow (ha k (List.mem_cons_self ..)), Nat.testBit_or, ha j (List.mem_cons_of_mem _ hj), Nat.testBit_two_pow_of_ne (Ne.symm ne)]
    rfl
theorem foldl_if {α β : Type} (p : α → Bool) (g : β → α → β) : ∀ (l : List α) (b : β), l.foldl (fun s k => if p k = true then g s k else s) b = (l.filter p).foldl g b
  | [], b => rfl
  | k :: l, b => by
    rw [List.foldl_cons, foldl_if p g l, List.filter_cons]
    split
    · rw [List.foldl_cons]
    · rfl
theorem means_fold (r : Reading) (w : Nat) (h : w < 2 ^ r.length) : means r w = (members w).foldl (fun s k => s ||| 2 ^ at_ r k) 0 := by
  unfold means
  rw [foldl_if, members_eq h]
/-- meant: a sum over the members -/
theorem meant_means {r : Reading} {w : Nat} (hr : r.Nodup) (h : w < 2 ^ r.length) : ((members w).map fun k => 2 ^ at_ r k).sum = means r w := by
  rw [means_fold r w h, sum_or (at_ r) _ 0 ?_ (fun k _ => Nat.zero_testBit _), Nat.zero_add]
  have nd : ((List.range r.length).map (at_ r)).Nodup := by
    have e : (List.range r.length).map (at_ r) = r := by
      refine List.ext_getElem (by simp) fun i h1 h2 => ?_
      rw [List.getElem_map, List.getElem_range]
      show r.getD i 0 = r[i]
      rw [List.getD_eq_getElem?_getD, List.getElem?_eq_getElem h2]
      rfl
    rw [e]
    exact hr
  rw [members_eq h]
  exact nd.sublist (List.Sublist.map _ (List.filter_sublist ..))
theorem means_bit {r : Reading} {w x : Nat} (h : w < 2 ^ r.length) : (means r w).testBit x = (members w).any fun k => at_ r k == x := by
  rw [means_fold r w h, or_fold, Nat.zero_testBit, Bool.false_or]
theorem at_lt {r : Reading} {n k : Nat} (hr : ∀ x ∈ r, x < n) (hk : k < r.length) : at_ r k < n := by
  unfold at_
  rw [List.getD_eq_getElem?_getD, List.getElem?_eq_getElem hk]
  exact hr _ (List.getElem_mem hk)
theorem means_lt {r : Reading} {w n : Nat} (h : w < 2 ^ r.length) (hr : ∀ x ∈ r, x < n) : means r w < 2 ^ n := by
  refine Nat.lt_pow_two_of_testBit _ fun i hi => ?_
  rw [means_bit h, List.any_eq_false]
  intro k hk
  have hk' : k < r.length := by
    rw [members_eq h, List.mem_filter, List.mem_range] at hk
    exact hk.1
  have := at_lt hr hk'
  simp only [beq_iff_eq]
  omega
/-! ### bits -/
theorem bits_succ (n : Nat) (p : Nat → Bool) : bits (n + 1) p = if p n = true then bits n p + 2 ^ n else bits n p := by
  unfold bits
  rw [List.range_succ, List.foldl_append]
  rfl
theorem bits_lt : ∀ (n : Nat) (p : Nat → Bool), bits n p < 2 ^ n
  | 0, p => by
    show 0 < 1
    omega
  | n + 1, p => by
    have h := bits_lt n p
    rw [bits_succ, Nat.pow_succ]
    split <;> omega
theorem bits_bit : ∀ (n : Nat) (p : Nat → Bool) (x : Nat), (bits n p).testBit x = (decide (x < n) && p x)
  | 0, p, x => by
    have e : bits 0 p = 0 := rfl
    rw [e, Nat.zero_testBit]
    rfl
  | n + 1, p, x => by
    have ih := bits_bit n p x
    have hlt := bits_lt n p
    rw [bits_succ]
    by_cases e : x = n
    · subst e
      have z : (bits x p).testBit x = false := Nat.testBit_lt_two_pow hlt
      rw [decide_eq_true (Nat.lt_succ_self x), Bool.true_and]
      split
      · rename_i hp
        rw [← add_pow z, Nat.testBit_or, z, Nat.testBit_two_pow_self, hp]
        rfl
      · rename_i hp
        rw [z]
        cases q : p x with
        | true => exact absurd q hp
        | false => rfl
    · have d : decide (x < n + 1) = decide (x < n) := by
        by_cases c : x < n
        · rw [decide_eq_true c, decide_eq_true (by omega)]
        · rw [decide_eq_false c, decide_eq_false (by omega)]
      rw [d, ← ih]
      split
      · rw [← add_pow (Nat.testBit_lt_two_pow hlt), Nat.testBit_or, Nat.testBit_two_pow_of_ne (Ne.symm e), Bool.or_false]
      · rfl
theorem bits_of {n s : Nat} {p : Nat → Bool} (h : ∀ x, s.testBit x = (decide (x < n) && p x)) : s = bits n p :=
  Nat.eq_of_testBit_eq fun i => by rw [h, bits_bit]
theorem members_bits (n : Nat) (p : Nat → Bool) : (members (bits n p)).length = count n p := by
  rw [members_eq (bits_lt n p)]
  unfold count
  congr 1
  refine List.filter_congr fun x hx => ?_
  rw [bits_bit, decide_eq_true (List.mem_range.mp hx), Bool.true_and]
/-! ### all readings -/
def moreOf (n : Nat) (r : List Nat) : List (List Nat) := ((List.range n).filter fun t => !(r.contains t)).map fun t => r ++ [t]
def grow (n : Nat) (l : List (List Nat)) : List (List Nat) := l.flatMap (moreOf n)
def grown (n : Nat) : Nat → List (List Nat)
  | 0 => [[]]
  | k + 1 => grow n (grown n k)
def allReadings (n : Nat) : List (List Nat) := grown n n
def enc (r : List Nat) : Nat := r.foldl (fun a x => a * 8 + x) 1
def dec : Nat → Nat → List Nat → List Nat
  | 0, _, acc => acc
  | f + 1, c, acc => bif Nat.ble c 1 then acc else dec f (c / 8) (c % 8 :: acc)
def mrg : Nat → List Nat → List Nat → List Nat
  | 0, a, b => a ++ b
  | _ + 1, [], b => b
  | _ + 1, x :: a, [] => x :: a
  | f + 1, x :: a, y :: b => bif Nat.ble x y then x :: mrg f a (y :: b) else y :: mrg f (x :: a) b
def halves : List Nat → List Nat × List Nat
  | [] => ([], [])
  | x :: l => ((halves l).2, x :: (halves l).1)
def srt : Nat → List Nat → List Nat
  | 0, l => l
  | f + 1, l => mrg 1000 (srt f (halves l).1) (srt f (halves l).2)
theorem mrg_perm : ∀ (f : Nat) (a b : List Nat), (mrg f a b).Perm (a ++ b)
  | 0, a, b => .refl _
  | f + 1, [], b => .refl _
  | f + 1, x :: a, [] => by
    rw [List.append_nil]
    exact .refl _
  | f + 1, x :: a, y :: b => by
    show (bif Nat.ble x y then x :: mrg f a (y :: b) else y :: mrg f (x :: a) b).Perm _
    cases Nat.ble x y with
    | true => exact (mrg_perm f a (y :: b)).cons x
    | false =>
      refine ((mrg_perm f (x :: a) b).cons y).trans ?_
      exact List.perm_middle.symm
theorem halves_perm : ∀ l : List Nat, ((halves l).1 ++ (halves l).2).Perm l
  | [] => .refl _
  | x :: l => by
    show ((halves l).2 ++ x :: (halves l).1).Perm (x :: l)
    exact List.perm_middle.trans ((List.perm_append_comm.trans (halves_perm l)).cons x)
theorem srt_perm : ∀ (f : Nat) (l : List Nat), (srt f l).Perm l
  | 0, _ => .refl _
  | f + 1, l => ((mrg_perm 1000 _ _).trans ((srt_perm f _).append (srt_perm f _))).trans (halves_perm l)
theorem same_codes : ∀ m, m < 7 → srt 10 ((allReadings m).map enc) = srt 10 ((rows m).map enc) := by decide +kernel
theorem dec_all : ∀ m, m < 7 → (((allReadings m).map enc).map fun c => dec 8 c []) = allReadings m := by decide +kernel
theorem dec_rows : ∀ m, m < 7 → (((rows m).map enc).map fun c => dec 8 c []) = rows m := by decide +kernel
theorem perm_of {l m : List (List Nat)} {k : Nat} {d : Nat → List Nat} (h : srt k (l.map enc) = srt k (m.map enc)) (a : (l.map enc).map d = l) (b : (m.map enc).map d = m) : l.Perm m := by
  have p : (l.map enc).Perm (m.map enc) := (srt_perm k _).symm.trans (h ▸ srt_perm k _)
  have q := p.map d
  rw [a, b] at q
  exact q
theorem all_perm {n : Nat} (h : n ≤ 6) : (allReadings n).Perm (rows n) :=
  perm_of (same_codes n (Nat.lt_succ_of_le h)) (dec_all n (Nat.lt_succ_of_le h)) (dec_rows n (Nat.lt_succ_of_le h))
theorem grown_len (n : Nat) : ∀ (k : Nat) (r : List Nat), r ∈ grown n k → r.length = k ∧ r.Nodup ∧ ∀ x ∈ r, x < n
  | 0, r, h => by
    have e : r = [] := by simpa [grown] using h
    subst e
    exact ⟨rfl, List.nodup_nil, fun x hx => by cases hx⟩
  | k + 1, r, h => by
    obtain ⟨q, hq, hr⟩ := List.mem_flatMap.mp (show r ∈ (grown n k).flatMap (moreOf n) from h)
    obtain ⟨t, ht, rfl⟩ := List.mem_map.mp hr
    obtain ⟨e, nd, lt⟩ := grown_len n k q hq
    rw [List.mem_filter, List.mem_range] at ht
    have nt : t ∉ q := by
      have z := ht.2
      simpa using z
    refine ⟨by rw [List.length_append, e]; rfl, ?_, fun x hx => ?_⟩
    · rw [List.nodup_append]
      refine ⟨nd, by simp, fun a ha b hb => ?_⟩
      have eb : b = t := by simpa using hb
      rw [eb]
      exact fun z => nt (z ▸ ha)
    · rcases List.mem_append.mp hx with z | z
      · exact lt x z
      · have ex : x = t := by simpa using z
        rw [ex]
        exact ht.1
theorem all_len {n : Nat} {r : List Nat} (h : r ∈ allReadings n) : r.length = n ∧ r.Nodup ∧ ∀ x ∈ r, x < n := grown_len n n r h
/-! ### the readings that are left, in the program's order -/
def rds (b : Book) : List Reading := (allReadings b.n).filter fun r => decide (wrongs b.talks r ≤ b.f)
theorem rds_perm {b : Book} (h : b.n ≤ 6) : (rds b).Perm b.readings := (all_perm h).filter _
theorem rds_mem {b : Book} {r : Reading} (h : r ∈ rds b) : r.length = b.n ∧ r.Nodup ∧ ∀ x ∈ r, x < b.n := all_len (List.mem_filter.mp h).1
theorem rds_length {b : Book} (h : b.n ≤ 6) : (rds b).length = b.readings.length := (rds_perm h).length_eq
theorem wrongs_append (l : List Talk) (t : Talk) (r : Reading) : wrongs (l ++ [t]) r = wrongs l r + if t.right r = true then 0 else 1 := by
  unfold wrongs
  rw [List.filter_append, List.length_append, List.filter_cons]
  cases t.right r <;> rfl
/-- one talk more: what was gone stays gone -/
theorem rds_add (b : Book) (t : Talk) : (rds b).filter (fun r => decide (wrongs (b.talks ++ [t]) r ≤ b.f)) = rds ⟨b.n, b.f, b.talks ++ [t]⟩ := by
  unfold rds
  rw [List.filter_filter]
  refine List.filter_congr fun r _ => ?_
  show (decide (wrongs (b.talks ++ [t]) r ≤ b.f) && decide (wrongs b.talks r ≤ b.f)) = decide (wrongs (b.talks ++ [t]) r ≤ b.f)
  by_cases c : wrongs (b.talks ++ [t]) r ≤ b.f
  · rw [decide_eq_true c, decide_eq_true (by rw [wrongs_append] at c; omega)]
    rfl
  · rw [decide_eq_false c]
    rfl
theorem rds_start (n f : Nat) : rds ⟨n, f, []⟩ = allReadings n := by
  unfold rds
  rw [List.filter_eq_self]
  intro r _
  exact decide_eq_true (Nat.zero_le _)
/-! ### what the calls tell -/
theorem meanings_eq {b : Book} (hn : b.n ≤ 6) {w : Nat} (hw : w < b.n) : (rds b).foldl (fun s r => s ||| 2 ^ at_ r w) 0 = bits b.n (b.may w) := by
  refine bits_of fun x => ?_
  rw [or_fold (fun r => at_ r w), Nat.zero_testBit, Bool.false_or, (rds_perm hn).any_eq]
  by_cases c : x < b.n
  · rw [decide_eq_true c, Bool.true_and]
    rfl
  · rw [decide_eq_false c, Bool.false_and, List.any_eq_false]
    intro r hr
    obtain ⟨e, _, lt⟩ := rds_mem ((rds_perm hn).mem_iff.mpr hr)
    have := at_lt lt (show w < r.length by omega)
    simp only [beq_iff_eq]
    omega
theorem and_fold (f : Reading → Nat) : ∀ (l : List Reading) (s x : Nat), (l.foldl (fun s r => s &&& f r) s).testBit x = (s.testBit x && l.all fun r => (f r).testBit x)
  | [], s, x => by simp
  | r :: l, s, x => by
    rw [List.foldl_cons, and_fold f l, Nat.testBit_and, List.all_cons, Bool.and_assoc]
theorem or_fold2 (f : Reading → Nat) : ∀ (l : List Reading) (s x : Nat), (l.foldl (fun s r => s ||| f r) s).testBit x = (s.testBit x || l.any fun r => (f r).testBit x)
  | [], s, x => by simp
  | r :: l, s, x => by
    rw [List.foldl_cons, or_fold2 f l, Nat.testBit_or, List.any_cons, Bool.or_assoc]
theorem surely_eq {b : Book} (hn : b.n ≤ 6) (w : Nat) : (rds b).foldl (fun s r => s &&& means r w) (2 ^ b.n - 1) = b.surely w := by
  refine bits_of fun x => ?_
  rw [and_fold, Nat.testBit_two_pow_sub_one, (rds_perm hn).all_eq]
theorem perhaps_eq {b : Book} (hn : b.n ≤ 6) {w : Nat} (hw : w < 2 ^ b.n) : (rds b).foldl (fun s r => s ||| means r w) 0 = b.perhaps w := by
  refine bits_of fun x => ?_
  rw [or_fold2, Nat.zero_testBit, Bool.false_or, (rds_perm hn).any_eq]
  by_cases c : x < b.n
  · rw [decide_eq_true c, Bool.true_and]
  · rw [decide_eq_false c, Bool.false_and, List.any_eq_false]
    intro r hr
    obtain ⟨e, _, lt⟩ := rds_mem ((rds_perm hn).mem_iff.mpr hr)
    rw [Nat.testBit_lt_two_pow (Nat.lt_of_lt_of_le (means_lt (by rw [e]; exact hw) lt) (Nat.pow_le_pow_right (by omega) (Nat.le_of_not_lt c)))]
    exact Bool.false_ne_true
/-- sureness -/
def sure (b : Book) (t : Talk) : Int := if ((rds b).filter fun r => !(t.right r)).length = (rds b).length then 2 else if 0 < ((rds b).filter fun r => !(t.right r)).length then 1 else 0
theorem sure_eq {b : Book} (hn : b.n ≤ 6) (h0 : b.readings.length ≠ 0) (t : Talk) : sure b t = if (b.readings.all fun r => !(t.right r)) = true then 2 else if (b.readings.all fun r => t.right r) = true then 0 else 1 := by
  unfold sure
  rw [← (rds_perm hn).all_eq, ← (rds_perm hn).all_eq]
  have h1 : (rds b).length ≠ 0 := by rw [rds_length hn]; exact h0
  generalize rds b = l at h1 ⊢
  by_cases c : (l.filter fun r => !(t.right r)).length = l.length
  · rw [if_pos c, if_pos]
    rw [List.length_filter_eq_length_iff] at c
    exact List.all_eq_true.mpr c
  · have c' : ¬ (l.all fun r => !(t.right r)) = true := fun z => c (List.length_filter_eq_length_iff.mpr (List.all_eq_true.mp z))
    rw [if_neg c, if_neg c']
    by_cases d : 0 < (l.filter fun r => !(t.right r)).length
    · rw [if_pos d, if_neg]
      intro z
      obtain ⟨r, hr⟩ := List.exists_mem_of_length_pos d
      rw [List.mem_filter] at hr
      have := List.all_eq_true.mp z r hr.1
      rw [this] at hr
      exact absurd hr.2 (by decide)
    · rw [if_neg d, if_pos]
      refine List.all_eq_true.mpr fun r hr => ?_
      cases q : t.right r with
      | true => rfl
      | false =>
        refine absurd (List.length_pos_of_mem (List.mem_filter.mpr ⟨hr, ?_⟩)) d
        rw [q]
        rfl
end Wd

/-! The plain law of the calls: how a list of numbers is read, call by call. -/
namespace Wd
open Km362 (Book Call act Ans)
abbrev nums (l : List Nat) : List Int := l.map fun (x : Nat) => (x : Int)
def numT (p : Nat) : Nat := ([2, 2, 1, 1, 1, 2, 0, 0] : List Nat).getD p 0
def callK : Nat → List Nat → Option Call
  | 0, [n, f] => some (.start n f)
  | 1, [x, y] => some (.talk x y)
  | 2, [x] => some (.means x)
  | 3, [x] => some (.says x)
  | 4, [x] => some (.mistaken x)
  | 5, [x, y] => some (.apart x y)
  | 6, [] => some .ask
  | 7, [] => some .left
  | _, _ => none
def xstep (s : Option Book) (x : Call) : Option Book × List Int := match s with
  | some a => (some (act a x).1, Km362Neutral.told (act a x).2)
  | none => if Km362Neutral.isStart x = true then (if (Km362Neutral.told (act ⟨2, 0, []⟩ x).2).headD 0 < 0 then none else some (act ⟨2, 0, []⟩ x).1, Km362Neutral.told (act ⟨2, 0, []⟩ x).2) else (none, [])
theorem step_x {s : Option Book} {c : List (List Int)} {x : Call} (h : Km362Neutral.callOf c = some x) : Km362Neutral.step s c = xstep s x := by
  unfold Km362Neutral.step xstep
  rw [h]
  cases s <;> rfl
theorem whole_id (c : List (List Int)) : PyKm362.whole c = c := by
  unfold PyKm362.whole
  split <;> rfl
theorem shape_none {p : Nat} (h : 8 ≤ p) : PyKm362.shape (p : Int) = none := by
  unfold PyKm362.shape
  rw [if_neg (by omega), if_neg (by omega), if_neg (by omega), if_neg (by omega), if_neg (by omega), if_neg (by omega), if_neg (by omega), if_neg (by omega)]
theorem shape_some : ∀ p, p < 8 → PyKm362.shape ((p : Nat) : Int) = some (numT p, 0) := by decide
/-- what a call's numbers are -/
theorem callK_some {p : Nat} (hp : p < 8) {l : List Nat} (h : l.length = numT p) : ∃ x, callK p l = some x ∧ Km362Neutral.callOf [nums (p :: l)] = some x := by
  match p, hp, l, h with
  | 0, _, [n, f], _ => exact ⟨_, rfl, rfl⟩
  | 1, _, [n, f], _ => exact ⟨_, rfl, rfl⟩
  | 2, _, [n], _ => exact ⟨_, rfl, rfl⟩
  | 3, _, [n], _ => exact ⟨_, rfl, rfl⟩
  | 4, _, [n], _ => exact ⟨_, rfl, rfl⟩
  | 5, _, [n, f], _ => exact ⟨_, rfl, rfl⟩
  | 6, _, [], _ => exact ⟨_, rfl, rfl⟩
  | 7, _, [], _ => exact ⟨_, rfl, rfl⟩
theorem parse_cons {f p : Nat} {r : List Nat} {cs : List (List (List Int))} (h : PyFlat.calls PyKm362.shape f (nums (p :: r)) = some cs) :
    p < 8 ∧ numT p ≤ r.length ∧ ∃ f' x cs', callK p (r.take (numT p)) = some x ∧ Km362Neutral.callOf [nums (p :: r.take (numT p))] = some x ∧ PyFlat.calls PyKm362.shape f' (nums (r.drop (numT p))) = some cs' ∧ cs = [nums (p :: r.take (numT p))] :: cs' := by
  cases f with
  | zero => cases h
  | succ f =>
    have h1 : (match PyFlat.call PyKm362.shape ((p : Int) :: nums r) with
      | none => none
      | some (c, t) => match PyFlat.calls PyKm362.shape f t with
        | none => none
        | some cs => some (c :: cs)) = some cs := h
    by_cases hp : p < 8
    · have e : PyFlat.call PyKm362.shape ((p : Int) :: nums r) = if (nums r).length < numT p then none else some ([(p : Int) :: (nums r).take (numT p)], (nums r).drop (numT p)) := by
        show (match PyKm362.shape (p : Int) with
          | none => none
          | some (n, k) => if (nums r).length < n then none else match PyFlat.rows k ((nums r).drop n) with
            | none => none
            | some (xs, t) => some (((p : Int) :: (nums r).take n) :: xs, t)) = _
        rw [shape_some p hp]
        rfl
      rw [e] at h1
      by_cases hl : (nums r).length < numT p
      · rw [if_pos hl] at h1
        cases h1
      · rw [if_neg hl] at h1
        have hl2 : numT p ≤ r.length := by
          rw [List.length_map] at hl
          omega
        obtain ⟨x, k1, k2⟩ := callK_some hp (l := r.take (numT p)) (by rw [List.length_take]; omega)
        dsimp only at h1
        cases q : PyFlat.calls PyKm362.shape f ((nums r).drop (numT p)) with
        | none =>
          rw [q] at h1
          cases h1
        | some cs' =>
          rw [q] at h1
          refine ⟨hp, hl2, f, x, cs', k1, k2, ?_, ?_⟩
          · rw [show nums (r.drop (numT p)) = (nums r).drop (numT p) from List.map_drop]
            exact q
          · rw [← Option.some.inj h1, show nums (p :: r.take (numT p)) = (p : Int) :: (nums r).take (numT p) from congrArg (List.cons (p : Int)) List.map_take]
    · have e : PyFlat.call PyKm362.shape ((p : Int) :: nums r) = none := by
        show (match PyKm362.shape (p : Int) with
          | none => none
          | some (n, k) => if (nums r).length < n then none else match PyFlat.rows k ((nums r).drop n) with
            | none => none
            | some (xs, t) => some (((p : Int) :: (nums r).take n) :: xs, t)) = _
        rw [shape_none (by omega)]
      rw [e] at h1
      cases h1
/-- how far a run is: behind so many numbers, the object, what was told -/
def Run (ms : List Nat) (i : Nat) (ob : Option Book) (out : List Int) : Prop := ∃ f cs, PyFlat.calls PyKm362.shape f (nums (ms.drop i)) = some cs ∧ Km362Neutral.may ob cs = true ∧ out ++ PyFlat.told (PyFlat.played Km362Neutral.step ob cs) = PyKm362.answers (nums ms)
theorem calls_whole (l : List Int) : PyKm362.calls l = PyFlat.calls PyKm362.shape l.length l := by
  unfold PyKm362.calls
  cases PyFlat.calls PyKm362.shape l.length l with
  | none => rfl
  | some cs =>
    show some (cs.map PyKm362.whole) = some cs
    rw [show PyKm362.whole = id from funext whole_id, List.map_id]
theorem run_start {ms : List Nat} (h : PyKm362.answers_asked (nums ms) = true) : Run ms 0 none [] := by
  unfold PyKm362.answers_asked at h
  cases q : PyFlat.calls PyKm362.shape (nums ms).length (nums ms) with
  | none =>
    rw [q] at h
    cases h
  | some cs =>
    rw [q] at h
    dsimp only at h
    have hm := (Bool.and_eq_true_iff.mp h).2
    rw [show PyKm362.whole = id from funext whole_id, List.map_id] at hm
    unfold Km362Neutral.asked at hm
    have hm := (Bool.and_eq_true_iff.mp (Bool.and_eq_true_iff.mp (Bool.and_eq_true_iff.mp hm).2).2).2
    refine ⟨_, cs, q, hm, ?_⟩
    unfold PyKm362.answers
    rw [calls_whole, q]
    rfl
theorem run_step {ms : List Nat} {i : Nat} {ob : Option Book} {out : List Int} (R : Run ms i ob out) (h : i < ms.length) : ∃ p x, ms[i]? = some p ∧ p < 8 ∧ i + 1 + numT p ≤ ms.length ∧ callK p ((ms.drop (i + 1)).take (numT p)) = some x ∧
    (ob = none → Km362Neutral.isStart x = true) ∧ Run ms (i + 1 + numT p) (xstep ob x).1 (out ++ ((xstep ob x).2.length : Int) :: (xstep ob x).2) := by
  obtain ⟨f, cs, hc, hm, ho⟩ := R
  have hd : ms.drop i = ms[i] :: ms.drop (i + 1) := List.drop_eq_getElem_cons h
  rw [hd] at hc
  obtain ⟨hp, hl, f', x, cs', k1, k2, hc', rfl⟩ := parse_cons hc
  rw [List.length_drop] at hl
  have es := step_x (s := ob) k2
  have hm' : (!((Km362Neutral.step ob [nums (ms[i] :: (ms.drop (i + 1)).take (numT ms[i]))]).2.isEmpty) && Km362Neutral.may (Km362Neutral.step ob [nums (ms[i] :: (ms.drop (i + 1)).take (numT ms[i]))]).1 cs') = true := hm
  rw [es, Bool.and_eq_true] at hm'
  refine ⟨ms[i], x, List.getElem?_eq_getElem h, hp, by omega, k1, fun e => ?_, f', cs', ?_, hm'.2, ?_⟩
  · subst e
    cases c : Km362Neutral.isStart x with
    | true => rfl
    | false =>
      have z := hm'.1
      unfold xstep at z
      dsimp only at z
      rw [c] at z
      cases z
  · rw [List.drop_drop] at hc'
    exact hc'
  · rw [← ho, List.append_assoc]
    congr 1
    show _ = PyFlat.told ((Km362Neutral.step ob [nums (ms[i] :: (ms.drop (i + 1)).take (numT ms[i]))]).2 :: PyFlat.played Km362Neutral.step (Km362Neutral.step ob [nums (ms[i] :: (ms.drop (i + 1)).take (numT ms[i]))]).1 cs')
    rw [es]
    unfold PyFlat.told
    rw [List.flatMap_cons]
theorem run_end {ms : List Nat} {i : Nat} {ob : Option Book} {out : List Int} (R : Run ms i ob out) (h : ms.length ≤ i) : out = PyKm362.answers (nums ms) := by
  obtain ⟨f, cs, hc, _, ho⟩ := R
  rw [List.drop_eq_nil_of_le h] at hc
  have e : cs = [] := by
    cases f <;> exact (Option.some.inj hc).symm
  subst e
  rw [← ho]
  exact (List.append_nil _).symm
theorem told_short (s : Option Book) (x : Call) : (xstep s x).2.length ≤ 3 := by
  have k : ∀ (b : Book) (x : Call), (Km362Neutral.told (act b x).2).length ≤ 3 := by
    intro b x
    have l0 : ∀ v : Int, (Km362Neutral.told (Km362.only v)).length ≤ 3 := fun v => by
      show 1 ≤ 3
      omega
    cases x with
    | start n f =>
      dsimp only [act]
      split
      · exact l0 _
      · exact l0 _
    | talk w t =>
      dsimp only [act]
      split
      · exact l0 _
      · split
        · exact l0 _
        · exact l0 _
    | means w =>
      dsimp only [act]
      split
      · exact l0 _
      · split
        · exact l0 _
        · show 2 ≤ 3
          omega
    | says w =>
      dsimp only [act]
      split
      · exact l0 _
      · split
        · exact l0 _
        · show 3 ≤ 3
          omega
    | mistaken k =>
      dsimp only [act]
      split
      · exact l0 _
      · split
        · exact l0 _
        · exact l0 _
    | apart u v =>
      dsimp only [act]
      split
      · exact l0 _
      · exact l0 _
    | ask =>
      dsimp only [act]
      split
      · exact l0 _
      · split
        · exact l0 _
        · exact l0 _
    | left => exact l0 _
  unfold xstep
  cases s with
  | some a => exact k a x
  | none =>
    dsimp only
    split
    · exact k _ x
    · exact Nat.zero_le _
end Wd

namespace Wd
open PySem PySem.Spec PyProof.Rows L2
open Km362 (Talk Book Reading wrongs at_)
/-! ### the text by places -/
def top (i : Nat) : Stmt := PySem.Challenge.pw_strangetalk_s01_answers.main.body.getD i (.Pass ⟨0, 0, 0, 0⟩)
abbrev sHas : Stmt := top 1
abbrev sMem : Stmt := top 2
abbrev sHow : Stmt := top 3
abbrev sIs : Stmt := top 4
abbrev sAllR : Stmt := top 6
abbrev sMeant : Stmt := top 7
abbrev sMis : Stmt := top 8
abbrev sSI : Stmt := inClass (top 11) 0
abbrev sSMis : Stmt := inClass (top 11) 1
abbrev sSAdd : Stmt := inClass (top 11) 2
abbrev sSMea : Stmt := inClass (top 11) 3
abbrev sSSaid : Stmt := inClass (top 11) 4
abbrev sSSure : Stmt := inClass (top 11) 5
abbrev sSApart : Stmt := inClass (top 11) 6
abbrev sSOpen : Stmt := inClass (top 11) 7
abbrev sDI : Stmt := inClass (top 17) 0
abbrev sDStart : Stmt := inClass (top 17) 1
abbrev sDTalk : Stmt := inClass (top 17) 2
abbrev sDMeans : Stmt := inClass (top 17) 3
abbrev sDSays : Stmt := inClass (top 17) 4
abbrev sDMis : Stmt := inClass (top 17) 5
abbrev sDApart : Stmt := inClass (top 17) 6
abbrev sDAsk : Stmt := inClass (top 17) 7
abbrev sDAns : Stmt := inClass (top 17) 8
abbrev sAns : Stmt := top 18
/-! ### values -/
abbrev vn (k : Nat) : V := V.int (k : Int)
def vi (l : List Nat) : List V := l.map vn
theorem vi_len (l : List Nat) : (vi l).length = l.length := List.length_map ..
theorem vi_int (l : List Nat) : vi l = (l.map fun (k : Nat) => (k : Int)).map V.int := by
  unfold vi
  rw [List.map_map]
  rfl
theorem vi_get {l : List Nat} {i k : Nat} (h : l[i]? = some k) : (vi l)[i]? = some (vn k) := by
  unfold vi
  rw [List.getElem?_map, h]
  rfl
theorem bitAnd_nat (x y : Nat) : Builtin.bitAnd (x : Int) (y : Int) = ((x &&& y : Nat) : Int) := by
  simp [Builtin.bitAnd]
theorem bitOr_nat (x y : Nat) : Builtin.bitOr (x : Int) (y : Int) = ((x ||| y : Nat) : Int) := by
  rw [bitOr_nn (Int.natCast_nonneg _) (Int.natCast_nonneg _)]
  rfl
theorem shr_nat (x k : Nat) : (x : Int) / 2 ^ ((k : Int)).toNat = ((x / 2 ^ k : Nat) : Int) := by
  rw [Int.toNat_natCast, Int.natCast_ediv, PySem.W.kbt_cast]
theorem shl_nat (k : Nat) : (1 : Int) * 2 ^ ((k : Int)).toNat = ((2 ^ k : Nat) : Int) := by
  rw [Int.toNat_natCast, PySem.W.kbt_cast, Int.one_mul]
theorem blen_bits (s : Nat) : Builtin.Int.intBits (s : Int) = blen s := by
  unfold Builtin.Int.intBits blen
  by_cases h : s = 0
  · subst h
    rfl
  · rw [if_neg h, if_neg (by simpa using h), Int.natAbs_natCast]
theorem has_eq (s k : Nat) : decide (V.int (Builtin.bitAnd ((s : Int) / 2 ^ ((k : Int)).toNat) 1) = V.int 1) = s.testBit k := by
  rw [shr_nat, show (1 : Int) = ((1 : Nat) : Int) from rfl, bitAnd_nat, dec_int, Nat.and_one_is_mod, Nat.testBit_eq_decide_div_mod_eq]
  by_cases h : s / 2 ^ k % 2 = 1
  · rw [h, decide_eq_true rfl]
    rfl
  · rw [decide_eq_false h]
    exact beq_eq_false_iff_ne.mpr (by omega)
theorem is_eq (s n : Nat) : decide (V.int ((s : Int) / 2 ^ ((n : Int)).toNat) = V.int 0) = decide (s < 2 ^ n) := by
  rw [shr_nat, dec_int]
  by_cases h : s < 2 ^ n
  · rw [decide_eq_true h, Nat.div_eq_of_lt h]
    rfl
  · rw [decide_eq_false h]
    have : 0 < s / 2 ^ n := Nat.div_pos (by omega) (Nat.two_pow_pos n)
    exact beq_eq_false_iff_ne.mpr (by omega)
/-! ### slots, fields -/
theorem lk_here {k : Str} {v : V} {r : List (Str × V)} : List.lookup k ((k, v) :: r) = some v := by
  have e : (k == k) = true := beq_self_eq_true k
  simp only [List.lookup, e]
theorem lk_past {k g : Str} {v : V} {r : List (Str × V)} (h : (k == g) = false) : List.lookup k ((g, v) :: r) = List.lookup k r := by
  simp only [List.lookup, h]
theorem put_here {f : Str} {v x : V} {r : List (Str × V)} : putF f v ((f, x) :: r) = (f, v) :: r := if_pos rfl
theorem put_past {f g : Str} {v x : V} {r : List (Str × V)} (h : ¬ g = f) : putF f v ((g, x) :: r) = (g, x) :: putF f v r := if_neg h
theorem upd_keep {H : Hp} {a b : Addr} {o u : HO} (h : H b = some u) (n : H a = none) : upd H a o b = some u := by
  rw [upd_ne (ne_of_none h n)]
  exact h
theorem Same.new {H H' : Hp} {a : Addr} {o : HO} (s : Same H H') (n : H a = none) : Same H (upd H' a o) := fun b u e => by
  rw [upd_ne (ne_of_none e n)]
  exact s b u e
/-- all stands but what is in S -/
def Keep (S : List Addr) (H H' : Hp) : Prop := ∀ b o, H b = some o → b ∉ S → H' b = some o
theorem Same.keep {S : List Addr} {H H' : Hp} (s : Same H H') : Keep S H H' := fun b o e _ => s b o e
theorem Keep.trans {S : List Addr} {H H1 H2 : Hp} (a : Keep S H H1) (b : Keep S H1 H2) : Keep S H H2 := fun c o e n => b c o (a c o e n) n
/-! ### a comprehension that filters and maps -/
theorem take_more {α : Type} : ∀ {l : List α} {i : Nat} {x : α}, l[i]? = some x → l.take (i + 1) = l.take i ++ [x]
  | [], i, x, h => by simp at h
  | a :: l, 0, x, h => by
    have e : a = x := Option.some.inj h
    subst e
    rfl
  | a :: l, i + 1, x, h => by
    have ih := take_more (l := l) (i := i) (x := x) h
    show a :: l.take (i + 1) = a :: l.take i ++ [x]
    rw [ih]
    rfl
theorem filt_more {α : Type} {l : List α} {i : Nat} {q : α} {p : α → Bool} {f : α → V} (h : l[i]? = some q) :
    ((l.take (i + 1)).filter p).map f = if p q = true then ((l.take i).filter p).map f ++ [f q] else ((l.take i).filter p).map f := by
  rw [take_more h, List.filter_append, List.map_append, List.filter_cons]
  split
  · rfl
  · exact List.append_nil _
theorem lc_filt {α : Type} {K : PySem.W.Frag} {a : Addr} {g : TG} {tt : TT} {te : TE} {vs : List Nat} {σ : L2.St} {H1 : Hp} {D : Addr} {Qd : Hp → Prop} (qs : List α) (v : α → V) (p : α → Bool) (f : α → V)
    (hx : SqL K H1 a (qs.map v)) (hD : H1 D = none) (hlen : qs.length ≤ sizeLine)
    (hs : ∀ (i : Nat) (q : α) (H : Hp) (N : Hp → Prop), qs[i]? = some q → Same H1 H →
      (p q = true → ∀ H', Same H H' → ∃ acc, H' D = some (.lst acc) ∧ acc.length < sizeLine ∧ N (upd H' D (.lst (acc ++ [f q])))) → (p q = false → ∀ H', Same H H' → N H') →
      g (v q) (wipe σ vs) H fun σ2 H2 => wipe σ2 vs = wipe σ vs ∧ tt σ2 H2 fun b H3 => if b = true then te σ2 H3 fun y H4 => ∃ acc, H4 D = some (.lst acc) ∧ acc.length < sizeLine ∧ N (upd H4 D (.lst (acc ++ [y]))) else N H3)
    (hd : ∀ H, Same H1 H → H D = some (.lst ((qs.filter p).map f)) → Qd H) :
    ∃ W : Nat → Nat → Hp → Prop, (∃ m, W 0 m (upd H1 D (.lst []))) ∧ ∀ i m H, W i m H →
      ((Itl K a).stop i H ∧ Qd H) ∨ ((Itl K a).go i H ∧ ∃ Nx : Hp → Prop, (∀ H', Nx H' → ∃ m', m' < m ∧ W (i + 1) m' H') ∧ ∀ x H', (Itl K a).yld i H x H' → g x (wipe σ vs) H' fun σ2 H2 => wipe σ2 vs = wipe σ vs ∧ tt σ2 H2 fun b H3 =>
        if b = true then te σ2 H3 fun y H4 => ∃ acc, H4 D = some (.lst acc) ∧ acc.length < sizeLine ∧ Nx (upd H4 D (.lst (acc ++ [y]))) else Nx H3) := by
  refine lc_list (K := K) (a := a) (xs := qs.map v) (fun i H => Same H1 H ∧ H D = some (.lst (((qs.take i).filter p).map f))) ⟨Same.new (Same.refl H1) hD, upd_same⟩ (fun i H _ h => h.1.seq hx) ?_ ?_
  · rintro i x H hi ⟨s1, hH⟩
    obtain ⟨q, hq, rfl⟩ : ∃ q, qs[i]? = some q ∧ x = v q := by
      rw [List.getElem?_map] at hi
      cases e : qs[i]? with
      | none =>
        rw [e] at hi
        cases hi
      | some q =>
        rw [e] at hi
        exact ⟨q, rfl, (Option.some.inj hi).symm⟩
    have hil : i < qs.length := (List.getElem?_eq_some_iff.mp hq).1
    refine hs i q H _ hq s1 (fun hp H' s2 => ⟨_, s2 _ _ hH, ?_, ?_, ?_⟩) (fun hp H' s2 => ⟨s1.trans s2, ?_⟩)
    · rw [List.length_map]
      refine Nat.lt_of_le_of_lt (List.length_filter_le ..) ?_
      rw [List.length_take]
      omega
    · exact Same.new (s1.trans s2) hD
    · rw [upd_same, filt_more hq, if_pos hp]
    · rw [s2 _ _ hH, filt_more hq, if_neg (by rw [hp]; exact Bool.false_ne_true)]
  · rintro H ⟨s1, hH⟩
    rw [List.length_map, List.take_length] at hH
    exact hd H s1 hH
/-- the same over range(n) -/
theorem lc_rfilt {g : TG} {tt : TT} {te : TE} {vs : List Nat} {σ : L2.St} {H1 : Hp} {D : Addr} {Qd : Hp → Prop} (n : Nat) (p : Nat → Bool) (f : Nat → V) (hD : H1 D = none) (hlen : n ≤ sizeLine)
    (hs : ∀ (i : Nat) (H : Hp) (N : Hp → Prop), i < n → Same H1 H →
      (p i = true → ∀ H', Same H H' → ∃ acc, H' D = some (.lst acc) ∧ acc.length < sizeLine ∧ N (upd H' D (.lst (acc ++ [f i])))) → (p i = false → ∀ H', Same H H' → N H') →
      g (vn i) (wipe σ vs) H fun σ2 H2 => wipe σ2 vs = wipe σ vs ∧ tt σ2 H2 fun b H3 => if b = true then te σ2 H3 fun y H4 => ∃ acc, H4 D = some (.lst acc) ∧ acc.length < sizeLine ∧ N (upd H4 D (.lst (acc ++ [y]))) else N H3)
    (hd : ∀ H, Same H1 H → H D = some (.lst (((List.range n).filter p).map f)) → Qd H) :
    ∃ W : Nat → Nat → Hp → Prop, (∃ m, W 0 m (upd H1 D (.lst []))) ∧ ∀ i m H, W i m H →
      ((Itr 0 n).stop i H ∧ Qd H) ∨ ((Itr 0 n).go i H ∧ ∃ Nx : Hp → Prop, (∀ H', Nx H' → ∃ m', m' < m ∧ W (i + 1) m' H') ∧ ∀ x H', (Itr 0 n).yld i H x H' → g x (wipe σ vs) H' fun σ2 H2 => wipe σ2 vs = wipe σ vs ∧ tt σ2 H2 fun b H3 =>
        if b = true then te σ2 H3 fun y H4 => ∃ acc, H4 D = some (.lst acc) ∧ acc.length < sizeLine ∧ Nx (upd H4 D (.lst (acc ++ [y]))) else Nx H3) := by
  have tk : ∀ i, i ≤ n → (List.range n).take i = List.range i := fun i hi => by
    rw [List.take_range, Nat.min_eq_left hi]
  refine lc_range (lo := 0) (n := n) (fun i H => Same H1 H ∧ H D = some (.lst ((((List.range n).take i).filter p).map f))) ⟨Same.new (Same.refl H1) hD, upd_same⟩ ?_ ?_
  · rintro i H hi ⟨s1, hH⟩
    have hq : (List.range n)[i]? = some i := List.getElem?_range hi
    rw [Int.zero_add]
    refine hs i H _ hi s1 (fun hp H' s2 => ⟨_, s2 _ _ hH, ?_, ?_, ?_⟩) (fun hp H' s2 => ⟨s1.trans s2, ?_⟩)
    · rw [List.length_map]
      refine Nat.lt_of_le_of_lt (List.length_filter_le ..) ?_
      rw [List.length_take, List.length_range]
      omega
    · exact Same.new (s1.trans s2) hD
    · rw [upd_same, filt_more hq, if_pos hp]
    · rw [s2 _ _ hH, filt_more hq, if_neg (by rw [hp]; exact Bool.false_ne_true)]
  · rintro H ⟨s1, hH⟩
    rw [show (List.range n).take n = List.range n by rw [tk n (Nat.le_refl _)]] at hH
    exact hd H s1 hH
/-! ### a def, a method, as callers see it -/
section
variable (P : Program) (w : World) (K : PySem.W.Frag) (mg : Str → Option Value) (base : Heap)
def DefOk (k : Nat) (x : Str) (ps : List Str) (sp : Sp) : Prop := ∃ f fd, FnOk P w K mg base CX0 k f fd ps sp ∧ PySem.W.keepIn K (.ref f) = true ∧ Binds K fd ps [] ∧ mg x = some (.ref f)
def MethOk (k : Nat) (C : Addr) (m : Str) (ps : List Str) (sp : Sp) : Prop := ∃ f fd, FnOk P w K mg base CX0 k f fd ps sp ∧ Binds K fd ps [] ∧ Meth K C m f
def InitOk (k : Nat) (C : Addr) (x : Str) (ps : List Str) (sp : Sp) : Prop := ∃ f fd, FnOk P w K mg base CX0 k f fd ps sp ∧ Binds K fd ps [] ∧ Mk K C f ∧ mg x = some (.ref C)
end
end Wd

namespace Wd
open PySem PySem.Spec PyProof.Rows L2
open Km362 (Talk Book Reading wrongs at_)
/-! ### promises of the sets -/
def spHas : Sp := fun vs H Q _ => ∃ s k : Nat, vs = [vn s, vn k] ∧ Q (.bl (s.testBit k)) H
def spIs : Sp := fun vs H Q _ => ∃ s n : Nat, vs = [vn s, vn n] ∧ Q (.bl (decide (s < 2 ^ n))) H
def spMem : Sp := fun vs H Q _ => ∃ s : Nat, vs = [vn s] ∧ blen s ≤ 1000 ∧ ∀ (H' : Hp) (p : Addr), Same H H' → H p = none → H' p = some (.lst (vi (members s))) → Q (.ref p) H'
def spHow : Sp := fun vs H Q _ => ∃ s : Nat, vs = [vn s] ∧ blen s ≤ 1000 ∧ ∀ H' : Hp, Same H H' → Q (vn (members s).length) H'
section
variable {P : Program} {w : World} {K : PySem.W.Frag} {mg : Str → Option Value} {base : Heap}
theorem scHas : FnScope ["some", "number"] ["some", "number"] (defScope sHas) := ⟨rfl, rfl, rfl, by decide +kernel, rfl, by decide +kernel, by decide +kernel⟩
theorem ok_has {f : Addr} {fd : FuncData} (F : Fun K "has" "has" sHas f fd) : FnOk P w K mg base CX0 1 f fd ["some", "number"] spHas := by
  refine F.ok scHas (fun vs H Q E h => ?_) (fun cdv A outer s H vs Q E hr h => ?_)
  · obtain ⟨s, k, rfl, _⟩ := h
    rfl
  · obtain ⟨x, k, rfl, q⟩ := h
    refine ⟨_, pss_one (ps_ret (pe_cmpR op_eq (pe_op op_and (pe_op op_shr (pv 0) (pv 1)) pe_int) pe_int (nomark _))), ?_⟩
    refine ⟨_, rfl, _, rfl, _, _, rfl, rfl, Int.natCast_nonneg _, _, _, rfl, rfl, rfl, ?_⟩
    rw [has_eq]
    exact q
theorem scIs : FnScope ["some", "many"] ["some", "many"] (defScope sIs) := ⟨rfl, rfl, rfl, by decide +kernel, rfl, by decide +kernel, by decide +kernel⟩
theorem ok_is {f : Addr} {fd : FuncData} (F : Fun K "is_set" "is_set" sIs f fd) : FnOk P w K mg base CX0 1 f fd ["some", "many"] spIs := by
  refine F.ok scIs (fun vs H Q E h => ?_) (fun cdv A outer s H vs Q E hr h => ?_)
  · obtain ⟨s, k, rfl, _⟩ := h
    rfl
  · obtain ⟨x, k, rfl, q⟩ := h
    refine ⟨_, pss_one (ps_ret (pe_cmpR op_eq (pe_op op_shr (pv 0) (pv 1)) pe_int (nomark _))), ?_⟩
    refine ⟨_, rfl, _, rfl, _, _, rfl, rfl, Int.natCast_nonneg _, rfl, ?_⟩
    rw [is_eq]
    exact q
theorem scMem : FnScope ["some", "number"] ["some"] (defScope sMem) := ⟨rfl, rfl, rfl, by decide +kernel, rfl, by decide +kernel, by decide +kernel⟩
theorem ok_mem {f : Addr} {fd : FuncData} (F : Fun K "members_of" "members_of" sMem f fd) (hrange : mg "range" = none) (DH : DefOk P w K mg base 1 "has" ["some", "number"] spHas) : FnOk P w K mg base CX0 2 f fd ["some"] spMem := by
  obtain ⟨fH, fdH, GH, kH, bH, mH⟩ := DH
  refine F.ok scMem (fun vs H Q E h => ?_) (fun cdv A outer s H vs Q E hr h => ?_)
  · obtain ⟨s, rfl, _⟩ := h
    rfl
  · obtain ⟨x, rfl, hx, q⟩ := h
    refine ⟨_, pss_one (ps_ret (pe_lc (own := [("number", 1)]) (g := gName 1) rfl scMem.nd (pi_range1 rfl hrange (pa_cons (pe_bits (pv 0)) pa_nil)) (blkOk_by (N := ["some", "number"]) (sc := defScope sMem) (by decide +kernel))
      (fun _ _ _ _ _ => pg_name (i := 1) scMem.nd rfl (Or.inl rfl)) (fun _ _ _ _ _ => pts_one (pt_val (pe_call GH hr rfl mH kH bH .nil pass0 (pa_cons (pv 0) (pa_cons (pv 1) pa_nil))))) (fun _ _ _ _ _ => pv 1))), ?_⟩
    have e := blen_bits x
    have hb : (2 : Int) ^ 62 = 4611686018427387904 := by decide
    refine ⟨_, rfl, _, rfl, _, rfl, by rw [e, hb]; omega, by rw [e, hb]; omega, fun D hD => ?_⟩
    rw [Int.toNat_natCast, e]
    refine lc_rfilt (blen x) (fun k => x.testBit k) vn hD (Nat.le_trans hx (by decide)) ?_ ?_
    · intro i H2 N hi s1 k1 k2
      refine ⟨rfl, _, rfl, _, rfl, x, i, rfl, x.testBit i, rfl, ?_⟩
      cases c : x.testBit i with
      | true => exact iteT ⟨_, rfl, k1 c _ (Same.refl _)⟩
      | false => exact iteF (k2 c _ (Same.refl _))
    · intro H2 s1 h2
      exact q H2 D s1 hD h2
theorem scHow : FnScope ["some"] ["some"] (defScope sHow) := ⟨rfl, rfl, rfl, by decide +kernel, rfl, by decide +kernel, by decide +kernel⟩
theorem ok_how {f : Addr} {fd : FuncData} (F : Fun K "how_many" "how_many" sHow f fd) (hlen : mg "len" = none) (DM : DefOk P w K mg base 2 "members_of" ["some"] spMem) : FnOk P w K mg base CX0 3 f fd ["some"] spHow := by
  obtain ⟨fM, fdM, GM, kM, bM, mM⟩ := DM
  refine F.ok scHow (fun vs H Q E h => ?_) (fun cdv A outer s H vs Q E hr h => ?_)
  · obtain ⟨s, rfl, _⟩ := h
    rfl
  · obtain ⟨x, rfl, hx, q⟩ := h
    refine ⟨_, pss_one (ps_ret (pe_callB call_len_seq (by rfl) hlen PySem.boot_len (pa_cons (pe_call GM hr rfl mM kM bM .nil pass0 (pa_cons (pv 0) pa_nil)) pa_nil))), ?_⟩
    refine ⟨_, rfl, x, rfl, hx, fun H' p s1 np hp => ⟨p, _, rfl, .inl (SqL.of hp), ?_⟩⟩
    rw [vi_len]
    exact q H' s1
end
end Wd

namespace Wd
open PySem PySem.Spec PyProof.Rows L2
open Km362 (Talk Book Reading wrongs at_)
/-! ### all readings -/
theorem moreOf_len (n : Nat) (r : List Nat) : (moreOf n r).length ≤ n := by
  unfold moreOf
  rw [List.length_map]
  exact Nat.le_trans (List.length_filter_le ..) (by rw [List.length_range]; exact Nat.le_refl _)
theorem flat_len {n : Nat} (h : n ≤ 6) : ∀ l : List (List Nat), (l.flatMap (moreOf n)).length ≤ 6 * l.length
  | [] => Nat.le_refl _
  | r :: l => by
    rw [List.flatMap_cons, List.length_append, List.length_cons]
    have a := moreOf_len n r
    have b := flat_len h l
    omega
theorem grown_length {n : Nat} (h : n ≤ 6) : ∀ k, (grown n k).length ≤ 6 ^ k
  | 0 => Nat.le_refl _
  | k + 1 => by
    have a := flat_len h (grown n k)
    have b := grown_length h k
    show ((grown n k).flatMap (moreOf n)).length ≤ _
    rw [Nat.pow_succ]
    omega
theorem six5 {n k : Nat} (h : n ≤ 6) (hk : k < n) : (grown n k).length ≤ 7776 :=
  Nat.le_trans (grown_length h k) (Nat.le_trans (Nat.pow_le_pow_right (by omega) (show k ≤ 5 by omega)) (by decide))
abbrev Rd1 := Addr × List Nat
def refs (ps : List Rd1) : List V := ps.map fun q => V.ref q.1
theorem refs_append (a b : List Rd1) : refs (a ++ b) = refs a ++ refs b := List.map_append
theorem refs_len (a : List Rd1) : (refs a).length = a.length := List.length_map ..
/-- new lists, each a reading -/
def NewRds (H0 H : Hp) (ps : List Rd1) : Prop := ∀ q ∈ ps, H0 q.1 = none ∧ H q.1 = some (.lst (vi q.2))
theorem NewRds.mono {H0 H H' : Hp} {ps : List Rd1} (h : NewRds H0 H ps) (s : Same H H') : NewRds H0 H' ps := fun q hq => ⟨(h q hq).1, s _ _ (h q hq).2⟩
theorem NewRds.from {H0 H0' H : Hp} {ps : List Rd1} (h : NewRds H0' H ps) (s : Same H0 H0') : NewRds H0 H ps := fun q hq => ⟨s.free (h q hq).1, (h q hq).2⟩
theorem NewRds.append {H0 H : Hp} {ps qs : List Rd1} (h : NewRds H0 H ps) (k : NewRds H0 H qs) : NewRds H0 H (ps ++ qs) := fun q hq => (List.mem_append.mp hq).elim (h q) (k q)
theorem NewRds.nil {H0 H : Hp} : NewRds H0 H [] := fun q hq => by cases hq
def spAllR : Sp := fun vs H Q _ => ∃ n : Nat, vs = [vn n] ∧ n ≤ 6 ∧ ∀ (H' : Hp) (p : Addr) (ps : List Rd1), Same H H' → H p = none → H' p = some (.lst (refs ps)) → NewRds H H' ps → ps.map (·.2) = allReadings n → Q (.ref p) H'
section
variable {P : Program} {w : World} {K : PySem.W.Frag} {mg : Str → Option Value} {base : Heap}
theorem notin_vi (t : Nat) (r : List Nat) : inV (vn t) (vi r) = r.contains t := by
  unfold inV vi
  induction r with
  | nil => rfl
  | cons x r ih =>
    rw [List.map_cons, List.any_cons, ih, List.contains_cons]
    congr 1
    show ((x : Int) == (t : Int)) = (t == x)
    by_cases h : x = t
    · subst h
      simp
    · rw [beq_eq_false_iff_ne.mpr (by omega), beq_eq_false_iff_ne.mpr (by omega)]
theorem vi_flat : ∀ r : List Nat, (vi r).all flatV = true
  | [] => rfl
  | _ :: r => vi_flat r
theorem moreOf_take (n : Nat) (r : List Nat) (i : Nat) : ((List.range (i + 1)).filter fun t => !(r.contains t)).map (fun t => r ++ [t]) = if r.contains i = true then ((List.range i).filter fun t => !(r.contains t)).map (fun t => r ++ [t]) else ((List.range i).filter fun t => !(r.contains t)).map (fun t => r ++ [t]) ++ [r ++ [i]] := by
  rw [List.range_succ, List.filter_append, List.map_append, List.filter_cons]
  cases r.contains i with
  | true => exact List.append_nil _
  | false => rfl
theorem scAllR : FnScope ["many", "found", "word", "more", "reading", "thing"] ["many"] (defScope sAllR) := ⟨rfl, rfl, rfl, by decide +kernel, rfl, by decide +kernel, by decide +kernel⟩
theorem ok_allr {f : Addr} {fd : FuncData} (F : Fun K "all_readings" "all_readings" sAllR f fd) (hrange : mg "range" = none) : FnOk P w K mg base CX0 1 f fd ["many"] spAllR := by
  refine F.ok scAllR (fun vs H Q E h => ?_) (fun cdv A outer s H vs Q E hr h => ?_)
  · obtain ⟨s, rfl, _⟩ := h
    rfl
  · obtain ⟨n, rfl, hn, q⟩ := h
    refine ⟨_, pss_cons (ps_set (i := 1) scAllR.nd rfl (Or.inl rfl) (pe_lst (pa_cons (pe_lst pa_nil) pa_nil)))
      (pss_cons (ps_for PassesOwn.never rfl (pi_range1 rfl hrange (pa_cons (pv 0) pa_nil)) (pg_name (i := 2) scAllR.nd rfl (Or.inl rfl))
        (pss_cons (ps_set (i := 3) scAllR.nd rfl (Or.inl rfl) (pe_lst pa_nil))
        (pss_cons (ps_for PassesOwn.never rfl (pi_list (pv 1)) (pg_name (i := 4) scAllR.nd rfl (Or.inr rfl))
          (pss_one (ps_set (i := 3) scAllR.nd rfl (Or.inl rfl) (pe_op op_cat (pv 3)
            (pe_lc (own := [("thing", 5)]) (g := gName 5) rfl scAllR.nd (pi_range1 rfl hrange (pa_cons (pv 0) pa_nil)) (blkOk_by (N := ["many", "found", "word", "more", "reading", "thing"]) (sc := defScope sAllR) (by decide +kernel))
              (fun _ _ _ _ _ => pg_name (i := 5) scAllR.nd rfl (Or.inl rfl)) (fun _ _ _ _ _ => pts_one (pt_cmpR (r := rIn K true) op_notIn_seq (pv 5) (pv 4) rfl)) (fun _ _ _ _ _ => pe_op op_cat (pv 4) (pe_lst (pa_cons (pv 5) pa_nil))))))))
        (pss_one (ps_set (i := 1) scAllR.nd rfl (Or.inl rfl) (pv 3))))))
      (pss_one (ps_ret (pv 1)))), ?_⟩
    have hb : (2 : Int) ^ 62 = 4611686018427387904 := by decide
    -- the start
    refine ⟨Nat.zero_le _, fun e he => ⟨(by show 1 ≤ sizeLine; decide), fun fp hfp => ?_⟩⟩
    have nfe : e ≠ fp := ne_of_none upd_same hfp
    have hfp0 : H fp = none := by
      rw [upd_ne (Ne.symm nfe)] at hfp
      exact hfp
    refine ⟨_, rfl, _, rfl, by rw [hb]; omega, by rw [hb]; omega, ?_⟩
    rw [Int.toNat_natCast]
    refine for_range (lo := 0) (n := n) (fun k σ H' => ∃ (fp : Addr) (ps : List Rd1) (v2 v3 v4 : Option V), σ = [some (vn n), some (.ref fp), v2, v3, v4, none] ∧ Same H H' ∧ H fp = none ∧ H' fp = some (.lst (refs ps)) ∧ NewRds H H' ps ∧ ps.map (·.2) = grown n k)
      ⟨fp, [(e, [])], none, none, none, rfl, Same.new (Same.new (Same.refl H) he) hfp0, hfp0, upd_same, ?_, rfl⟩ ?_ ?_
    · intro q hq
      have eq : q = (e, []) := by simpa using hq
      subst eq
      exact ⟨he, by rw [upd_ne nfe, upd_same]; rfl⟩
    · -- a turn of the outer loop
      rintro k σ H' hk ⟨fp, ps, v2, v3, v4, rfl, s1, hf0, hf, hps, eps⟩
      refine ⟨Nat.zero_le _, fun m0 hm0 => ?_⟩
      have len7 : ps.length ≤ 7776 := by
        have z := six5 hn hk
        rw [← eps, List.length_map] at z
        exact z
      have s2 : Same H' (upd H' m0 (.lst [])) := Same.new (Same.refl _) hm0
      -- the inner loop
      refine ⟨_, rfl, fp, rfl, ⟨_, SqL.of (s2 _ _ hf)⟩, ?_⟩
      refine for_list (K := K) (a := fp) (xs := refs ps) (fun j σ H2 => ∃ (m : Addr) (pm : List Rd1) (v4 : Option V), σ = [some (vn n), some (.ref fp), some (.int (0 + (k : Nat))), some (.ref m), v4, none] ∧ Same H' H2 ∧ H' m = none ∧ H2 m = some (.lst (refs pm)) ∧ NewRds H' H2 pm ∧ pm.map (·.2) = ((ps.take j).map (·.2)).flatMap (moreOf n))
        ⟨m0, [], v4, rfl, s2, hm0, upd_same, NewRds.nil, rfl⟩ (fun j σ H2 _ ⟨_, _, _, _, s3, _⟩ => SqL.of (s3 _ _ hf)) ?_ ?_
      · rintro j y σ H2 hj ⟨m, pm, v4, rfl, s3, hm0, hm, hpm, epm⟩
        obtain ⟨q1, hq1, rfl⟩ : ∃ q1, ps[j]? = some q1 ∧ y = V.ref q1.1 := by
          unfold refs at hj
          rw [List.getElem?_map] at hj
          cases e : ps[j]? with
          | none =>
            rw [e] at hj
            cases hj
          | some q1 =>
            rw [e] at hj
            exact ⟨q1, rfl, (Option.some.inj hj).symm⟩
        have hjl : j < ps.length := (List.getElem?_eq_some_iff.mp hq1).1
        have hmem : q1 ∈ ps := List.mem_of_getElem? hq1
        have hr1 : H2 q1.1 = some (.lst (vi q1.2)) := s3 _ _ (hps q1 hmem).2
        have lr : q1.2.length ≤ 6 := by
          have z : q1.2 ∈ grown n k := by
            rw [← eps]
            exact List.mem_map_of_mem hmem
          have := (grown_len n k _ z).1
          omega
        have lpm : pm.length ≤ 6 * 7776 := by
          have z := congrArg List.length epm
          rw [List.length_map] at z
          rw [z]
          refine Nat.le_trans (flat_len hn _) ?_
          rw [List.length_map, List.length_take]
          omega
        refine ⟨_, rfl, _, rfl, _, rfl, by rw [hb]; omega, by rw [hb]; omega, fun D hD => ?_⟩
        rw [Int.toNat_natCast]
        refine lc_range (lo := 0) (n := n) (fun i H3 => Same H2 H3 ∧ ∃ pd : List Rd1, H3 D = some (.lst (refs pd)) ∧ NewRds H2 H3 pd ∧ (∀ q ∈ pd, q.1 ≠ D) ∧ pd.map (·.2) = ((List.range i).filter fun t => !(q1.2.contains t)).map fun t => q1.2 ++ [t])
          ⟨Same.new (Same.refl _) hD, [], upd_same, NewRds.nil, (fun q hq => by cases hq), rfl⟩ ?_ ?_
        · rintro i H3 hi ⟨s4, pd, hDl, hpd, hne, epd⟩
          have hr3 : H3 q1.1 = some (.lst (vi q1.2)) := s4 _ _ hr1
          have lpd : pd.length ≤ n := by
            have z := congrArg List.length epd
            rw [List.length_map, List.length_map] at z
            rw [z]
            refine Nat.le_trans (List.length_filter_le ..) ?_
            rw [List.length_range]
            omega
          rw [Int.zero_add]
          refine ⟨rfl, _, rfl, _, rfl, q1.1, _, rfl, .inl (SqL.of hr3), rfl, vi_flat _, _, rfl, ?_⟩
          show if (!inV (vn i) (vi q1.2)) = true then _ else _
          have more := moreOf_take n q1.2 i
          rw [notin_vi]
          cases c : q1.2.contains i with
          | true =>
            refine iteF ⟨s4, pd, hDl, hpd, hne, ?_⟩
            rw [c, if_pos rfl] at more
            rw [more]
            exact epd
          | false =>
            refine iteT ⟨_, rfl, _, rfl, (by show 1 ≤ sizeLine; decide), fun t ht => ?_⟩
            have ntr : q1.1 ≠ t := ne_of_none hr3 ht
            refine ⟨q1.1, t, _, _, rfl, rfl, Eq.trans (upd_ne ntr) hr3, upd_same, ?_, fun p hp => ?_⟩
            · rw [vi_len]
              show q1.2.length + 1 ≤ sizeLine
              exact Nat.le_trans (show q1.2.length + 1 ≤ 1000 by omega) (by decide)
            have ntp : t ≠ p := ne_of_none upd_same hp
            have hp3 : H3 p = none := by
              rw [upd_ne (Ne.symm ntp)] at hp
              exact hp
            have nDt : D ≠ t := ne_of_none hDl ht
            have nDp : D ≠ p := ne_of_none hDl hp3
            refine ⟨refs pd, ?_, ?_, ?_, pd ++ [(p, q1.2 ++ [i])], ?_, ?_, ?_, ?_⟩
            · rw [upd_ne nDp, upd_ne nDt]
              exact hDl
            · rw [refs_len]
              exact Nat.lt_of_le_of_lt lpd (Nat.lt_of_le_of_lt hn (by decide))
            · exact Same.new (Same.new (Same.new s4 (s4.free ht)) (s4.free hp3)) hD
            · rw [upd_same, refs_append]
              rfl
            · intro z hz
              rcases List.mem_append.mp hz with hz | hz
              · have := hpd z hz
                refine ⟨this.1, ?_⟩
                rw [upd_ne (hne z hz), upd_ne (ne_of_none this.2 hp3), upd_ne (ne_of_none this.2 ht)]
                exact this.2
              · have ez : z = (p, q1.2 ++ [i]) := by simpa using hz
                subst ez
                refine ⟨s4.free hp3, ?_⟩
                show upd (upd (upd H3 t _) p _) D _ p = _
                rw [upd_ne (Ne.symm nDp), upd_same]
                congr 2
                unfold vi
                rw [List.map_append]
                rfl
            · intro z hz
              rcases List.mem_append.mp hz with hz | hz
              · exact hne z hz
              · have ez : z = (p, q1.2 ++ [i]) := by simpa using hz
                subst ez
                exact Ne.symm nDp
            · rw [c, if_neg Bool.false_ne_true] at more
              rw [more, List.map_append, epd]
              rfl
        · rintro H3 ⟨s4, pd, hDl, hpd, hne, epd⟩
          have lpd : pd.length ≤ 6 := by
            have z := congrArg List.length epd
            rw [List.length_map] at z
            rw [z]
            exact Nat.le_trans (moreOf_len n q1.2) hn
          refine ⟨m, D, refs pm, refs pd, rfl, rfl, s4 _ _ hm, hDl, ?_, fun p hp => ?_⟩
          · rw [refs_len, refs_len]
            exact Nat.le_trans (show pm.length + pd.length ≤ 46662 by omega) (by decide)
          have hp2 : H2 p = none := s4.free hp
          have s5 : Same H2 (upd H3 p (.lst (refs pm ++ refs pd))) := Same.new s4 hp2
          refine ⟨p, pm ++ pd, _, rfl, s3.trans s5, s3.free hp2, ?_, ?_, ?_⟩
          · rw [upd_same, refs_append]
          · exact NewRds.append (hpm.mono s5) ((hpd.mono (Same.new (Same.refl _) hp)).from s3)
          · rw [List.map_append, epm, epd, take_more hq1, List.map_append, List.flatMap_append]
            congr 1
            show _ = ([q1.2] : List (List Nat)).flatMap (moreOf n)
            rw [List.flatMap_singleton]
            rfl
      · rintro σ H2 ⟨m, pm, v4, rfl, s3, hm0, hm, hpm, epm⟩
        rw [refs_len, List.take_length, eps] at epm
        exact ⟨_, rfl, m, pm, _, _, _, rfl, s1.trans s3, s1.free hm0, hm, hpm.from s1, epm⟩
    · rintro σ H' ⟨fp, ps, v2, v3, v4, rfl, s1, hf0, hf, hps, eps⟩
      exact ⟨_, rfl, q H' fp ps s1 hf0 hf hps eps⟩
end
end Wd

namespace Wd
open PySem PySem.Spec PyProof.Rows L2
open Km362 (Talk Book Reading wrongs at_)
/-! ### what words mean by a reading -/
def ROk (n : Nat) (r : List Nat) : Prop := r.length = n ∧ r.Nodup ∧ ∀ x ∈ r, x < n
def spMeant : Sp := fun vs H Q _ => ∃ (a : Addr) (n : Nat) (r : List Nat) (x : Nat), vs = [.ref a, vn x] ∧ n ≤ 6 ∧ H a = some (.lst (vi r)) ∧ ROk n r ∧ x < 2 ^ n ∧ ∀ H' : Hp, Same H H' → Q (vn (Km362.means r x)) H'
def tkV (t : Talk) : List V := [vn t.words, vn t.things]
def spMis : Sp := fun vs H Q _ => ∃ (a b : Addr) (n : Nat) (r : List Nat) (t : Talk), vs = [.ref a, .ref b] ∧ n ≤ 6 ∧ H a = some (.lst (vi r)) ∧ H b = some (.tup (tkV t)) ∧ ROk n r ∧ t.words < 2 ^ n ∧ ∀ H' : Hp, Same H H' → Q (.bl (!(t.right r))) H'
theorem sum_cast (g : Nat → Nat) : ∀ l : List Nat, (l.map fun k => ((g k : Nat) : Int)).sum = ((l.map g).sum : Nat)
  | [] => rfl
  | k :: l => by
    rw [List.map_cons, List.map_cons, List.sum_cons, List.sum_cons, sum_cast g l, Int.natCast_add]
theorem at_get {r : List Nat} {k : Nat} (h : k < r.length) : r[k]? = some (at_ r k) := by
  unfold at_
  rw [List.getD_eq_getElem?_getD, List.getElem?_eq_getElem h]
  rfl
section
variable {P : Program} {w : World} {K : PySem.W.Frag} {mg : Str → Option Value} {base : Heap}
theorem scMeant : FnScope ["reading", "words", "word"] ["reading", "words"] (defScope sMeant) := ⟨rfl, rfl, rfl, by decide +kernel, rfl, by decide +kernel, by decide +kernel⟩
theorem ok_meant {f : Addr} {fd : FuncData} (F : Fun K "meant" "meant" sMeant f fd) (hsum : mg "sum" = none) (DM : DefOk P w K mg base 2 "members_of" ["some"] spMem) : FnOk P w K mg base CX0 3 f fd ["reading", "words"] spMeant := by
  obtain ⟨fM, fdM, GM, kM, bM, mM⟩ := DM
  refine F.ok scMeant (fun vs H Q E h => ?_) (fun cdv A outer s H vs Q E hr h => ?_)
  · obtain ⟨a, n, r, x, rfl, _⟩ := h
    rfl
  · obtain ⟨a, n, r, x, rfl, hn, ha, hr0, hx, q⟩ := h
    refine ⟨_, pss_one (ps_ret (pe_callB (cr_sum rfl) (by rfl) hsum (by decide +kernel) (pa_cons
      (pe_lc (own := [("word", 2)]) (g := gName 2) rfl scMeant.nd (pi_list (pe_call GM hr rfl mM kM bM .nil pass0 (pa_cons (pv 1) pa_nil))) (blkOk_by (N := ["reading", "words", "word"]) (sc := defScope sMeant) (by decide +kernel))
        (fun _ _ _ _ _ => pg_name (i := 2) scMeant.nd rfl (Or.inl rfl)) (fun _ _ _ _ _ => pts_nil) (fun _ _ _ _ _ => pe_op op_shl pe_int (pe_ix (r := rIxL K) ix_list (pv 0) (pv 2) (fun _ _ => rfl)))) pa_nil))), ?_⟩
    have hbl : blen x ≤ n := blen_le hx
    have hxl : x < 2 ^ r.length := by rw [hr0.1]; exact hx
    have hml : (members x).length ≤ 6 := by
      rw [members_eq hx]
      refine Nat.le_trans (List.length_filter_le ..) ?_
      rw [List.length_range]
      exact hn
    refine ⟨_, rfl, x, rfl, by omega, fun H1 p s1 np hp => ⟨p, rfl, ⟨_, SqL.of hp⟩, fun D hD => ?_⟩⟩
    refine lc_filt (members x) vn (fun _ => true) (fun k => vn (2 ^ at_ r k)) (SqL.of hp) hD (Nat.le_trans hml (by decide)) ?_ ?_
    · intro i k H2 N hi s2 k1 _
      have hk : k < n := by
        have := List.mem_of_getElem? hi
        rw [members_eq hx, List.mem_filter, List.mem_range] at this
        exact this.1
      have hkr : k < r.length := by rw [hr0.1]; exact hk
      have hlt := at_lt hr0.2.2 hkr
      refine ⟨rfl, iteT (B := N H2) ?_⟩
      refine ⟨_, rfl, _, rfl, a, _, _, _, rfl, rfl, SqL.of (s2 _ _ (s1 _ _ ha)), atI_nat (vi_get (at_get hkr)), _, _, rfl, rfl, ⟨Int.natCast_nonneg _, by omega, by decide⟩, ?_⟩
      dsimp only
      rw [shl_nat]
      exact k1 rfl _ (Same.refl _)
    · intro H2 s2 hH2
      refine ⟨D, (members x).map fun k => ((2 ^ at_ r k : Nat) : Int), rfl, SqL.of ?_, ?_⟩
      · rw [hH2, List.filter_eq_self.mpr (fun _ _ => rfl), List.map_map]
        rfl
      · rw [sum_cast (fun k => 2 ^ at_ r k), meant_means hr0.2.1 hxl]
        exact q H2 (s1.trans s2)
theorem scMis : FnScope ["reading", "talk"] ["reading", "talk"] (defScope sMis) := ⟨rfl, rfl, rfl, by decide +kernel, rfl, by decide +kernel, by decide +kernel⟩
theorem ok_mis {f : Addr} {fd : FuncData} (F : Fun K "is_mistaken" "is_mistaken" sMis f fd) (DM : DefOk P w K mg base 3 "meant" ["reading", "words"] spMeant) : FnOk P w K mg base CX0 4 f fd ["reading", "talk"] spMis := by
  obtain ⟨fM, fdM, GM, kM, bM, mM⟩ := DM
  refine F.ok scMis (fun vs H Q E h => ?_) (fun cdv A outer s H vs Q E hr h => ?_)
  · obtain ⟨a, b, n, r, t, rfl, _⟩ := h
    rfl
  · obtain ⟨a, b, n, r, t, rfl, hn, ha, hb, hr0, hx, q⟩ := h
    refine ⟨_, pss_one (ps_ret (pe_cmpR op_ne (pe_call GM hr rfl mM kM bM .nil pass0 (pa_cons (pv 0) (pa_cons (pe_ix ix_tup (pv 1) pe_int (fun _ _ => rfl)) pa_nil))) (pe_ix ix_tup (pv 1) pe_int (fun _ _ => rfl)) (nomark _))), ?_⟩
    refine ⟨_, rfl, _, rfl, b, _, _, _, rfl, rfl, SqT.of hb, atI_nat (j := 0) rfl, a, n, r, t.words, rfl, hn, ha, hr0, hx, fun H1 s1 => ?_⟩
    refine ⟨_, rfl, b, _, _, _, rfl, rfl, SqT.of (s1 _ _ hb), atI_nat (j := 1) rfl, rfl, ?_⟩
    have e : (!decide (vn (Km362.means r t.words) = vn t.things)) = !(t.right r) := by
      congr 1
      show decide (V.int _ = V.int _) = (Km362.means r t.words == t.things)
      rw [dec_int]
      by_cases h : Km362.means r t.words = t.things
      · rw [h]
        simp
      · rw [beq_eq_false_iff_ne.mpr h, beq_eq_false_iff_ne.mpr (by omega)]
    rw [e]
    exact q H1 s1
end
end Wd

namespace Wd
open PySem PySem.Spec PyProof.Rows L2
open Km362 (Talk Book Reading wrongs at_)
/-! ### the strangers as they lie in the heap -/
def sF (n f : Nat) (l rp : Addr) : List (Str × V) := [("many", vn n), ("faults", vn f), ("talks", .ref l), ("readings", .ref rp)]
theorem sF_many (n f : Nat) (l rp : Addr) : (sF n f l rp).lookup ("many" : Str) = some (vn n) := lk_here
theorem sF_faults (n f : Nat) (l rp : Addr) : (sF n f l rp).lookup ("faults" : Str) = some (vn f) := (lk_past (by decide +kernel)).trans lk_here
theorem sF_talks (n f : Nat) (l rp : Addr) : (sF n f l rp).lookup ("talks" : Str) = some (.ref l) := (lk_past (by decide +kernel)).trans ((lk_past (by decide +kernel)).trans lk_here)
theorem sF_rds (n f : Nat) (l rp : Addr) : (sF n f l rp).lookup ("readings" : Str) = some (.ref rp) := (lk_past (by decide +kernel)).trans ((lk_past (by decide +kernel)).trans ((lk_past (by decide +kernel)).trans lk_here))
theorem sF_no (n f : Nat) (l rp : Addr) {m : Str} (h1 : (m == ("many" : Str)) = false) (h2 : (m == ("faults" : Str)) = false) (h3 : (m == ("talks" : Str)) = false) (h4 : (m == ("readings" : Str)) = false) : (sF n f l rp).lookup m = none :=
  (lk_past h1).trans ((lk_past h2).trans ((lk_past h3).trans ((lk_past h4).trans rfl)))
theorem sF_put (n f : Nat) (l rp r2 : Addr) : putF "readings" (.ref r2) (sF n f l rp) = sF n f l r2 :=
  (put_past (by decide +kernel)).trans (congrArg _ ((put_past (by decide +kernel)).trans (congrArg _ ((put_past (by decide +kernel)).trans (congrArg _ put_here)))))
theorem sF_new (n f : Nat) (l rp : Addr) : putF "readings" (.ref rp) (putF "talks" (.ref l) (putF "faults" (vn f) (putF "many" (vn n) []))) = sF n f l rp := by
  have e1 : putF ("faults" : Str) (vn f) [(("many" : Str), vn n)] = [(("many" : Str), vn n), (("faults" : Str), vn f)] := (put_past (by decide +kernel)).trans rfl
  have e2 : putF ("talks" : Str) (.ref l) [(("many" : Str), vn n), (("faults" : Str), vn f)] = [(("many" : Str), vn n), (("faults" : Str), vn f), (("talks" : Str), .ref l)] := (put_past (by decide +kernel)).trans (congrArg _ ((put_past (by decide +kernel)).trans rfl))
  have e3 : putF ("readings" : Str) (.ref rp) [(("many" : Str), vn n), (("faults" : Str), vn f), (("talks" : Str), V.ref l)] = sF n f l rp := (put_past (by decide +kernel)).trans (congrArg _ ((put_past (by decide +kernel)).trans (congrArg _ ((put_past (by decide +kernel)).trans rfl))))
  show putF "readings" (.ref rp) (putF "talks" (.ref l) (putF "faults" (vn f) [(("many" : Str), vn n)])) = _
  rw [e1, e2, e3]
abbrev Tk1 := Addr × Talk
def trefs (ts : List Tk1) : List V := ts.map fun q => V.ref q.1
def TksAt (H : Hp) (l : Addr) (ts : List Tk1) : Prop := H l = some (.lst (trefs ts)) ∧ ∀ q ∈ ts, H q.1 = some (.tup (tkV q.2))
def RdsAt (H : Hp) (rp : Addr) (ps : List Rd1) : Prop := H rp = some (.lst (refs ps)) ∧ ∀ q ∈ ps, H q.1 = some (.lst (vi q.2))
structure Good (b : Book) : Prop where
  n2 : 2 ≤ b.n
  n6 : b.n ≤ 6
  f3 : b.f ≤ 3
  t24 : b.talks.length ≤ 24
  tk : ∀ t ∈ b.talks, t.words < 2 ^ b.n
structure StrAt (C : Addr) (H : Hp) (a l : Addr) (b : Book) (dx rp : Addr) (ts : List Tk1) (ps : List Rd1) : Prop where
  good : Good b
  ins : H a = some (.ins C dx (sF b.n b.f l rp))
  tks : TksAt H l ts
  ets : ts.map (·.2) = b.talks
  rdsAt : RdsAt H rp ps
  eps : ps.map (·.2) = rds b
  rl : rp ≠ l
  pl : ∀ q ∈ ps, q.1 ≠ l
def Strg (C : Addr) (H : Hp) (a l : Addr) (b : Book) : Prop := ∃ dx rp ts ps, StrAt C H a l b dx rp ts ps
section
variable {C : Addr} {H H' : Hp} {a l dx rp : Addr} {b : Book} {ts : List Tk1} {ps : List Rd1}
theorem TksAt.mono (h : TksAt H l ts) (s : Same H H') : TksAt H' l ts := ⟨s _ _ h.1, fun q hq => s _ _ (h.2 q hq)⟩
theorem RdsAt.mono (h : RdsAt H rp ps) (s : Same H H') : RdsAt H' rp ps := ⟨s _ _ h.1, fun q hq => s _ _ (h.2 q hq)⟩
theorem StrAt.mono (h : StrAt C H a l b dx rp ts ps) (s : Same H H') : StrAt C H' a l b dx rp ts ps := ⟨h.good, s _ _ h.ins, h.tks.mono s, h.ets, h.rdsAt.mono s, h.eps, h.rl, h.pl⟩
theorem Strg.mono (h : Strg C H a l b) (s : Same H H') : Strg C H' a l b := by
  obtain ⟨dx, rp, ts, ps, h⟩ := h
  exact ⟨dx, rp, ts, ps, h.mono s⟩
theorem StrAt.ok (h : StrAt C H a l b dx rp ts ps) {q : Rd1} (hq : q ∈ ps) : ROk b.n q.2 := by
  have z : q.2 ∈ rds b := by
    rw [← h.eps]
    exact List.mem_map_of_mem hq
  exact rds_mem z
theorem StrAt.len (h : StrAt C H a l b dx rp ts ps) : ps.length = b.readings.length := by
  rw [← rds_length h.good.n6, ← h.eps, List.length_map]
theorem all_length {n : Nat} (h : n ≤ 6) : (allReadings n).length ≤ 46656 :=
  Nat.le_trans (grown_length h n) (Nat.le_trans (Nat.pow_le_pow_right (by omega) h) (by decide))
theorem StrAt.small (h : StrAt C H a l b dx rp ts ps) : ps.length ≤ 46656 := by
  have e := congrArg List.length h.eps
  rw [List.length_map] at e
  rw [e]
  exact Nat.le_trans (List.length_filter_le ..) (all_length h.good.n6)
theorem StrAt.t24 (h : StrAt C H a l b dx rp ts ps) : ts.length ≤ 24 := by
  have e := congrArg List.length h.ets
  rw [List.length_map] at e
  rw [e]
  exact h.good.t24
theorem StrAt.words (h : StrAt C H a l b dx rp ts ps) {q : Tk1} (hq : q ∈ ts) : q.2.words < 2 ^ b.n := by
  refine h.good.tk q.2 ?_
  rw [← h.ets]
  exact List.mem_map_of_mem hq
end
theorem trefs_append (a b : List Tk1) : trefs (a ++ b) = trefs a ++ trefs b := List.map_append
theorem trefs_len (a : List Tk1) : (trefs a).length = a.length := List.length_map ..
/-- what the class of the strangers has no attribute of -/
structure TxS (K : PySem.W.Frag) (C : Addr) : Prop where
  cl : Cls K C
  nM : NoAttr K C "many"
  nF : NoAttr K C "faults"
  nT : NoAttr K C "talks"
  nR : NoAttr K C "readings"
/-! ### promises -/
def spSI (C : Addr) : Sp := fun vs H Q _ => ∃ (p dx : Addr) (n f : Nat), vs = [.ref p, vn n, vn f] ∧ H p = some (.ins C dx []) ∧ 2 ≤ n ∧ n ≤ 6 ∧ f ≤ 3 ∧
  ∀ (H' : Hp) (l : Addr), Strg C H' p l ⟨n, f, []⟩ → H l = none → Keep [p] H H' → Q .non H'
def spSMis (C : Addr) : Sp := fun vs H Q _ => ∃ (a dx l ra : Addr) (fs : List (Str × V)) (ts : List Tk1) (n : Nat) (r : List Nat), vs = [.ref a, .ref ra] ∧ H a = some (.ins C dx fs) ∧ fs.lookup ("talks" : Str) = some (.ref l) ∧ TksAt H l ts ∧ H ra = some (.lst (vi r)) ∧ ROk n r ∧ n ≤ 6 ∧
  (∀ q ∈ ts, q.2.words < 2 ^ n) ∧ ts.length ≤ 25 ∧ ∀ H' : Hp, Same H H' → Q (vn (wrongs (ts.map (·.2)) r)) H'
def spSAdd (C : Addr) : Sp := fun vs H Q _ => ∃ (a l : Addr) (b : Book) (x y : Nat), vs = [.ref a, vn x, vn y] ∧ Strg C H a l b ∧ b.talks.length < 24 ∧ x < 2 ^ b.n ∧
  ∀ H' : Hp, Strg C H' a l ⟨b.n, b.f, b.talks ++ [⟨x, y⟩]⟩ → Keep [a, l] H H' → Q .non H'
def spSMea (C : Addr) : Sp := fun vs H Q _ => ∃ (a l : Addr) (b : Book) (k : Nat), vs = [.ref a, vn k] ∧ Strg C H a l b ∧ k < b.n ∧ Q (vn (Km362.bits b.n (b.may k))) H
def spSSaid (C : Addr) : Sp := fun vs H Q _ => ∃ (a l : Addr) (b : Book) (x : Nat), vs = [.ref a, vn x] ∧ Strg C H a l b ∧ x < 2 ^ b.n ∧
  ∀ (H' : Hp) (p : Addr), Same H H' → H p = none → H' p = some (.lst [vn (b.surely x), vn (b.perhaps x)]) → Q (.ref p) H'
def spSSure (C : Addr) : Sp := fun vs H Q _ => ∃ (a l : Addr) (b : Book) (k : Nat) (t : Talk), vs = [.ref a, vn k] ∧ Strg C H a l b ∧ b.talks[k]? = some t ∧ ∀ H' : Hp, Same H H' → Q (.int (sure b t)) H'
def spSApart (C : Addr) : Sp := fun vs H Q _ => ∃ (a l : Addr) (b : Book) (u v : Nat), vs = [.ref a, vn u, vn v] ∧ Strg C H a l b ∧ ∀ H' : Hp, Same H H' → Q (vn (Km362.apart b.talks u v)) H'
def openV (b : Book) : Int := match b.unsure with
  | none => -1
  | some k => (k : Int)
def spSOpen (C : Addr) : Sp := fun vs H Q _ => ∃ (a l : Addr) (b : Book), vs = [.ref a] ∧ Strg C H a l b ∧ ∀ H' : Hp, Same H H' → Q (.int (openV b)) H'
/-! ### the fields within a block -/
theorem pe_fldK {X : Cx} {K : PySem.W.Frag} {e : Expr} {f : Str} {pos : Pos} {ta : TE} (hK : X.K = K) (he : PE X e ta) (hb : attributeBase e f X.env (eval e X.env) = eval e X.env) : PE X (.Attribute e f pos) (tFld K ta f) := by
  subst hK
  exact pe_fld he hb
section
variable {P : Program} {w : World} {K : PySem.W.Frag} {mg : Str → Option Value} {base : Heap} {C : Addr}
theorem scSI : FnScope ["self", "many", "faults"] ["self", "many", "faults"] (defScope sSI) := ⟨rfl, rfl, rfl, by decide +kernel, rfl, by decide +kernel, by decide +kernel⟩
theorem ok_si {f : Addr} {fd : FuncData} (F : Fun K "__init__" "Strangers.__init__" sSI f fd) (T : TxS K C) (DA : DefOk P w K mg base 1 "all_readings" ["many"] spAllR) : FnOk P w K mg base CX0 2 f fd ["self", "many", "faults"] (spSI C) := by
  obtain ⟨fA, fdA, GA, kA, bA, mA⟩ := DA
  refine F.ok scSI (fun vs H Q E h => ?_) (fun cdv A outer s H vs Q E hr h => ?_)
  · obtain ⟨p, dx, n, f, rfl, _⟩ := h
    rfl
  · obtain ⟨p, dx, n, f, rfl, hp, hn2, hn6, hf3, q⟩ := h
    refine ⟨_, pss_cons (ps_fld (pv 0) (pv 1) rfl) (pss_cons (ps_fld (pv 0) (pv 2) rfl) (pss_cons (ps_fld (pv 0) (pe_lst pa_nil) rfl)
      (pss_one (ps_fld (pv 0) (pe_call GA hr rfl mA kA bA .nil pass0 (pa_cons (pv 1) pa_nil)) rfl)))), ?_⟩
    refine ⟨_, rfl, _, rfl, p, C, dx, [], rfl, hp, T.cl, T.nM, (by show 0 < 1000; decide), ?_⟩
    refine ⟨_, rfl, _, rfl, p, C, dx, _, rfl, upd_same, T.cl, T.nF, (by show 1 < 1000; decide), ?_⟩
    refine ⟨Nat.zero_le _, fun l hl => ?_⟩
    have npl : p ≠ l := ne_of_none upd_same hl
    have hl0 : H l = none := by
      rw [upd_ne (Ne.symm npl), upd_ne (Ne.symm npl)] at hl
      exact hl
    refine ⟨_, rfl, p, C, dx, _, rfl, Eq.trans (upd_ne npl) upd_same, T.cl, T.nT, Nat.lt_of_le_of_lt (length_putF ..) (by show 2 < 1000; decide), ?_⟩
    refine ⟨_, rfl, n, rfl, hn6, fun H' rp ps s1 hrp hrl hps eps => ?_⟩
    have hpa := s1 _ _ upd_same
    have hll : H' l = some (.lst []) := s1 _ _ (by rw [upd_ne (Ne.symm npl), upd_same])
    refine ⟨_, rfl, p, C, dx, _, rfl, hpa, T.cl, T.nR, ?_, ?_⟩
    · exact Nat.lt_of_le_of_lt (length_putF ..) (Nat.lt_of_le_of_lt (Nat.succ_le_succ (length_putF ..)) (by show 3 < 1000; decide))
    have npr : p ≠ rp := ne_of_none upd_same hrp
    have nlr : l ≠ rp := ne_of_none (by rw [upd_ne (Ne.symm npl)]; exact upd_same) hrp
    refine q _ l ⟨dx, rp, [], ps, ⟨⟨hn2, hn6, hf3, Nat.zero_le _, fun t ht => by cases ht⟩, ?_, ⟨?_, fun q hq => by cases hq⟩, rfl, ⟨?_, fun z hz => ?_⟩, ?_, Ne.symm nlr, fun z hz => ?_⟩⟩ hl0 ?_
    · rw [upd_same]
      exact congrArg (fun z => some (HO.ins C dx z)) (sF_new n f l rp)
    · rw [upd_ne (Ne.symm npl)]
      exact hll
    · rw [upd_ne (Ne.symm npr)]
      exact hrl
    · have := hps z hz
      rw [upd_ne (Ne.symm (ne_of_none upd_same this.1))]
      exact this.2
    · rw [rds_start]
      exact eps
    · exact Ne.symm (ne_of_none (by rw [upd_ne (Ne.symm npl)]; exact upd_same) (hps z hz).1)
    · intro c o e nc
      have ncp : c ≠ p := fun z => nc (by rw [z]; exact List.mem_cons_self ..)
      rw [upd_ne ncp]
      refine s1 _ _ ?_
      rw [upd_ne ncp, upd_ne (ne_of_none e hl0), upd_ne ncp, upd_ne ncp]
      exact e
theorem scSMis : FnScope ["self", "reading", "talk"] ["self", "reading"] (defScope sSMis) := ⟨rfl, rfl, rfl, by decide +kernel, rfl, by decide +kernel, by decide +kernel⟩
theorem ok_smis {f : Addr} {fd : FuncData} (F : Fun K "mistakes" "Strangers.mistakes" sSMis f fd) (T : TxS K C) (hlen : mg "len" = none) (DM : DefOk P w K mg base 4 "is_mistaken" ["reading", "talk"] spMis) : FnOk P w K mg base CX0 5 f fd ["self", "reading"] (spSMis C) := by
  obtain ⟨fM, fdM, GM, kM, bM, mM⟩ := DM
  refine F.ok scSMis (fun vs H Q E h => ?_) (fun cdv A outer s H vs Q E hr h => ?_)
  · obtain ⟨a, dx, l, ra, fs, ts, n, r, rfl, _⟩ := h
    rfl
  · obtain ⟨a, dx, l, ra, fs, ts, n, r, rfl, ha, hfs, ht, hra, hr0, hn, htw, htl, q⟩ := h
    refine ⟨_, pss_one (ps_ret (pe_callB call_len_seq (by rfl) hlen PySem.boot_len (pa_cons
      (pe_lc (own := [("talk", 2)]) (g := gName 2) rfl scSMis.nd (pi_list (pe_fld (pv 0) rfl)) (blkOk_by (N := ["self", "reading", "talk"]) (sc := defScope sSMis) (by decide +kernel))
        (fun _ _ _ _ _ => pg_name (i := 2) scSMis.nd rfl (Or.inl rfl)) (fun _ _ _ _ _ => pts_one (pt_val (pe_call GM hr rfl mM kM bM .nil pass0 (pa_cons (pv 1) (pa_cons (pv 2) pa_nil))))) (fun _ _ _ _ _ => pv 2)) pa_nil))), ?_⟩
    refine ⟨_, rfl, a, C, dx, _, _, rfl, ha, T.cl, T.nT, hfs, l, rfl, ⟨_, SqL.of ht.1⟩, fun D hD => ?_⟩
    refine lc_filt ts (fun q => V.ref q.1) (fun q => !(q.2.right r)) (fun q => V.ref q.1) (SqL.of ht.1) hD (Nat.le_trans htl (by decide)) ?_ ?_
    · intro i t H2 N hi s1 k1 k2
      have hm := List.mem_of_getElem? hi
      refine ⟨rfl, _, rfl, _, rfl, ra, t.1, n, r, t.2, rfl, hn, s1 _ _ hra, s1 _ _ (ht.2 t hm), hr0, htw t hm, fun H3 s2 => ⟨_, rfl, ?_⟩⟩
      cases c : t.2.right r with
      | true => exact iteF (k2 (by rw [c]; rfl) _ s2)
      | false => exact iteT ⟨_, rfl, k1 (by rw [c]; rfl) _ s2⟩
    · intro H2 s1 h2
      refine ⟨D, _, rfl, .inl (SqL.of h2), ?_⟩
      have e : ((ts.filter fun q => !(q.2.right r)).map fun q => V.ref q.1).length = wrongs (ts.map (·.2)) r := by
        unfold wrongs
        rw [List.length_map, List.filter_map, List.length_map]
        rfl
      rw [e]
      exact q H2 s1
end
end Wd

namespace Wd
open PySem PySem.Spec PyProof.Rows L2
open Km362 (Talk Book Reading wrongs at_)
section
variable {P : Program} {w : World} {K : PySem.W.Frag} {mg : Str → Option Value} {base : Heap} {C : Addr}
theorem le_cast (x y : Nat) : decide ((x : Int) ≤ (y : Int)) = decide (x ≤ y) := by
  by_cases h : x ≤ y
  · rw [decide_eq_true h, decide_eq_true (by omega)]
  · rw [decide_eq_false h, decide_eq_false (by omega)]
theorem scSAdd : FnScope ["self", "words", "things", "reading"] ["self", "words", "things"] (defScope sSAdd) := ⟨rfl, rfl, rfl, by decide +kernel, rfl, by decide +kernel, by decide +kernel⟩
theorem ok_sadd {f : Addr} {fd : FuncData} (F : Fun K "add" "Strangers.add" sSAdd f fd) (T : TxS K C) (DM : MethOk P w K mg base 5 C "mistakes" ["self", "reading"] (spSMis C)) : FnOk P w K mg base CX0 6 f fd ["self", "words", "things"] (spSAdd C) := by
  obtain ⟨fM, fdM, GM, bM, mM⟩ := DM
  refine F.ok scSAdd (fun vs H Q E h => ?_) (fun cdv A outer s H vs Q E hr h => ?_)
  · obtain ⟨a, l, b, x, y, rfl, _⟩ := h
    rfl
  · obtain ⟨a, l, b, x, y, rfl, ⟨dx, rp, ts, ps, S⟩, h24, hx, q⟩ := h
    refine ⟨_, pss_cons (ps_expr (pe_bm PySem.F.plainAttrs_list PySem.F.slot_list_append PySem.F.type_list_append mt_append (pe_fld (pv 0) rfl) (pa_cons (pe_tup (pa_cons (pv 1) (pa_cons (pv 2) pa_nil))) pa_nil)))
      (pss_one (ps_fld (pv 0) (pe_lc (own := [("reading", 3)]) (g := gName 3) rfl scSAdd.nd (pi_list (pe_fld (pv 0) rfl)) (blkOk_by (N := ["self", "words", "things", "reading"]) (sc := defScope sSAdd) (by decide +kernel))
        (fun _ _ _ _ _ => pg_name (i := 3) scSAdd.nd rfl (Or.inl rfl)) (fun _ _ _ _ _ => pts_one (pt_cmpR op_le (pe_meth (pv 0) T.cl mM GM hr bM .nil pass0 (pa_cons (pv 3) pa_nil)) (pe_fldK (K := K) rfl (pv 0) rfl) (nomark _))) (fun _ _ _ _ _ => pv 3)) rfl)), ?_⟩
    have hl := S.tks.1
    have nla : l ≠ a := ne_of hl S.ins (by intro z; cases z)
    have e24 : ts.length < 24 := by
      have e := congrArg List.length S.ets
      rw [List.length_map] at e
      omega
    refine ⟨_, rfl, a, C, dx, _, _, rfl, S.ins, T.cl, T.nT, sF_talks _ _ _ _, .inl ⟨rfl, _, SqL.of hl⟩, _, rfl, _, rfl, (by show 2 ≤ sizeLine; decide), fun t ht => ?_⟩
    have nlt : l ≠ t := ne_of_none hl ht
    have nat_ : a ≠ t := ne_of_none S.ins ht
    refine ⟨l, _, _, rfl, rfl, Eq.trans (upd_ne nlt) hl, (by rw [trefs_len]; exact Nat.lt_trans e24 (by decide)), ?_⟩
    -- the heap behind the append
    generalize hH1 : upd (upd H t (.tup [vn x, vn y])) l (.lst (trefs ts ++ [.ref t])) = H1
    have k1 : ∀ c o, H c = some o → c ≠ l → H1 c = some o := fun c o e n => by
      rw [← hH1, upd_ne n, upd_ne (ne_of_none e ht)]
      exact e
    have ht1 : H1 t = some (.tup [vn x, vn y]) := by
      rw [← hH1, upd_ne (Ne.symm nlt), upd_same]
    have hl1 : H1 l = some (.lst (trefs (ts ++ [(t, ⟨x, y⟩)]))) := by
      rw [← hH1, upd_same, trefs_append]
      rfl
    have ha1 := k1 _ _ S.ins (Ne.symm nla)
    have tk1 : TksAt H1 l (ts ++ [(t, ⟨x, y⟩)]) := ⟨hl1, fun z hz => by
      rcases List.mem_append.mp hz with hz | hz
      · exact k1 _ _ (S.tks.2 z hz) (ne_of (S.tks.2 z hz) hl (by intro z; cases z))
      · have ez : z = (t, ⟨x, y⟩) := by simpa using hz
        subst ez
        exact ht1⟩
    have ets1 : (ts ++ [(t, (⟨x, y⟩ : Talk))]).map (·.2) = b.talks ++ [⟨x, y⟩] := by
      rw [List.map_append, S.ets]
      rfl
    have rd1 : RdsAt H1 rp ps := ⟨k1 _ _ S.rdsAt.1 S.rl, fun z hz => k1 _ _ (S.rdsAt.2 z hz) (S.pl z hz)⟩
    refine ⟨_, rfl, a, C, dx, _, _, rfl, ha1, T.cl, T.nR, sF_rds _ _ _ _, rp, rfl, ⟨_, SqL.of rd1.1⟩, fun D hD => ?_⟩
    refine lc_filt ps (fun q => V.ref q.1) (fun q => decide (wrongs (b.talks ++ [⟨x, y⟩]) q.2 ≤ b.f)) (fun q => V.ref q.1) (SqL.of rd1.1) hD (Nat.le_trans S.small (by decide)) ?_ ?_
    · intro i z H2 N hi s1 c1 c2
      have hm := List.mem_of_getElem? hi
      refine ⟨rfl, _, rfl, a, dx, _, rfl, s1 _ _ ha1, sF_no _ _ _ _ (by decide +kernel) (by decide +kernel) (by decide +kernel) (by decide +kernel), _, rfl, ?_⟩
      refine ⟨a, dx, l, z.1, _, ts ++ [(t, ⟨x, y⟩)], b.n, z.2, rfl, s1 _ _ ha1, sF_talks _ _ _ _, tk1.mono s1, s1 _ _ (rd1.2 z hm), S.ok hm, S.good.n6, ?_, ?_, fun H3 s2 => ?_⟩
      · intro u hu
        rcases List.mem_append.mp hu with hu | hu
        · exact S.words hu
        · have ez : u = (t, ⟨x, y⟩) := by simpa using hu
          subst ez
          exact hx
      · rw [List.length_append]
        show ts.length + 1 ≤ 25
        omega
      · refine ⟨_, rfl, a, C, dx, _, _, rfl, s2 _ _ (s1 _ _ ha1), T.cl, T.nF, sF_faults _ _ _ _, _, _, rfl, rfl, _, rfl, ?_⟩
        rw [ets1, le_cast]
        cases c : decide (wrongs (b.talks ++ [⟨x, y⟩]) z.2 ≤ b.f) with
        | true => exact iteT ⟨_, rfl, c1 c _ s2⟩
        | false => exact iteF (c2 c _ s2)
    · intro H2 s1 h2
      refine ⟨_, rfl, a, C, dx, _, rfl, s1 _ _ ha1, T.cl, T.nR, (by show 4 < 1000; decide), ?_⟩
      have nDa : D ≠ a := Ne.symm (ne_of_none ha1 hD)
      have nDl : D ≠ l := Ne.symm (ne_of_none hl1 hD)
      refine q _ ?_ ?_
      refine ⟨dx, D, ts ++ [(t, (⟨x, y⟩ : Talk))], ps.filter (fun (z : Rd1) => decide (wrongs (b.talks ++ [(⟨x, y⟩ : Talk)]) z.2 ≤ b.f)), ⟨⟨S.good.n2, S.good.n6, S.good.f3, ?_, ?_⟩, ?_, ⟨?_, fun z hz => ?_⟩, ets1, ⟨?_, fun z hz => ?_⟩, ?_, nDl, fun z hz => ?_⟩⟩
      · show (b.talks ++ [(⟨x, y⟩ : Talk)]).length ≤ 24
        rw [List.length_append]
        show b.talks.length + 1 ≤ 24
        omega
      · intro u hu
        rcases List.mem_append.mp hu with hu | hu
        · exact S.good.tk u hu
        · have ez : u = ⟨x, y⟩ := by simpa using hu
          subst ez
          exact hx
      · rw [upd_same]
        exact congrArg (fun z => some (HO.ins C dx z)) (sF_put ..)
      · rw [upd_ne nla]
        exact s1 _ _ hl1
      · have hz1 := tk1.2 z hz
        rw [upd_ne (ne_of hz1 ha1 (by intro z; cases z))]
        exact s1 _ _ hz1
      · rw [upd_ne nDa]
        exact h2
      · have hm := (List.mem_filter.mp hz).1
        have hz1 := rd1.2 z hm
        rw [upd_ne (ne_of hz1 ha1 (by intro z; cases z))]
        exact s1 _ _ hz1
      · have e := rds_add b ⟨x, y⟩
        rw [← e, ← S.eps, List.filter_map]
        rfl
      · exact S.pl z (List.mem_filter.mp hz).1
      · intro c o e nc
        have nca : c ≠ a := fun z => nc (by rw [z]; exact List.mem_cons_self ..)
        have ncl : c ≠ l := fun z => nc (by rw [z]; exact List.mem_cons_of_mem _ (List.mem_cons_self ..))
        rw [upd_ne nca]
        exact s1 _ _ (k1 _ _ e ncl)
theorem at_ref {ps : List Rd1} {i : Nat} {y : V} (h : (refs ps)[i]? = some y) : ∃ z, ps[i]? = some z ∧ y = V.ref z.1 := by
  unfold refs at h
  rw [List.getElem?_map] at h
  cases e : ps[i]? with
  | none =>
    rw [e] at h
    cases h
  | some z =>
    rw [e] at h
    exact ⟨z, rfl, (Option.some.inj h).symm⟩
theorem scSMea : FnScope ["self", "word", "found", "reading"] ["self", "word"] (defScope sSMea) := ⟨rfl, rfl, rfl, by decide +kernel, rfl, by decide +kernel, by decide +kernel⟩
theorem fold_take {β : Type} {f : β → Reading → β} {s0 : β} {ps : List Rd1} {i : Nat} {z : Rd1} (h : ps[i]? = some z) : ((ps.take (i + 1)).map (·.2)).foldl f s0 = f (((ps.take i).map (·.2)).foldl f s0) z.2 := by
  rw [take_more h, List.map_append, List.foldl_append]
  rfl
theorem ok_smea {f : Addr} {fd : FuncData} (F : Fun K "meanings" "Strangers.meanings" sSMea f fd) (T : TxS K C) : FnOk P w K mg base CX0 1 f fd ["self", "word"] (spSMea C) := by
  refine F.ok scSMea (fun vs H Q E h => ?_) (fun cdv A outer s H vs Q E hr h => ?_)
  · obtain ⟨a, l, b, k, rfl, _⟩ := h
    rfl
  · obtain ⟨a, l, b, k, rfl, ⟨dx, rp, ts, ps, S⟩, hk, q⟩ := h
    refine ⟨_, pss_cons (ps_set (i := 2) scSMea.nd rfl (Or.inl rfl) pe_int) (pss_cons (ps_for PassesOwn.never rfl (pi_list (pe_fld (pv 0) rfl)) (pg_name (i := 3) scSMea.nd rfl (Or.inl rfl))
      (pss_one (ps_set (i := 2) scSMea.nd rfl (Or.inl rfl) (pe_op op_or (pv 2) (pe_op op_shl pe_int (pe_ix ix_list (pv 3) (pv 1) (fun _ _ => rfl))))))) (pss_one (ps_ret (pv 2)))), ?_⟩
    refine ⟨_, rfl, a, C, dx, _, _, rfl, S.ins, T.cl, T.nR, sF_rds _ _ _ _, rp, rfl, ⟨_, SqL.of S.rdsAt.1⟩, ?_⟩
    refine for_list (K := K) (a := rp) (xs := refs ps) (fun i σ H' => ∃ v : Option V, σ = [some (.ref a), some (vn k), some (vn (((ps.take i).map (·.2)).foldl (fun s r => s ||| 2 ^ at_ r k) 0)), v] ∧ H' = H)
      ⟨none, rfl, rfl⟩ (fun i σ H' _ ⟨_, _, e⟩ => by rw [e]; exact SqL.of S.rdsAt.1) ?_ ?_
    · rintro i y σ H' hi ⟨v, rfl, rfl⟩
      obtain ⟨z, hz, rfl⟩ := at_ref hi
      have hm := List.mem_of_getElem? hz
      have ok := S.ok hm
      have hkr : k < z.2.length := by rw [ok.1]; exact hk
      have hlt := at_lt ok.2.2 hkr
      have := S.good.n6
      refine ⟨_, rfl, _, rfl, _, rfl, z.1, _, _, _, rfl, rfl, SqL.of (S.rdsAt.2 z hm), atI_nat (vi_get (at_get hkr)), _, _, rfl, rfl, ⟨Int.natCast_nonneg _, by omega, by decide⟩, _, _, rfl, rfl, ?_⟩
      dsimp only
      rw [shl_nat, bitOr_nat]
      refine ⟨some (.ref z.1), ?_, rfl⟩
      rw [fold_take hz]
      rfl
    · rintro σ H' ⟨v, rfl, rfl⟩
      refine ⟨_, rfl, ?_⟩
      rw [refs_len, List.take_length, S.eps, meanings_eq S.good.n6 hk]
      exact q
theorem scSSaid : FnScope ["self", "words", "sure", "some", "reading"] ["self", "words"] (defScope sSSaid) := ⟨rfl, rfl, rfl, by decide +kernel, rfl, by decide +kernel, by decide +kernel⟩
theorem pow_sub (n : Nat) : ((2 ^ n : Nat) : Int) - 1 = ((2 ^ n - 1 : Nat) : Int) := by
  have := Nat.two_pow_pos n
  omega
theorem ok_ssaid {f : Addr} {fd : FuncData} (F : Fun K "said" "Strangers.said" sSSaid f fd) (T : TxS K C) (DM : DefOk P w K mg base 3 "meant" ["reading", "words"] spMeant) : FnOk P w K mg base CX0 4 f fd ["self", "words"] (spSSaid C) := by
  obtain ⟨fM, fdM, GM, kM, bM, mM⟩ := DM
  refine F.ok scSSaid (fun vs H Q E h => ?_) (fun cdv A outer s H vs Q E hr h => ?_)
  · obtain ⟨a, l, b, k, rfl, _⟩ := h
    rfl
  · obtain ⟨a, l, b, x, rfl, ⟨dx, rp, ts, ps, S⟩, hx, q⟩ := h
    refine ⟨_, pss_cons (ps_set (i := 2) scSSaid.nd rfl (Or.inl rfl) (pe_op op_sub (pe_op op_shl pe_int (pe_fld (pv 0) rfl)) pe_int)) (pss_cons (ps_set (i := 3) scSSaid.nd rfl (Or.inl rfl) pe_int)
      (pss_cons (ps_for PassesOwn.never rfl (pi_list (pe_fld (pv 0) rfl)) (pg_name (i := 4) scSSaid.nd rfl (Or.inl rfl))
        (pss_cons (ps_set (i := 2) scSSaid.nd rfl (Or.inl rfl) (pe_op op_and (pv 2) (pe_call GM hr rfl mM kM bM .nil pass0 (pa_cons (pv 4) (pa_cons (pv 1) pa_nil)))))
        (pss_one (ps_set (i := 3) scSSaid.nd rfl (Or.inl rfl) (pe_op op_or (pv 3) (pe_call GM hr rfl mM kM bM .nil pass0 (pa_cons (pv 4) (pa_cons (pv 1) pa_nil))))))))
      (pss_one (ps_ret (pe_lst (pa_cons (pv 2) (pa_cons (pv 3) pa_nil))))))), ?_⟩
    have hn6 := S.good.n6
    refine ⟨_, rfl, a, C, dx, _, _, rfl, S.ins, T.cl, T.nM, sF_many _ _ _ _, _, _, rfl, rfl, ⟨Int.natCast_nonneg _, by omega, by decide⟩, _, _, rfl, rfl, ?_⟩
    refine ⟨_, rfl, a, C, dx, _, _, rfl, S.ins, T.cl, T.nR, sF_rds _ _ _ _, rp, rfl, ⟨_, SqL.of S.rdsAt.1⟩, ?_⟩
    refine for_list (K := K) (a := rp) (xs := refs ps) (fun i σ H' => ∃ v : Option V, σ = [some (.ref a), some (vn x), some (vn (((ps.take i).map (·.2)).foldl (fun s r => s &&& Km362.means r x) (2 ^ b.n - 1))), some (vn (((ps.take i).map (·.2)).foldl (fun s r => s ||| Km362.means r x) 0)), v] ∧ Same H H')
      ⟨none, ?_, Same.refl H⟩ (fun i σ H' _ ⟨_, _, s1⟩ => SqL.of (s1 _ _ S.rdsAt.1)) ?_ ?_
    · dsimp only
      rw [shl_nat, pow_sub]
      rfl
    · rintro i y σ H' hi ⟨v, rfl, s1⟩
      obtain ⟨z, hz, rfl⟩ := at_ref hi
      have hm := List.mem_of_getElem? hz
      have ok := S.ok hm
      refine ⟨_, rfl, _, rfl, _, rfl, z.1, b.n, z.2, x, rfl, hn6, s1 _ _ (S.rdsAt.2 z hm), ok, hx, fun H2 s2 => ⟨_, _, rfl, rfl, ?_⟩⟩
      refine ⟨_, rfl, _, rfl, _, rfl, z.1, b.n, z.2, x, rfl, hn6, s2 _ _ (s1 _ _ (S.rdsAt.2 z hm)), ok, hx, fun H3 s3 => ⟨_, _, rfl, rfl, ?_⟩⟩
      dsimp only
      rw [bitAnd_nat, bitOr_nat]
      refine ⟨some (.ref z.1), ?_, (s1.trans s2).trans s3⟩
      rw [fold_take hz, fold_take hz]
      rfl
    · rintro σ H' ⟨v, rfl, s1⟩
      refine ⟨_, rfl, _, rfl, (by show 2 ≤ sizeLine; decide), fun p hp => ?_⟩
      refine q _ p (Same.new s1 (s1.free hp)) (s1.free hp) ?_
      rw [upd_same, refs_len, List.take_length, S.eps, surely_eq hn6, perhaps_eq hn6 hx]
end
end Wd

namespace Wd
open PySem PySem.Spec PyProof.Rows L2
open Km362 (Talk Book Reading wrongs at_)
section
variable {P : Program} {w : World} {K : PySem.W.Frag} {mg : Str → Option Value} {base : Heap} {C : Addr}
theorem gTup_K {X : Cx} {K : PySem.W.Frag} {tg : Expr} {n : Nat} {t : TGs} (hK : X.K = K) (h : PG X tg (gTup X.K n t)) : PG X tg (gTup K n t) := by
  subst hK
  exact h
theorem nat_eq (x y : Nat) : decide (V.int (x : Int) = V.int (y : Int)) = decide (x = y) := by
  rw [dec_int]
  by_cases h : x = y
  · rw [h, decide_eq_true rfl]
    exact beq_self_eq_true _
  · rw [decide_eq_false h]
    exact beq_eq_false_iff_ne.mpr (by omega)
theorem lt_cast (x y : Nat) : decide ((x : Int) < (y : Int)) = decide (x < y) := by
  by_cases h : x < y
  · rw [decide_eq_true h, decide_eq_true (by omega)]
  · rw [decide_eq_false h, decide_eq_false (by omega)]
theorem scSSure : FnScope ["self", "number", "mistaken", "reading"] ["self", "number"] (defScope sSSure) := ⟨rfl, rfl, rfl, by decide +kernel, rfl, by decide +kernel, by decide +kernel⟩
theorem ok_ssure {f : Addr} {fd : FuncData} (F : Fun K "sureness" "Strangers.sureness" sSSure f fd) (T : TxS K C) (hlen : mg "len" = none) (hint : mg "int" = none) (DM : DefOk P w K mg base 4 "is_mistaken" ["reading", "talk"] spMis) : FnOk P w K mg base CX0 5 f fd ["self", "number"] (spSSure C) := by
  obtain ⟨fM, fdM, GM, kM, bM, mM⟩ := DM
  refine F.ok scSSure (fun vs H Q E h => ?_) (fun cdv A outer s H vs Q E hr h => ?_)
  · obtain ⟨a, l, b, k, t, rfl, _⟩ := h
    rfl
  · obtain ⟨a, l, b, k, t, rfl, ⟨dx, rp, ts, ps, S⟩, hk, q⟩ := h
    refine ⟨_, pss_cons (ps_set (i := 2) scSSure.nd rfl (Or.inl rfl) (pe_callB call_len_seq (by rfl) hlen PySem.boot_len (pa_cons
        (pe_lc (own := [("reading", 3)]) (g := gName 3) rfl scSSure.nd (pi_list (pe_fld (pv 0) rfl)) (blkOk_by (N := ["self", "number", "mistaken", "reading"]) (sc := defScope sSSure) (by decide +kernel))
          (fun _ _ _ _ _ => pg_name (i := 3) scSSure.nd rfl (Or.inl rfl)) (fun _ _ _ _ _ => pts_one (pt_val (pe_call GM hr rfl mM kM bM .nil pass0 (pa_cons (pv 3) (pa_cons (pe_ix (r := rIxL K) ix_list (pe_fldK (K := K) rfl (pv 0) rfl) (pv 1) (fun _ _ => rfl)) pa_nil))))) (fun _ _ _ _ _ => pv 3)) pa_nil)))
      (pss_cons (ps_if (pt_cmpR op_eq (pv 2) (pe_callB call_len_seq (by rfl) hlen PySem.boot_len (pa_cons (pe_fld (pv 0) rfl) pa_nil)) (nomark _)) (pss_one (ps_ret pe_int)) pss_nil)
      (pss_one (ps_ret (pe_callTy call_int1 (by rfl) hint (by decide +kernel) (pa_cons (pe_cmpR op_gt (pv 2) pe_int (nomark _)) pa_nil))))), ?_⟩
    have hn6 := S.good.n6
    obtain ⟨z, hz, ez⟩ : ∃ z, ts[k]? = some z ∧ z.2 = t := by
      rw [← S.ets, List.getElem?_map] at hk
      cases e : ts[k]? with
      | none =>
        rw [e] at hk
        cases hk
      | some z =>
        rw [e] at hk
        exact ⟨z, rfl, Option.some.inj hk⟩
    subst ez
    have hzm := List.mem_of_getElem? hz
    have hzr : (trefs ts)[k]? = some (.ref z.1) := by
      unfold trefs
      rw [List.getElem?_map, hz]
      rfl
    refine ⟨_, rfl, a, C, dx, _, _, rfl, S.ins, T.cl, T.nR, sF_rds _ _ _ _, rp, rfl, ⟨_, SqL.of S.rdsAt.1⟩, fun D hD => ?_⟩
    refine lc_filt ps (fun q => V.ref q.1) (fun q => !(z.2.right q.2)) (fun q => V.ref q.1) (SqL.of S.rdsAt.1) hD (Nat.le_trans S.small (by decide)) ?_ ?_
    · intro i y H2 N hi s1 k1 k2
      have hm := List.mem_of_getElem? hi
      refine ⟨rfl, _, rfl, _, rfl, a, C, dx, _, _, rfl, s1 _ _ S.ins, T.cl, T.nT, sF_talks _ _ _ _, _, rfl, l, _, _, _, rfl, rfl, SqL.of (s1 _ _ S.tks.1), atI_nat hzr, y.1, z.1, b.n, y.2, z.2, rfl, hn6, s1 _ _ (S.rdsAt.2 y hm), s1 _ _ (S.tks.2 z hzm), S.ok hm, S.words hzm, fun H3 s2 => ⟨_, rfl, ?_⟩⟩
      cases c : z.2.right y.2 with
      | true => exact iteF (k2 (by rw [c]; rfl) _ s2)
      | false => exact iteT ⟨_, rfl, k1 (by rw [c]; rfl) _ s2⟩
    · intro H2 s1 h2
      refine ⟨D, _, rfl, .inl (SqL.of h2), ?_⟩
      have e : ((ps.filter fun q => !(z.2.right q.2)).map fun q => V.ref q.1).length = ((rds b).filter fun r => !(z.2.right r)).length := by
        rw [List.length_map, ← S.eps, List.filter_map, List.length_map]
        rfl
      have e2 : (refs ps).length = (rds b).length := by rw [refs_len, ← S.eps, List.length_map]
      rw [e]
      have fin := q H2 s1
      unfold sure at fin
      generalize ((rds b).filter fun r => !(z.2.right r)).length = m at fin
      refine ⟨_, rfl, _, rfl, a, C, dx, _, _, rfl, s1 _ _ S.ins, T.cl, T.nR, sF_rds _ _ _ _, rp, _, rfl, .inl (SqL.of (s1 _ _ S.rdsAt.1)), rfl, _, rfl, ?_⟩
      rw [e2, nat_eq]
      by_cases c : m = (rds b).length
      · rw [if_pos c] at fin
        rw [decide_eq_true c]
        exact iteT fin
      · rw [if_neg c] at fin
        rw [decide_eq_false c]
        refine iteF ?_
        refine ⟨_, rfl, _, _, rfl, rfl, .inr ⟨_, rfl, ?_⟩⟩
        rw [show (0 : Int) = ((0 : Nat) : Int) from rfl, lt_cast]
        by_cases d : 0 < m
        · rw [if_pos d] at fin
          rw [decide_eq_true d]
          exact fin
        · rw [if_neg d] at fin
          rw [decide_eq_false d]
          exact fin
theorem scSApart : FnScope ["self", "one", "other", "words", "things"] ["self", "one", "other"] (defScope sSApart) := ⟨rfl, rfl, rfl, by decide +kernel, rfl, by decide +kernel, by decide +kernel⟩
theorem ok_sapart {f : Addr} {fd : FuncData} (F : Fun K "apart" "Strangers.apart" sSApart f fd) (T : TxS K C) (hlen : mg "len" = none) (DH : DefOk P w K mg base 1 "has" ["some", "number"] spHas) : FnOk P w K mg base CX0 2 f fd ["self", "one", "other"] (spSApart C) := by
  obtain ⟨fH, fdH, GH, kH, bH, mH⟩ := DH
  refine F.ok scSApart (fun vs H Q E h => ?_) (fun cdv A outer s H vs Q E hr h => ?_)
  · obtain ⟨a, l, b, u, v, rfl, _⟩ := h
    rfl
  · obtain ⟨a, l, b, u, v, rfl, ⟨dx, rp, ts, ps, S⟩, q⟩ := h
    refine ⟨_, pss_one (ps_ret (pe_callB call_len_seq (by rfl) hlen PySem.boot_len (pa_cons
        (pe_lc (own := [("words", 3), ("things", 4)]) (g := gTup K 2 (gCons (gName 3) (gCons (gName 4) gNil))) rfl scSApart.nd (pi_list (pe_fld (pv 0) rfl)) (blkOk_by (N := ["self", "one", "other", "words", "things"]) (sc := defScope sSApart) (by decide +kernel))
          (fun _ _ _ _ _ => gTup_K rfl (pg_tup rfl (pgs_cons (pg_name (i := 3) scSApart.nd rfl (Or.inl rfl)) (pgs_cons (pg_name (i := 4) scSApart.nd rfl (Or.inl rfl)) pgs_nil))))
          (fun _ _ _ _ _ => pts_one (pt_cmpR op_ne (pe_call GH hr rfl mH kH bH .nil pass0 (pa_cons (pv 3) (pa_cons (pv 1) pa_nil))) (pe_call GH hr rfl mH kH bH .nil pass0 (pa_cons (pv 3) (pa_cons (pv 2) pa_nil))) (nomark _))) (fun _ _ _ _ _ => pv 3)) pa_nil))), ?_⟩
    refine ⟨_, rfl, a, C, dx, _, _, rfl, S.ins, T.cl, T.nT, sF_talks _ _ _ _, l, rfl, ⟨_, SqL.of S.tks.1⟩, fun D hD => ?_⟩
    refine lc_filt ts (fun q => V.ref q.1) (fun q => q.2.words.testBit u != q.2.words.testBit v) (fun q => vn q.2.words) (SqL.of S.tks.1) hD (Nat.le_trans S.t24 (by decide)) ?_ ?_
    · intro i y H2 N hi s1 k1 k2
      have hm := List.mem_of_getElem? hi
      refine ⟨y.1, _, rfl, SqT.of (s1 _ _ (S.tks.2 y hm)), rfl, vn y.2.words, [vn y.2.things], rfl, vn y.2.things, [], rfl, rfl, rfl, ?_⟩
      refine ⟨_, rfl, _, rfl, y.2.words, u, rfl, _, rfl, _, rfl, y.2.words, v, rfl, rfl, _, rfl, ?_⟩
      have e : (!decide (V.bl (y.2.words.testBit u) = V.bl (y.2.words.testBit v))) = (y.2.words.testBit u != y.2.words.testBit v) := by
        rw [dec_bl]
        rfl
      rw [e]
      cases c : (y.2.words.testBit u != y.2.words.testBit v) with
      | true => exact iteT ⟨_, rfl, k1 c _ (Same.refl _)⟩
      | false => exact iteF (k2 c _ (Same.refl _))
    · intro H2 s1 h2
      refine ⟨D, _, rfl, .inl (SqL.of h2), ?_⟩
      have e : ((ts.filter fun q => q.2.words.testBit u != q.2.words.testBit v).map fun q => vn q.2.words).length = Km362.apart b.talks u v := by
        unfold Km362.apart
        rw [List.length_map, ← S.ets, List.filter_map, List.length_map]
        rfl
      rw [e]
      exact q H2 s1
theorem blen_bits6 {n : Nat} (h : n ≤ 6) (p : Nat → Bool) : blen (Km362.bits n p) ≤ 1000 := Nat.le_trans (blen_le (bits_lt n p)) (by omega)
theorem scSOpen : FnScope ["self", "word"] ["self"] (defScope sSOpen) := ⟨rfl, rfl, rfl, by decide +kernel, rfl, by decide +kernel, by decide +kernel⟩
theorem find_at {n i : Nat} {p : Nat → Bool} (hi : i < n) (hp : p i = true) (hb : ∀ j, j < i → p j = false) : (List.range n).find? p = some i := by
  rw [List.find?_range_eq_some]
  refine ⟨hp, List.mem_range.mpr hi, fun j hj => ?_⟩
  rw [hb j hj]
  rfl
theorem find_none {n : Nat} {p : Nat → Bool} (hb : ∀ j, j < n → p j = false) : (List.range n).find? p = none := by
  rw [List.find?_eq_none]
  intro x hx
  rw [hb x (List.mem_range.mp hx)]
  exact Bool.false_ne_true
theorem ok_sopen {f : Addr} {fd : FuncData} (F : Fun K "open_word" "Strangers.open_word" sSOpen f fd) (T : TxS K C) (hrange : mg "range" = none) (DH : DefOk P w K mg base 3 "how_many" ["some"] spHow) (DM : MethOk P w K mg base 1 C "meanings" ["self", "word"] (spSMea C)) : FnOk P w K mg base CX0 4 f fd ["self"] (spSOpen C) := by
  obtain ⟨fH, fdH, GH, kH, bH, mH⟩ := DH
  obtain ⟨fM, fdM, GM, bM, mM⟩ := DM
  refine F.ok scSOpen (fun vs H Q E h => ?_) (fun cdv A outer s H vs Q E hr h => ?_)
  · obtain ⟨a, l, b, rfl, _⟩ := h
    rfl
  · obtain ⟨a, l, b, rfl, ⟨dx, rp, ts, ps, S⟩, q⟩ := h
    have hr1 : Room 1 _ := hr.mono (by decide)
    refine ⟨_, pss_cons (ps_for PassesOwn.never rfl (pi_range1 rfl hrange (pa_cons (pe_fld (pv 0) rfl) pa_nil)) (pg_name (i := 1) scSOpen.nd rfl (Or.inl rfl))
        (pss_one (ps_if (pt_cmpR op_gt (pe_call GH hr rfl mH kH bH .nil pass0 (pa_cons (pe_meth (pv 0) T.cl mM GM hr1 bM .nil pass0 (pa_cons (pv 1) pa_nil)) pa_nil)) pe_int (nomark _)) (pss_one (ps_ret (pv 1))) pss_nil)))
      (pss_one (ps_ret (pe_un un_neg pe_int))), ?_⟩
    have hn6 := S.good.n6
    have hb : (2 : Int) ^ 62 = 4611686018427387904 := by decide
    refine ⟨_, rfl, a, C, dx, _, _, rfl, S.ins, T.cl, T.nM, sF_many _ _ _ _, _, rfl, by rw [hb]; omega, by rw [hb]; omega, ?_⟩
    rw [Int.toNat_natCast]
    refine for_range (lo := 0) (n := b.n) (fun i σ H' => ∃ v : Option V, σ = [some (.ref a), v] ∧ Same H H' ∧ ∀ j, j < i → decide (1 < Km362.count b.n (b.may j)) = false) ⟨none, rfl, Same.refl H, fun j hj => absurd hj (Nat.not_lt_zero _)⟩ ?_ ?_
    · rintro i σ H' hi ⟨v, rfl, s1, hb⟩
      rw [Int.zero_add]
      refine ⟨_, rfl, a, dx, _, rfl, s1 _ _ S.ins, sF_no _ _ _ _ (by decide +kernel) (by decide +kernel) (by decide +kernel) (by decide +kernel), _, rfl, a, l, b, i, rfl, ⟨dx, rp, ts, ps, S.mono s1⟩, hi, ?_⟩
      refine ⟨Km362.bits b.n (b.may i), rfl, blen_bits6 hn6 _, fun H2 s2 => ?_⟩
      refine ⟨_, _, rfl, rfl, _, rfl, ?_⟩
      rw [members_bits, show (1 : Int) = ((1 : Nat) : Int) from rfl, lt_cast]
      cases c : decide (1 < Km362.count b.n (b.may i)) with
      | true =>
        refine iteT ⟨_, rfl, ?_⟩
        have fin := q H2 (s1.trans s2)
        have e : b.unsure = some i := find_at hi c hb
        unfold openV at fin
        rw [e] at fin
        exact fin
      | false =>
        refine iteF ⟨some (vn i), rfl, s1.trans s2, fun j hj => ?_⟩
        by_cases e : j = i
        · rw [e]
          exact c
        · exact hb j (by omega)
    · rintro σ H' ⟨v, rfl, s1, hb⟩
      have fin := q H' s1
      have e : b.unsure = none := find_none hb
      unfold openV at fin
      rw [e] at fin
      exact ⟨_, rfl, fin⟩
end
end Wd

namespace Wd
open PySem PySem.Spec PyProof.Rows L2
open Km362 (Talk Book Reading wrongs at_)
/-! ### readings == [] -/
def rdD (q : Rd1) : PyData := .list (q.2.map fun (k : Nat) => PyData.int (k : Int))
section
variable {K : PySem.W.Frag} {H : Hp}
theorem dp_ints : ∀ r : List Nat, DpAll K H (vi r) (r.map fun (k : Nat) => PyData.int (k : Int))
  | [] => .nil
  | k :: r => .cons (.int _) (dp_ints r)
theorem dp_rds : ∀ ps : List Rd1, (∀ q ∈ ps, H q.1 = some (.lst (vi q.2))) → DpAll K H (refs ps) (ps.map rdD)
  | [], _ => .nil
  | q :: ps, h => .cons (.lst (SqL.of (h q (List.mem_cons_self ..))) (dp_ints q.2)) (dp_rds ps fun z hz => h z (List.mem_cons_of_mem _ hz))
end
theorem lay_ints : ∀ r : List Nat, PyData.canLayAll0 (r.map fun (k : Nat) => PyData.int (k : Int)) = true
  | [] => by simp [PyData.canLayAll0]
  | k :: r => by simp only [List.map_cons, PyData.canLayAll0, PyData.canLay0, Bool.true_and]; exact lay_ints r
theorem lay_rds : ∀ ps : List Rd1, PyData.canLayAll0 (ps.map rdD) = true
  | [] => by simp [PyData.canLayAll0]
  | q :: ps => by
    rw [List.map_cons, PyData.canLayAll0, lay_rds ps, Bool.and_true]
    unfold rdD
    rw [PyData.canLay0]
    exact lay_ints q.2
theorem dep_ints : ∀ r : List Nat, PyData.depthAll (r.map fun (k : Nat) => PyData.int (k : Int)) = 0
  | [] => by simp [PyData.depthAll]
  | k :: r => by
    rw [List.map_cons, PyData.depthAll, dep_ints r, PyData.depth]
    rfl
theorem dep_rds : ∀ ps : List Rd1, PyData.depthAll (ps.map rdD) ≤ 1
  | [] => by simp [PyData.depthAll]
  | q :: ps => by
    have e : PyData.depth (rdD q) = 1 := by
      unfold rdD
      rw [PyData.depth, dep_ints]
    have := dep_rds ps
    rw [List.map_cons, PyData.depthAll, e]
    omega
theorem shaped_rds (ps : List Rd1) : SeqAt.shaped (.list (ps.map rdD)) = true := by
  unfold SeqAt.shaped
  have h := dep_rds ps
  rw [PyData.canLay0, lay_rds, PyData.depth, decide_eq_true (by omega)]
  rfl
theorem shaped_nil : SeqAt.shaped (.list []) = true := shaped_rds []
theorem eqv_rds (ps : List Rd1) : PyData.eqv (.list (ps.map rdD)) (.list []) = decide (ps.length = 0) := by
  cases ps with
  | nil => simp [PyData.eqv, PyData.eqvAll]
  | cons q ps => simp [PyData.eqv, PyData.eqvAll]
/-! ### the desk as it lies in the heap -/
def dF (v : V) : List (Str × V) := [("strangers", v)]
theorem dF_get (v : V) : (dF v).lookup ("strangers" : Str) = some v := lk_here
theorem dF_no (v : V) {m : Str} (h : (m == ("strangers" : Str)) = false) : (dF v).lookup m = none := (lk_past h).trans rfl
theorem dF_put (v u : V) : putF "strangers" u (dF v) = dF u := put_here
structure TxD (K : PySem.W.Frag) (C : Addr) : Prop where
  cl : Cls K C
  nS : NoAttr K C "strangers"
def toldV (a : Km362.Ans) : List V := V.int a.value :: vi a.out
def spDI (C : Addr) : Sp := fun vs H Q _ => ∃ p dx : Addr, vs = [.ref p] ∧ H p = some (.ins C dx []) ∧ ∀ H' : Hp, H' p = some (.ins C dx (dF .non)) → Keep [p] H H' → Q .non H'
/-- a call that only asks, of the numbers vs0 -/
def Asks (CD CS : Addr) (d : Addr) (H : Hp) (Q : VK) (c : Km362.Call) : Prop := ∃ (dx a l : Addr) (b : Book), H d = some (.ins CD dx (dF (.ref a))) ∧ Strg CS H a l b ∧
  ∀ (H' : Hp) (p : Addr), Same H H' → H p = none → H' p = some (.lst (toldV (Km362.act b c).2)) → Q (.ref p) H'
def spD0 (CD CS : Addr) (c : Km362.Call) : Sp := fun vs H Q _ => ∃ d : Addr, vs = [.ref d] ∧ Asks CD CS d H Q c
def spD1 (CD CS : Addr) (c : Nat → Km362.Call) : Sp := fun vs H Q _ => ∃ (d : Addr) (x : Nat), vs = [.ref d, vn x] ∧ Asks CD CS d H Q (c x)
def spD2 (CD CS : Addr) (c : Nat → Nat → Km362.Call) : Sp := fun vs H Q _ => ∃ (d : Addr) (x y : Nat), vs = [.ref d, vn x, vn y] ∧ Asks CD CS d H Q (c x y)
def spDTalk (CD CS : Addr) : Sp := fun vs H Q _ => ∃ (d dx a l : Addr) (b : Book) (x y : Nat), vs = [.ref d, vn x, vn y] ∧ H d = some (.ins CD dx (dF (.ref a))) ∧ Strg CS H a l b ∧
  ∀ (H' : Hp) (p : Addr), H' d = some (.ins CD dx (dF (.ref a))) → Strg CS H' a l (Km362.act b (.talk x y)).1 → Keep [a, l] H H' → H p = none → H' p = some (.lst (toldV (Km362.act b (.talk x y)).2)) → Q (.ref p) H'
def spDStart (CD CS : Addr) : Sp := fun vs H Q _ => ∃ (d dx : Addr) (v : V) (n f : Nat), vs = [.ref d, vn n, vn f] ∧ H d = some (.ins CD dx (dF v)) ∧
  ((n < 2 ∨ 6 < n ∨ 3 < f) → ∀ (H' : Hp) (p : Addr), Same H H' → H p = none → H' p = some (.lst [.int (-22)]) → Q (.ref p) H') ∧
  (¬ (n < 2 ∨ 6 < n ∨ 3 < f) → ∀ (H' : Hp) (p a l : Addr), H p = none → H a = none → H l = none → p ≠ l → p ≠ a → H' d = some (.ins CD dx (dF (.ref a))) → Strg CS H' a l ⟨n, f, []⟩ → Keep [d] H H' → H' p = some (.lst [.int 0]) → Q (.ref p) H')
section
variable {P : Program} {w : World} {K : PySem.W.Frag} {mg : Str → Option Value} {base : Heap} {CD CS : Addr}
theorem scDI : FnScope ["self"] ["self"] (defScope sDI) := ⟨rfl, rfl, rfl, by decide +kernel, rfl, by decide +kernel, by decide +kernel⟩
theorem ok_di {f : Addr} {fd : FuncData} (F : Fun K "__init__" "Desk.__init__" sDI f fd) (T : TxD K CD) : FnOk P w K mg base CX0 1 f fd ["self"] (spDI CD) := by
  refine F.ok scDI (fun vs H Q E h => ?_) (fun cdv A outer s H vs Q E hr h => ?_)
  · obtain ⟨p, dx, rfl, _⟩ := h
    rfl
  · obtain ⟨p, dx, rfl, hp, q⟩ := h
    refine ⟨_, pss_one (ps_fld (pv 0) pe_non rfl), ?_⟩
    refine ⟨_, rfl, p, CD, dx, [], rfl, hp, T.cl, T.nS, (by show 0 < 1000; decide), ?_⟩
    refine q _ upd_same fun c o e nc => ?_
    rw [upd_ne fun z => nc (by rw [z]; exact List.mem_cons_self ..)]
    exact e
theorem gt_nat (x y : Nat) : decide ((y : Int) < (x : Int)) = decide (y < x) := lt_cast y x
theorem scDStart : FnScope ["self", "many", "faults"] ["self", "many", "faults"] (defScope sDStart) := ⟨rfl, rfl, rfl, by decide +kernel, rfl, by decide +kernel, by decide +kernel⟩
theorem ok_dstart {f : Addr} {fd : FuncData} (F : Fun K "start" "Desk.start" sDStart f fd) (T : TxD K CD) {t1 t2 t3 : Tok} (g1 : mg "LEAST_WORDS" = some (.int 2 t1)) (g2 : mg "MOST_WORDS" = some (.int 6 t2)) (g3 : mg "MOST_FAULTS" = some (.int 3 t3))
    (DI : InitOk P w K mg base 2 CS "Strangers" ["self", "many", "faults"] (spSI CS)) : FnOk P w K mg base CX0 4 f fd ["self", "many", "faults"] (spDStart CD CS) := by
  obtain ⟨fI, fdI, GI, bI, MI, mI⟩ := DI
  refine F.ok scDStart (fun vs H Q E h => ?_) (fun cdv A outer s H vs Q E hr h => ?_)
  · obtain ⟨d, dx, v, n, f, rfl, _⟩ := h
    rfl
  · obtain ⟨d, dx, v, n, f, rfl, hd, qN, qS⟩ := h
    refine ⟨_, pss_cons (ps_if (PW.pt (pw_or (pt_cmpR op_lt (pv 1) (pe_glob (v := .int 2) rfl g1 ⟨_, rfl⟩) (nomark _)) (pw_or (pt_cmpR op_gt (pv 1) (pe_glob (v := .int 6) rfl g2 ⟨_, rfl⟩) (nomark _)) (pw_or1 (pt_cmpR op_gt (pv 2) (pe_glob (v := .int 3) rfl g3 ⟨_, rfl⟩) (nomark _))))))
        (pss_one (ps_ret (pe_lst (pa_cons (pe_un un_neg pe_int) pa_nil)))) pss_nil)
      (pss_cons (ps_fld (pv 0) (pe_make MI GI hr rfl mI bI .nil pass0 (pa_cons (pv 1) (pa_cons (pv 2) pa_nil))) rfl)
      (pss_one (ps_ret (pe_lst (pa_cons pe_int pa_nil))))), ?_⟩
    have no : (n < 2 ∨ 6 < n ∨ 3 < f) → tRet (tLst (tCons (tUn (rU fun i => .int (-i)) (tC (.int 1))) tNil)) { nx := fun _ H' => Q .non H', rt := Q } [some (.ref d), some (vn n), some (vn f)] H → True := fun _ _ => trivial
    have e1 : decide ((n : Int) < 2) = decide (n < 2) := lt_cast n 2
    have e2 : decide ((6 : Int) < (n : Int)) = decide (6 < n) := lt_cast 6 n
    have e3 : decide ((3 : Int) < (f : Int)) = decide (3 < f) := lt_cast 3 f
    have bad : (n < 2 ∨ 6 < n ∨ 3 < f) → ∃ i : Int, V.int 22 = V.int i ∧ ([V.int (-i)] : List V).length ≤ sizeLine ∧ ∀ p, H p = none → Q (.ref p) (upd H p (.lst [V.int (-i)])) := fun c =>
      ⟨22, rfl, (by show 1 ≤ sizeLine; decide), fun p hp => qN c _ p (Same.new (Same.refl H) hp) hp upd_same⟩
    refine ⟨_, rfl, _, _, rfl, rfl, _, rfl, ?_⟩
    rw [e1]
    by_cases c1 : n < 2
    · rw [decide_eq_true c1]
      exact iteT (iteT (bad (.inl c1)))
    rw [decide_eq_false c1]
    refine iteF ?_
    refine ⟨_, rfl, _, _, rfl, rfl, _, rfl, ?_⟩
    rw [e2]
    by_cases c2 : 6 < n
    · rw [decide_eq_true c2]
      exact iteT (iteT (bad (.inr (.inl c2))))
    rw [decide_eq_false c2]
    refine iteF ?_
    refine ⟨_, rfl, _, _, rfl, rfl, _, rfl, ?_⟩
    rw [e3]
    by_cases c3 : 3 < f
    · rw [decide_eq_true c3]
      exact iteT (bad (.inr (.inr c3)))
    rw [decide_eq_false c3]
    refine iteF ?_
    have cN : ¬ (n < 2 ∨ 6 < n ∨ 3 < f) := by omega
    -- the new object
    refine ⟨_, rfl, _, rfl, ?_⟩
    intro a da na nda nad
    refine ⟨a, da, n, f, rfl, upd_same, by omega, by omega, by omega, fun H1 l S1 hl k1 => ⟨rfl, ?_⟩⟩
    have nda_ : d ≠ a := ne_of_none hd na
    have keep0 : ∀ c o, H c = some o → H1 c = some o := fun c o e => k1 c o (by rw [upd_ne (ne_of_none e na), upd_ne (ne_of_none e nda)]; exact e) (by
      intro z
      rcases List.mem_cons.mp z with z | z
      · exact ne_of_none e na z
      · cases z)
    have hl0 : H l = none := by
      cases e : H l with
      | none => rfl
      | some o =>
        rw [upd_ne (ne_of_none e na), upd_ne (ne_of_none e nda), e] at hl
        cases hl
    refine ⟨_, rfl, d, CD, dx, _, rfl, keep0 _ _ hd, T.cl, T.nS, (by show 1 < 1000; decide), ?_⟩
    rw [dF_put]
    obtain ⟨sx, rp, ts, ps, S1⟩ := S1
    have S2 : StrAt CS (upd H1 d (.ins CD dx (dF (.ref a)))) a l ⟨n, f, []⟩ sx rp ts ps := by
      have hdd : H1 d = some (.ins CD dx (dF v)) := keep0 _ _ hd
      refine ⟨S1.good, ?_, ⟨?_, fun z hz => ?_⟩, S1.ets, ⟨?_, fun z hz => ?_⟩, S1.eps, S1.rl, S1.pl⟩
      · rw [upd_ne (Ne.symm nda_)]
        exact S1.ins
      · rw [upd_ne (ne_of S1.tks.1 hdd (by intro z; cases z))]
        exact S1.tks.1
      · rw [upd_ne (ne_of (S1.tks.2 z hz) hdd (by intro z; cases z))]
        exact S1.tks.2 z hz
      · rw [upd_ne (ne_of S1.rdsAt.1 hdd (by intro z; cases z))]
        exact S1.rdsAt.1
      · rw [upd_ne (ne_of (S1.rdsAt.2 z hz) hdd (by intro z; cases z))]
        exact S1.rdsAt.2 z hz
    refine ⟨(by show 1 ≤ sizeLine; decide), fun p hp => ?_⟩
    have npd : p ≠ d := Ne.symm (ne_of_none upd_same hp)
    have hp1 : H1 p = none := by
      rw [upd_ne npd] at hp
      exact hp
    have hp0 : H p = none := by
      cases e : H p with
      | none => rfl
      | some o =>
        rw [keep0 _ _ e] at hp1
        cases hp1
    refine qS cN _ p a l hp0 na hl0 (Ne.symm (ne_of_none S1.tks.1 hp1)) (Ne.symm (ne_of_none S1.ins hp1)) ?_ ⟨sx, rp, ts, ps, S2.mono (Same.new (Same.refl _) hp)⟩ ?_ upd_same
    · rw [upd_ne (Ne.symm npd), upd_same]
    · intro c o e nc
      have ncd : c ≠ d := fun z => nc (by rw [z]; exact List.mem_cons_self ..)
      rw [upd_ne (ne_of_none e hp0), upd_ne ncd]
      exact keep0 c o e
end
end Wd

namespace Wd
open PySem PySem.Spec PyProof.Rows L2
open Km362 (Talk Book Reading wrongs at_ Ans act only)
section
variable {P : Program} {w : World} {K : PySem.W.Frag} {mg : Str → Option Value} {base : Heap} {CD CS : Addr}
theorem empty_ok {H : Hp} {a l sx rp e : Addr} {b : Book} {ts : List Tk1} {ps : List Rd1} (S : StrAt CS H a l b sx rp ts ps) (he : H e = none) {R : V → Hp → Prop} (h : R (.bl (decide (b.readings.length = 0))) (upd H e (.lst []))) : rEqD K (.ref rp) (.ref e) (upd H e (.lst [])) R := by
  have s1 : Same H (upd H e (.lst [])) := Same.new (Same.refl H) he
  refine ⟨.list (ps.map rdD), .list [], .lst (SqL.of (s1 _ _ S.rdsAt.1)) (dp_rds ps fun q hq => s1 _ _ (S.rdsAt.2 q hq)), .lst (SqL.of upd_same) .nil, shaped_rds ps, shaped_nil, ?_⟩
  rw [eqv_rds, S.len]
  exact h
theorem neg_ok {H : Hp} {Q : VK} {i : Int} (h : ∀ p, H p = none → Q (.ref p) (upd H p (.lst [V.int (-i)]))) {D : Ends} {σ : L2.St} (hD : D.rt = Q) : tRet (tLst (tCons (tUn (rU fun i => .int (-i)) (tC (.int i))) tNil)) D σ H := by
  subst hD
  exact ⟨i, rfl, (by show 1 ≤ sizeLine; decide), h⟩
theorem ge_nat (x y : Nat) : decide ((y : Int) ≤ (x : Int)) = decide (y ≤ x) := le_cast y x
theorem scDMeans : FnScope ["self", "word", "found"] ["self", "word"] (defScope sDMeans) := ⟨rfl, rfl, rfl, by decide +kernel, rfl, by decide +kernel, by decide +kernel⟩
theorem ok_dmeans {f : Addr} {fd : FuncData} (F : Fun K "means" "Desk.means" sDMeans f fd) (T : TxD K CD) (TS : TxS K CS) (DM : MethOk P w K mg base 1 CS "meanings" ["self", "word"] (spSMea CS)) (DH : DefOk P w K mg base 3 "how_many" ["some"] spHow) : FnOk P w K mg base CX0 4 f fd ["self", "word"] (spD1 CD CS .means) := by
  obtain ⟨fH, fdH, GH, kH, bH, mH⟩ := DH
  obtain ⟨fM, fdM, GM, bM, mM⟩ := DM
  refine F.ok scDMeans (fun vs H Q E h => ?_) (fun cdv A outer s H vs Q E hr h => ?_)
  · obtain ⟨d, x, rfl, _⟩ := h
    rfl
  · obtain ⟨d, x, rfl, dx, a, l, b, hd, ⟨sx, rp, ts, ps, S⟩, q⟩ := h
    have hr1 : Room 1 _ := hr.mono (by decide)
    refine ⟨_, pss_cons (ps_if (pt_cmpR op_ge (pv 1) (pe_fld (pe_fld (pv 0) rfl) rfl) (nomark _)) (pss_one (ps_ret (pe_lst (pa_cons (pe_un un_neg pe_int) pa_nil)))) pss_nil)
      (pss_cons (ps_if (pt_cmpR (op_eqD hr.units) (pe_fld (pe_fld (pv 0) rfl) rfl) (pe_lst pa_nil) (nomark _)) (pss_one (ps_ret (pe_lst (pa_cons (pe_un un_neg pe_int) pa_nil)))) pss_nil)
      (pss_cons (ps_set (i := 2) scDMeans.nd rfl (Or.inl rfl) (pe_meth (pe_fld (pv 0) rfl) TS.cl mM GM hr1 bM .nil pass0 (pa_cons (pv 1) pa_nil)))
      (pss_one (ps_ret (pe_lst (pa_cons (pe_call GH hr rfl mH kH bH .nil pass0 (pa_cons (pv 2) pa_nil)) (pa_cons (pv 2) pa_nil))))))), ?_⟩
    have ea : (act b (.means x)).2 = if b.n ≤ x then only (-22) else if b.readings.length = 0 then only (-61) else ⟨((Km362.count b.n (b.may x) : Nat) : Int), [Km362.bits b.n (b.may x)]⟩ := rfl
    rw [ea] at q
    refine ⟨_, rfl, _, rfl, d, CD, dx, _, _, rfl, hd, T.cl, T.nS, dF_get _, a, CS, sx, _, _, rfl, S.ins, TS.cl, TS.nM, sF_many _ _ _ _, _, _, rfl, rfl, _, rfl, ?_⟩
    rw [ge_nat]
    by_cases c1 : b.n ≤ x
    · rw [decide_eq_true c1]
      rw [if_pos c1] at q
      exact iteT (neg_ok (fun p hp => q _ p (Same.new (Same.refl H) hp) hp upd_same) rfl)
    rw [decide_eq_false c1]
    rw [if_neg c1] at q
    refine iteF ?_
    refine ⟨_, rfl, d, CD, dx, _, _, rfl, hd, T.cl, T.nS, dF_get _, a, CS, sx, _, _, rfl, S.ins, TS.cl, TS.nR, sF_rds _ _ _ _, Nat.zero_le _, fun e he => empty_ok S he ⟨_, rfl, ?_⟩⟩
    have s1 : Same H (upd H e (.lst [])) := Same.new (Same.refl H) he
    by_cases c2 : b.readings.length = 0
    · rw [decide_eq_true c2]
      rw [if_pos c2] at q
      exact iteT (neg_ok (fun p hp => q _ p (Same.new s1 (s1.free hp)) (s1.free hp) upd_same) rfl)
    rw [decide_eq_false c2]
    rw [if_neg c2] at q
    refine iteF ?_
    refine ⟨_, rfl, d, CD, dx, _, _, rfl, s1 _ _ hd, T.cl, T.nS, dF_get _, a, sx, _, rfl, s1 _ _ S.ins, sF_no _ _ _ _ (by decide +kernel) (by decide +kernel) (by decide +kernel) (by decide +kernel), _, rfl, a, l, b, x, rfl, ⟨sx, rp, ts, ps, S.mono s1⟩, by omega, ?_⟩
    refine ⟨_, rfl, Km362.bits b.n (b.may x), rfl, blen_bits6 S.good.n6 _, fun H2 s2 => ⟨_, rfl, (by show 2 ≤ sizeLine; decide), fun p hp => ?_⟩⟩
    rw [members_bits]
    have s3 := s1.trans s2
    exact q _ p (Same.new s3 (s3.free hp)) (s3.free hp) upd_same
theorem scDSays : FnScope ["self", "words", "found"] ["self", "words"] (defScope sDSays) := ⟨rfl, rfl, rfl, by decide +kernel, rfl, by decide +kernel, by decide +kernel⟩
theorem ok_dsays {f : Addr} {fd : FuncData} (F : Fun K "says" "Desk.says" sDSays f fd) (T : TxD K CD) (TS : TxS K CS) (hint : mg "int" = none) (DM : MethOk P w K mg base 4 CS "said" ["self", "words"] (spSSaid CS)) (DI : DefOk P w K mg base 1 "is_set" ["some", "many"] spIs) : FnOk P w K mg base CX0 5 f fd ["self", "words"] (spD1 CD CS .says) := by
  obtain ⟨fI, fdI, GI, kI, bI, mI⟩ := DI
  obtain ⟨fM, fdM, GM, bM, mM⟩ := DM
  refine F.ok scDSays (fun vs H Q E h => ?_) (fun cdv A outer s H vs Q E hr h => ?_)
  · obtain ⟨d, x, rfl, _⟩ := h
    rfl
  · obtain ⟨d, x, rfl, dx, a, l, b, hd, ⟨sx, rp, ts, ps, S⟩, q⟩ := h
    have hr1 : Room 1 _ := hr.mono (by decide)
    refine ⟨_, pss_cons (ps_if (pt_not (pt_val (pe_call GI hr1 rfl mI kI bI .nil pass0 (pa_cons (pv 1) (pa_cons (pe_fld (pe_fld (pv 0) rfl) rfl) pa_nil))))) (pss_one (ps_ret (pe_lst (pa_cons (pe_un un_neg pe_int) pa_nil)))) pss_nil)
      (pss_cons (ps_if (pt_cmpR (op_eqD hr.units) (pe_fld (pe_fld (pv 0) rfl) rfl) (pe_lst pa_nil) (nomark _)) (pss_one (ps_ret (pe_lst (pa_cons (pe_un un_neg pe_int) pa_nil)))) pss_nil)
      (pss_cons (ps_set (i := 2) scDSays.nd rfl (Or.inl rfl) (pe_meth (pe_fld (pv 0) rfl) TS.cl mM GM hr bM .nil pass0 (pa_cons (pv 1) pa_nil)))
      (pss_one (ps_ret (pe_op op_cat (pe_lst (pa_cons (pe_callTy call_int1 (by rfl) hint (by decide +kernel) (pa_cons (pe_cmpR op_eq (pe_ix ix_list (pv 2) pe_int (fun _ _ => rfl)) (pe_ix ix_list (pv 2) pe_int (fun _ _ => rfl)) (nomark _)) pa_nil)) pa_nil)) (pv 2)))))), ?_⟩
    have ea : (act b (.says x)).2 = if 2 ^ b.n ≤ x then only (-22) else if b.readings.length = 0 then only (-61) else ⟨if b.surely x = b.perhaps x then 1 else 0, [b.surely x, b.perhaps x]⟩ := rfl
    rw [ea] at q
    refine ⟨_, rfl, _, rfl, d, CD, dx, _, _, rfl, hd, T.cl, T.nS, dF_get _, a, CS, sx, _, _, rfl, S.ins, TS.cl, TS.nM, sF_many _ _ _ _, x, b.n, rfl, _, rfl, ?_⟩
    by_cases c1 : 2 ^ b.n ≤ x
    · rw [decide_eq_false (Nat.not_lt.mpr c1)]
      rw [if_pos c1] at q
      exact iteT (neg_ok (fun p hp => q _ p (Same.new (Same.refl H) hp) hp upd_same) rfl)
    have hx : x < 2 ^ b.n := by omega
    rw [decide_eq_true hx]
    rw [if_neg c1] at q
    refine iteF ?_
    refine ⟨_, rfl, d, CD, dx, _, _, rfl, hd, T.cl, T.nS, dF_get _, a, CS, sx, _, _, rfl, S.ins, TS.cl, TS.nR, sF_rds _ _ _ _, Nat.zero_le _, fun e he => empty_ok S he ⟨_, rfl, ?_⟩⟩
    have s1 : Same H (upd H e (.lst [])) := Same.new (Same.refl H) he
    by_cases c2 : b.readings.length = 0
    · rw [decide_eq_true c2]
      rw [if_pos c2] at q
      exact iteT (neg_ok (fun p hp => q _ p (Same.new s1 (s1.free hp)) (s1.free hp) upd_same) rfl)
    rw [decide_eq_false c2]
    rw [if_neg c2] at q
    refine iteF ?_
    refine ⟨_, rfl, d, CD, dx, _, _, rfl, s1 _ _ hd, T.cl, T.nS, dF_get _, a, sx, _, rfl, s1 _ _ S.ins, sF_no _ _ _ _ (by decide +kernel) (by decide +kernel) (by decide +kernel) (by decide +kernel), _, rfl, a, l, b, x, rfl, ⟨sx, rp, ts, ps, S.mono s1⟩, hx, fun H2 p2 s2 np2 hp2 => ?_⟩
    refine ⟨_, rfl, p2, _, _, _, rfl, rfl, SqL.of hp2, atI_nat (j := 0) rfl, _, rfl, p2, _, _, _, rfl, rfl, SqL.of hp2, atI_nat (j := 1) rfl, rfl, .inr ⟨_, rfl, ?_⟩⟩
    rw [nat_eq]
    refine ⟨(by show 1 ≤ sizeLine; decide), fun t ht => ⟨_, rfl, t, p2, _, _, rfl, rfl, upd_same, upd_keep hp2 ht, (by show 3 ≤ sizeLine; decide), fun p hp => ?_⟩⟩
    have s3 : Same H (upd H2 t (.lst [V.int (if decide (b.surely x = b.perhaps x) = true then 1 else 0)])) := Same.new (s1.trans s2) ((s1.trans s2).free ht)
    refine q _ p (Same.new s3 (s3.free hp)) (s3.free hp) ?_
    rw [upd_same]
    by_cases c3 : b.surely x = b.perhaps x
    · rw [if_pos c3, decide_eq_true c3]
      rfl
    · rw [if_neg c3, decide_eq_false c3]
      rfl
theorem scDMis : FnScope ["self", "number"] ["self", "number"] (defScope sDMis) := ⟨rfl, rfl, rfl, by decide +kernel, rfl, by decide +kernel, by decide +kernel⟩
theorem ok_dmis {f : Addr} {fd : FuncData} (F : Fun K "mistaken" "Desk.mistaken" sDMis f fd) (T : TxD K CD) (TS : TxS K CS) (hlen : mg "len" = none) (DM : MethOk P w K mg base 5 CS "sureness" ["self", "number"] (spSSure CS)) : FnOk P w K mg base CX0 6 f fd ["self", "number"] (spD1 CD CS .mistaken) := by
  obtain ⟨fM, fdM, GM, bM, mM⟩ := DM
  refine F.ok scDMis (fun vs H Q E h => ?_) (fun cdv A outer s H vs Q E hr h => ?_)
  · obtain ⟨d, x, rfl, _⟩ := h
    rfl
  · obtain ⟨d, x, rfl, dx, a, l, b, hd, ⟨sx, rp, ts, ps, S⟩, q⟩ := h
    refine ⟨_, pss_cons (ps_if (pt_cmpR op_ge (pv 1) (pe_callB call_len_seq (by rfl) hlen PySem.boot_len (pa_cons (pe_fld (pe_fld (pv 0) rfl) rfl) pa_nil)) (nomark _)) (pss_one (ps_ret (pe_lst (pa_cons (pe_un un_neg pe_int) pa_nil)))) pss_nil)
      (pss_cons (ps_if (pt_cmpR (op_eqD hr.units) (pe_fld (pe_fld (pv 0) rfl) rfl) (pe_lst pa_nil) (nomark _)) (pss_one (ps_ret (pe_lst (pa_cons (pe_un un_neg pe_int) pa_nil)))) pss_nil)
      (pss_one (ps_ret (pe_lst (pa_cons (pe_meth (pe_fld (pv 0) rfl) TS.cl mM GM hr bM .nil pass0 (pa_cons (pv 1) pa_nil)) pa_nil))))), ?_⟩
    have ea : (act b (.mistaken x)).2 = match b.talks[x]? with
      | none => only (-2)
      | some t => if b.readings.length = 0 then only (-61) else only (if (b.readings.all fun r => !(t.right r)) = true then 2 else if (b.readings.all fun r => t.right r) = true then 0 else 1) := rfl
    rw [ea] at q
    have etl : (trefs ts).length = b.talks.length := by rw [trefs_len, ← S.ets, List.length_map]
    refine ⟨_, rfl, _, rfl, d, CD, dx, _, _, rfl, hd, T.cl, T.nS, dF_get _, a, CS, sx, _, _, rfl, S.ins, TS.cl, TS.nT, sF_talks _ _ _ _, l, _, rfl, .inl (SqL.of S.tks.1), _, _, rfl, rfl, _, rfl, ?_⟩
    rw [etl, ge_nat]
    by_cases c1 : b.talks.length ≤ x
    · rw [decide_eq_true c1]
      rw [List.getElem?_eq_none c1] at q
      exact iteT (neg_ok (fun p hp => q _ p (Same.new (Same.refl H) hp) hp upd_same) rfl)
    rw [decide_eq_false c1]
    have et : b.talks[x]? = some (b.talks[x]'(by omega)) := List.getElem?_eq_getElem (by omega)
    generalize b.talks[x]'(by omega) = t at et
    rw [et] at q
    dsimp only at q
    refine iteF ?_
    refine ⟨_, rfl, d, CD, dx, _, _, rfl, hd, T.cl, T.nS, dF_get _, a, CS, sx, _, _, rfl, S.ins, TS.cl, TS.nR, sF_rds _ _ _ _, Nat.zero_le _, fun e he => empty_ok S he ⟨_, rfl, ?_⟩⟩
    have s1 : Same H (upd H e (.lst [])) := Same.new (Same.refl H) he
    by_cases c2 : b.readings.length = 0
    · rw [decide_eq_true c2]
      rw [if_pos c2] at q
      exact iteT (neg_ok (fun p hp => q _ p (Same.new s1 (s1.free hp)) (s1.free hp) upd_same) rfl)
    rw [decide_eq_false c2]
    rw [if_neg c2, ← sure_eq S.good.n6 c2 t] at q
    refine iteF ?_
    refine ⟨_, rfl, d, CD, dx, _, _, rfl, s1 _ _ hd, T.cl, T.nS, dF_get _, a, sx, _, rfl, s1 _ _ S.ins, sF_no _ _ _ _ (by decide +kernel) (by decide +kernel) (by decide +kernel) (by decide +kernel), _, rfl, a, l, b, x, t, rfl, ⟨sx, rp, ts, ps, S.mono s1⟩, et, fun H2 s2 => ⟨(by show 1 ≤ sizeLine; decide), fun p hp => ?_⟩⟩
    have s3 := s1.trans s2
    exact q _ p (Same.new s3 (s3.free hp)) (s3.free hp) upd_same
theorem scDApart : FnScope ["self", "one", "other"] ["self", "one", "other"] (defScope sDApart) := ⟨rfl, rfl, rfl, by decide +kernel, rfl, by decide +kernel, by decide +kernel⟩
theorem ok_dapart {f : Addr} {fd : FuncData} (F : Fun K "apart" "Desk.apart" sDApart f fd) (T : TxD K CD) (TS : TxS K CS) (DM : MethOk P w K mg base 2 CS "apart" ["self", "one", "other"] (spSApart CS)) : FnOk P w K mg base CX0 3 f fd ["self", "one", "other"] (spD2 CD CS .apart) := by
  obtain ⟨fM, fdM, GM, bM, mM⟩ := DM
  refine F.ok scDApart (fun vs H Q E h => ?_) (fun cdv A outer s H vs Q E hr h => ?_)
  · obtain ⟨d, x, y, rfl, _⟩ := h
    rfl
  · obtain ⟨d, x, y, rfl, dx, a, l, b, hd, ⟨sx, rp, ts, ps, S⟩, q⟩ := h
    refine ⟨_, pss_cons (ps_if (PW.pt (pw_or (pt_cmpR op_ge (pv 1) (pe_fld (pe_fld (pv 0) rfl) rfl) (nomark _)) (pw_or1 (pt_cmpR op_ge (pv 2) (pe_fld (pe_fld (pv 0) rfl) rfl) (nomark _))))) (pss_one (ps_ret (pe_lst (pa_cons (pe_un un_neg pe_int) pa_nil)))) pss_nil)
      (pss_one (ps_ret (pe_lst (pa_cons (pe_meth (pe_fld (pv 0) rfl) TS.cl mM GM hr bM .nil pass0 (pa_cons (pv 1) (pa_cons (pv 2) pa_nil))) pa_nil)))), ?_⟩
    have ea : (act b (.apart x y)).2 = if b.n ≤ x ∨ b.n ≤ y then only (-22) else only ((Km362.apart b.talks x y : Nat) : Int) := rfl
    rw [ea] at q
    refine ⟨_, rfl, _, rfl, d, CD, dx, _, _, rfl, hd, T.cl, T.nS, dF_get _, a, CS, sx, _, _, rfl, S.ins, TS.cl, TS.nM, sF_many _ _ _ _, _, _, rfl, rfl, _, rfl, ?_⟩
    rw [ge_nat]
    by_cases c1 : b.n ≤ x
    · rw [decide_eq_true c1]
      rw [if_pos (.inl c1)] at q
      exact iteT (iteT (neg_ok (fun p hp => q _ p (Same.new (Same.refl H) hp) hp upd_same) rfl))
    rw [decide_eq_false c1]
    refine iteF ?_
    refine ⟨_, rfl, _, rfl, d, CD, dx, _, _, rfl, hd, T.cl, T.nS, dF_get _, a, CS, sx, _, _, rfl, S.ins, TS.cl, TS.nM, sF_many _ _ _ _, _, _, rfl, rfl, _, rfl, ?_⟩
    rw [ge_nat]
    by_cases c2 : b.n ≤ y
    · rw [decide_eq_true c2]
      rw [if_pos (.inr c2)] at q
      exact iteT (neg_ok (fun p hp => q _ p (Same.new (Same.refl H) hp) hp upd_same) rfl)
    rw [decide_eq_false c2]
    rw [if_neg (by omega)] at q
    refine iteF ?_
    refine ⟨_, rfl, d, CD, dx, _, _, rfl, hd, T.cl, T.nS, dF_get _, a, sx, _, rfl, S.ins, sF_no _ _ _ _ (by decide +kernel) (by decide +kernel) (by decide +kernel) (by decide +kernel), _, rfl, _, rfl, a, l, b, x, y, rfl, ⟨sx, rp, ts, ps, S⟩, fun H2 s2 => ⟨(by show 1 ≤ sizeLine; decide), fun p hp => ?_⟩⟩
    exact q _ p (Same.new s2 (s2.free hp)) (s2.free hp) upd_same
theorem scDAsk : FnScope ["self", "word"] ["self"] (defScope sDAsk) := ⟨rfl, rfl, rfl, by decide +kernel, rfl, by decide +kernel, by decide +kernel⟩
theorem ok_dask {f : Addr} {fd : FuncData} (F : Fun K "ask" "Desk.ask" sDAsk f fd) (T : TxD K CD) (TS : TxS K CS) (DM : MethOk P w K mg base 4 CS "open_word" ["self"] (spSOpen CS)) : FnOk P w K mg base CX0 5 f fd ["self"] (spD0 CD CS .ask) := by
  obtain ⟨fM, fdM, GM, bM, mM⟩ := DM
  refine F.ok scDAsk (fun vs H Q E h => ?_) (fun cdv A outer s H vs Q E hr h => ?_)
  · obtain ⟨d, rfl, _⟩ := h
    rfl
  · obtain ⟨d, rfl, dx, a, l, b, hd, ⟨sx, rp, ts, ps, S⟩, q⟩ := h
    refine ⟨_, pss_cons (ps_if (pt_cmpR (op_eqD hr.units) (pe_fld (pe_fld (pv 0) rfl) rfl) (pe_lst pa_nil) (nomark _)) (pss_one (ps_ret (pe_lst (pa_cons (pe_un un_neg pe_int) pa_nil)))) pss_nil)
      (pss_cons (ps_set (i := 1) scDAsk.nd rfl (Or.inl rfl) (pe_meth0 (pe_fld (pv 0) rfl) TS.cl mM GM hr bM .nil pass0))
      (pss_cons (ps_if (pt_cmpR op_lt (pv 1) pe_int (nomark _)) (pss_one (ps_ret (pe_lst (pa_cons (pe_un un_neg pe_int) pa_nil)))) pss_nil)
      (pss_one (ps_ret (pe_lst (pa_cons (pv 1) pa_nil)))))), ?_⟩
    have ea : (act b .ask).2 = if b.readings.length = 0 then only (-61) else match b.unsure with
      | none => only (-2)
      | some w => only ((w : Nat) : Int) := rfl
    rw [ea] at q
    refine ⟨_, rfl, d, CD, dx, _, _, rfl, hd, T.cl, T.nS, dF_get _, a, CS, sx, _, _, rfl, S.ins, TS.cl, TS.nR, sF_rds _ _ _ _, Nat.zero_le _, fun e he => empty_ok S he ⟨_, rfl, ?_⟩⟩
    have s1 : Same H (upd H e (.lst [])) := Same.new (Same.refl H) he
    by_cases c2 : b.readings.length = 0
    · rw [decide_eq_true c2]
      rw [if_pos c2] at q
      exact iteT (neg_ok (fun p hp => q _ p (Same.new s1 (s1.free hp)) (s1.free hp) upd_same) rfl)
    rw [decide_eq_false c2]
    rw [if_neg c2] at q
    refine iteF ?_
    refine ⟨_, rfl, d, CD, dx, _, _, rfl, s1 _ _ hd, T.cl, T.nS, dF_get _, a, sx, _, rfl, s1 _ _ S.ins, sF_no _ _ _ _ (by decide +kernel) (by decide +kernel) (by decide +kernel) (by decide +kernel), a, l, b, rfl, ⟨sx, rp, ts, ps, S.mono s1⟩, fun H2 s2 => ?_⟩
    have s3 := s1.trans s2
    refine ⟨_, rfl, _, _, rfl, rfl, _, rfl, ?_⟩
    unfold openV
    cases c : b.unsure with
    | none =>
      rw [c] at q
      exact iteT (neg_ok (fun p hp => q _ p (Same.new s3 (s3.free hp)) (s3.free hp) upd_same) rfl)
    | some k =>
      rw [c] at q
      have e0 : decide ((k : Int) < 0) = false := decide_eq_false (by omega)
      dsimp only
      rw [e0]
      exact iteF ⟨_, rfl, (by show 1 ≤ sizeLine; decide), fun p hp => q _ p (Same.new s3 (s3.free hp)) (s3.free hp) upd_same⟩
end
end Wd

namespace Wd
open PySem PySem.Spec PyProof.Rows L2
open Km362 (Talk Book Reading wrongs at_ Ans act only Call)
section
variable {P : Program} {w : World} {K : PySem.W.Frag} {mg : Str → Option Value} {base : Heap} {CD CS : Addr}
theorem ne_ds {H : Hp} {d a dx sx l rp : Addr} {v : V} {n f : Nat} (hd : H d = some (.ins CD dx (dF v))) (ha : H a = some (.ins CS sx (sF n f l rp))) : d ≠ a := by
  refine ne_of hd ha ?_
  intro z
  injection z with _ _ z
  exact absurd (congrArg List.length z) (by show ¬ (1 = 4); decide)
theorem scDTalk : FnScope ["self", "words", "things", "many"] ["self", "words", "things"] (defScope sDTalk) := ⟨rfl, rfl, rfl, by decide +kernel, rfl, by decide +kernel, by decide +kernel⟩
theorem ok_dtalk {f : Addr} {fd : FuncData} (F : Fun K "talk" "Desk.talk" sDTalk f fd) (T : TxD K CD) (TS : TxS K CS) (hlen : mg "len" = none) {t1 : Tok} (g1 : mg "MOST_TALKS" = some (.int 24 t1)) (DM : MethOk P w K mg base 6 CS "add" ["self", "words", "things"] (spSAdd CS))
    (DI : DefOk P w K mg base 1 "is_set" ["some", "many"] spIs) : FnOk P w K mg base CX0 7 f fd ["self", "words", "things"] (spDTalk CD CS) := by
  obtain ⟨fI, fdI, GI, kI, bI, mI⟩ := DI
  obtain ⟨fM, fdM, GM, bM, mM⟩ := DM
  refine F.ok scDTalk (fun vs H Q E h => ?_) (fun cdv A outer s H vs Q E hr h => ?_)
  · obtain ⟨d, dx, a, l, b, x, y, rfl, _⟩ := h
    rfl
  · obtain ⟨d, dx, a, l, b, x, y, rfl, hd, ⟨sx, rp, ts, ps, S⟩, q⟩ := h
    have hr1 : Room 1 _ := hr.mono (by decide)
    refine ⟨_, pss_cons (ps_set (i := 3) scDTalk.nd rfl (Or.inl rfl) (pe_fld (pe_fld (pv 0) rfl) rfl))
      (pss_cons (ps_if (PW.pt (pw_or (pt_cmpR op_eq (pv 1) pe_int (nomark _)) (pw_or (pt_not (pt_val (pe_call GI hr1 rfl mI kI bI .nil pass0 (pa_cons (pv 1) (pa_cons (pv 3) pa_nil))))) (pw_or1 (pt_not (pt_val (pe_call GI hr1 rfl mI kI bI .nil pass0 (pa_cons (pv 2) (pa_cons (pv 3) pa_nil)))))))))
        (pss_one (ps_ret (pe_lst (pa_cons (pe_un un_neg pe_int) pa_nil)))) pss_nil)
      (pss_cons (ps_if (pt_cmpR op_eq (pe_callB call_len_seq (by rfl) hlen PySem.boot_len (pa_cons (pe_fld (pe_fld (pv 0) rfl) rfl) pa_nil)) (pe_glob (v := .int 24) rfl g1 ⟨_, rfl⟩) (nomark _)) (pss_one (ps_ret (pe_lst (pa_cons (pe_un un_neg pe_int) pa_nil)))) pss_nil)
      (pss_cons (ps_expr (pe_meth (pe_fld (pv 0) rfl) TS.cl mM GM hr bM .nil pass0 (pa_cons (pv 1) (pa_cons (pv 2) pa_nil))))
      (pss_one (ps_ret (pe_lst (pa_cons (pe_callB call_len_seq (by rfl) hlen PySem.boot_len (pa_cons (pe_fld (pe_fld (pv 0) rfl) rfl) pa_nil)) pa_nil))))))), ?_⟩
    have ea : act b (.talk x y) = if x = 0 ∨ 2 ^ b.n ≤ x ∨ 2 ^ b.n ≤ y then (b, only (-22)) else if Km362.TALKS ≤ b.talks.length then (b, only (-28)) else ((⟨b.n, b.f, b.talks ++ [⟨x, y⟩]⟩ : Book), only (((⟨b.n, b.f, b.talks ++ [⟨x, y⟩]⟩ : Book).readings.length : Nat) : Int)) := rfl
    have bad : (x = 0 ∨ 2 ^ b.n ≤ x ∨ 2 ^ b.n ≤ y) → ∀ p, H p = none → Q (.ref p) (upd H p (.lst [V.int (-22)])) := fun c p hp => by
      rw [if_pos c] at ea
      rw [ea] at q
      exact q _ p (upd_keep hd hp) ⟨sx, rp, ts, ps, S.mono (Same.new (Same.refl H) hp)⟩ (Same.keep (Same.new (Same.refl H) hp)) hp upd_same
    refine ⟨_, rfl, d, CD, dx, _, _, rfl, hd, T.cl, T.nS, dF_get _, a, CS, sx, _, _, rfl, S.ins, TS.cl, TS.nM, sF_many _ _ _ _, ?_⟩
    refine ⟨_, rfl, rfl, _, rfl, ?_⟩
    rw [show (0 : Int) = ((0 : Nat) : Int) from rfl, nat_eq]
    by_cases c1 : x = 0
    · rw [decide_eq_true c1]
      exact iteT (iteT (neg_ok (bad (.inl c1)) rfl))
    rw [decide_eq_false c1]
    refine iteF ?_
    refine ⟨_, rfl, _, rfl, x, b.n, rfl, _, rfl, ?_⟩
    by_cases c2 : 2 ^ b.n ≤ x
    · rw [decide_eq_false (Nat.not_lt.mpr c2)]
      exact iteT (iteT (neg_ok (bad (.inr (.inl c2))) rfl))
    have hx : x < 2 ^ b.n := by omega
    rw [decide_eq_true hx]
    refine iteF ?_
    refine ⟨_, rfl, _, rfl, y, b.n, rfl, _, rfl, ?_⟩
    by_cases c3 : 2 ^ b.n ≤ y
    · rw [decide_eq_false (Nat.not_lt.mpr c3)]
      exact iteT (neg_ok (bad (.inr (.inr c3))) rfl)
    have hy : y < 2 ^ b.n := by omega
    rw [decide_eq_true hy]
    refine iteF ?_
    rw [if_neg (by omega)] at ea
    have etl : (trefs ts).length = b.talks.length := by rw [trefs_len, ← S.ets, List.length_map]
    refine ⟨_, rfl, d, CD, dx, _, _, rfl, hd, T.cl, T.nS, dF_get _, a, CS, sx, _, _, rfl, S.ins, TS.cl, TS.nT, sF_talks _ _ _ _, l, _, rfl, .inl (SqL.of S.tks.1), rfl, _, rfl, ?_⟩
    rw [etl, show (24 : Int) = ((24 : Nat) : Int) from rfl, nat_eq]
    have h24 := S.good.t24
    by_cases c4 : b.talks.length = 24
    · rw [decide_eq_true c4]
      rw [if_pos (show Km362.TALKS ≤ b.talks.length by show 24 ≤ b.talks.length; omega)] at ea
      rw [ea] at q
      exact iteT (neg_ok (fun p hp => q _ p (upd_keep hd hp) ⟨sx, rp, ts, ps, S.mono (Same.new (Same.refl H) hp)⟩ (Same.keep (Same.new (Same.refl H) hp)) hp upd_same) rfl)
    rw [decide_eq_false c4]
    rw [if_neg (show ¬ Km362.TALKS ≤ b.talks.length by show ¬ 24 ≤ b.talks.length; omega)] at ea
    rw [ea] at q
    refine iteF ?_
    refine ⟨_, rfl, d, CD, dx, _, _, rfl, hd, T.cl, T.nS, dF_get _, a, sx, _, rfl, S.ins, sF_no _ _ _ _ (by decide +kernel) (by decide +kernel) (by decide +kernel) (by decide +kernel), _, rfl, _, rfl, a, l, b, x, y, rfl, ⟨sx, rp, ts, ps, S⟩, by omega, hx, fun H2 S2 k2 => ?_⟩
    have nda := ne_ds hd S.ins
    have ndl : d ≠ l := ne_of hd S.tks.1 (by intro z; cases z)
    have hd2 : H2 d = some (.ins CD dx (dF (.ref a))) := k2 _ _ hd (by
      intro z
      rcases List.mem_cons.mp z with z | z
      · exact nda z
      · rcases List.mem_cons.mp z with z | z
        · exact ndl z
        · cases z)
    obtain ⟨sx2, rp2, ts2, ps2, S2⟩ := S2
    have k0 : ∀ p, H2 p = none → H p = none := fun p hp => by
      cases e : H p with
      | none => rfl
      | some o =>
        by_cases e1 : p = a
        · rw [e1, S2.ins] at hp
          cases hp
        by_cases e2 : p = l
        · rw [e2, S2.tks.1] at hp
          cases hp
        rw [k2 p o e (by
          intro z
          rcases List.mem_cons.mp z with z | z
          · exact e1 z
          · rcases List.mem_cons.mp z with z | z
            · exact e2 z
            · cases z)] at hp
        cases hp
    refine ⟨_, rfl, d, CD, dx, _, _, rfl, hd2, T.cl, T.nS, dF_get _, a, CS, sx2, _, _, rfl, S2.ins, TS.cl, TS.nR, sF_rds _ _ _ _, rp2, _, rfl, .inl (SqL.of S2.rdsAt.1), (by show 1 ≤ sizeLine; decide), fun p hp => ?_⟩
    refine q _ p (upd_keep hd2 hp) ⟨sx2, rp2, ts2, ps2, S2.mono (Same.new (Same.refl _) hp)⟩ (Keep.trans k2 (Same.keep (Same.new (Same.refl _) hp))) (k0 p hp) ?_
    rw [upd_same, refs_len, S2.len]
    rfl
end
end Wd

namespace Wd
open PySem PySem.Spec PyProof.Rows L2
open Km362 (Talk Book Reading wrongs at_ Ans act only Call)
/-- the desk at d holds that; S: what it owns and may change -/
def DeskAt (CD CS : Addr) (H : Hp) (d : Addr) (ob : Option Book) (S : List Addr) : Prop := match ob with
  | none => S = [d] ∧ ∃ dx, H d = some (.ins CD dx (dF .non))
  | some b => ∃ dx a l, S = [d, a, l] ∧ H d = some (.ins CD dx (dF (.ref a))) ∧ Strg CS H a l b
theorem DeskAt.mono {CD CS : Addr} {H H' : Hp} {d : Addr} {ob : Option Book} {S : List Addr} (h : DeskAt CD CS H d ob S) (s : Same H H') : DeskAt CD CS H' d ob S := by
  cases ob with
  | none =>
    obtain ⟨e, dx, h⟩ := h
    exact ⟨e, dx, s _ _ h⟩
  | some b =>
    obtain ⟨dx, a, l, e, hd, hs⟩ := h
    exact ⟨dx, a, l, e, s _ _ hd, hs.mono s⟩
theorem DeskAt.there {CD CS : Addr} {H : Hp} {d : Addr} {ob : Option Book} {S : List Addr} (h : DeskAt CD CS H d ob S) {z : Addr} (hz : z ∈ S) : H z ≠ none := by
  cases ob with
  | none =>
    obtain ⟨e, dx, h⟩ := h
    rw [e] at hz
    have ez : z = d := by simpa using hz
    rw [ez, h]
    intro q
    cases q
  | some b =>
    obtain ⟨dx, a, l, e, hd, sx, rp, ts, ps, hs⟩ := h
    rw [e] at hz
    have ez : z = d ∨ z = a ∨ z = l := by simpa using hz
    rcases ez with ez | ez | ez <;> rw [ez]
    · rw [hd]
      intro q
      cases q
    · rw [hs.ins]
      intro q
      cases q
    · rw [hs.tks.1]
      intro q
      cases q
theorem told_V (a : Ans) : toldV a = (Km362Neutral.told a).map V.int := by
  unfold toldV Km362Neutral.told
  rw [List.map_cons, vi_int]
  rfl
def spDAns (CD CS : Addr) : Sp := fun vs H Q _ => ∃ (d g : Addr) (ob : Option Book) (S : List Addr) (k : Nat) (args : List Nat) (x : Call), vs = [.ref d, vn k, .ref g] ∧ DeskAt CD CS H d ob S ∧ H g = some (.lst (vi args)) ∧ k < 8 ∧ callK k args = some x ∧ (ob = none → Km362Neutral.isStart x = true) ∧
  ∀ (H' : Hp) (p : Addr) (S' : List Addr), DeskAt CD CS H' d (xstep ob x).1 S' → Keep S H H' → (∀ z ∈ S', z ∈ S ∨ H z = none) → H p = none → p ∉ S' → H' p = some (.lst ((xstep ob x).2.map V.int)) → Q (.ref p) H'
section
variable {P : Program} {w : World} {K : PySem.W.Frag} {mg : Str → Option Value} {base : Heap} {CD CS : Addr}
theorem eqT {k m : Nat} {A B : Prop} (h : k = m) (a : A) : if decide (V.int (k : Int) = V.int (m : Int)) = true then A else B := by
  rw [nat_eq, decide_eq_true h]
  exact iteT a
theorem eqF {k m : Nat} {A B : Prop} (h : k ≠ m) (b : B) : if decide (V.int (k : Int) = V.int (m : Int)) = true then A else B := by
  rw [nat_eq, decide_eq_false h]
  exact iteF b
/-- a call that only asks -/
theorem asks_of {H : Hp} {d : Addr} {ob : Option Book} {S : List Addr} {x : Call} {Q : VK} (hD : DeskAt CD CS H d ob S) (hs : ob = none → Km362Neutral.isStart x = true) (hx : Km362Neutral.isStart x = false) (hb : ∀ b, (act b x).1 = b)
    (q : ∀ (H' : Hp) (p : Addr) (S' : List Addr), DeskAt CD CS H' d (xstep ob x).1 S' → Keep S H H' → (∀ z ∈ S', z ∈ S ∨ H z = none) → H p = none → p ∉ S' → H' p = some (.lst ((xstep ob x).2.map V.int)) → Q (.ref p) H') : Asks CD CS d H Q x := by
  cases ob with
  | none =>
    rw [hs rfl] at hx
    cases hx
  | some b =>
    have hD' := hD
    obtain ⟨dx, a, l, e, hd, st⟩ := hD'
    refine ⟨dx, a, l, b, hd, st, fun H' p s hp hl => q H' p S ?_ (Same.keep s) (fun z hz => .inl hz) hp (fun z => hD.there z hp) ?_⟩
    · show DeskAt CD CS H' d (some (act b x).1) S
      rw [hb b]
      exact hD.mono s
    · rw [hl, told_V]
      rfl
theorem scDAns : FnScope ["self", "number", "args"] ["self", "number", "args"] (defScope sDAns) := ⟨rfl, rfl, rfl, by decide +kernel, rfl, by decide +kernel, by decide +kernel⟩
theorem ok_dans {f : Addr} {fd : FuncData} (F : Fun K "answer" "Desk.answer" sDAns f fd) (T : TxD K CD) (TS : TxS K CS) (hlen : mg "len" = none)
    (D0 : MethOk P w K mg base 4 CD "start" ["self", "many", "faults"] (spDStart CD CS)) (D1 : MethOk P w K mg base 7 CD "talk" ["self", "words", "things"] (spDTalk CD CS)) (D2 : MethOk P w K mg base 4 CD "means" ["self", "word"] (spD1 CD CS .means))
    (D3 : MethOk P w K mg base 5 CD "says" ["self", "words"] (spD1 CD CS .says)) (D4 : MethOk P w K mg base 6 CD "mistaken" ["self", "number"] (spD1 CD CS .mistaken)) (D5 : MethOk P w K mg base 3 CD "apart" ["self", "one", "other"] (spD2 CD CS .apart))
    (D6 : MethOk P w K mg base 5 CD "ask" ["self"] (spD0 CD CS .ask)) : FnOk P w K mg base CX0 8 f fd ["self", "number", "args"] (spDAns CD CS) := by
  obtain ⟨f0, fd0, G0, b0, m0⟩ := D0
  obtain ⟨f1, fd1, G1, b1, m1⟩ := D1
  obtain ⟨f2, fd2, G2, b2, m2⟩ := D2
  obtain ⟨f3, fd3, G3, b3, m3⟩ := D3
  obtain ⟨f4, fd4, G4, b4, m4⟩ := D4
  obtain ⟨f5, fd5, G5, b5, m5⟩ := D5
  obtain ⟨f6, fd6, G6, b6, m6⟩ := D6
  refine F.ok scDAns (fun vs H Q E h => ?_) (fun cdv A outer s H vs Q E hr h => ?_)
  · obtain ⟨d, g, ob, S, k, args, x, rfl, _⟩ := h
    rfl
  · obtain ⟨d, g, ob, S, k, args, x, rfl, hD, hg, hk, hc, hst, q⟩ := h
    have r4 : Room 4 _ := hr.mono (by decide)
    have r5 : Room 5 _ := hr.mono (by decide)
    have r6 : Room 6 _ := hr.mono (by decide)
    have r3 : Room 3 _ := hr.mono (by decide)
    refine ⟨_, pss_cons (ps_if (pt_cmpR op_eq (pv 1) pe_int (nomark _)) (pss_one (ps_ret (pe_meth (pv 0) T.cl m0 G0 r4 b0 .nil pass0 (pa_cons (pe_ix ix_list (pv 2) pe_int (fun _ _ => rfl)) (pa_cons (pe_ix ix_list (pv 2) pe_int (fun _ _ => rfl)) pa_nil))))) pss_nil)
      (pss_cons (ps_if (pt_cmpR op_eq (pv 1) pe_int (nomark _)) (pss_one (ps_ret (pe_meth (pv 0) T.cl m1 G1 hr b1 .nil pass0 (pa_cons (pe_ix ix_list (pv 2) pe_int (fun _ _ => rfl)) (pa_cons (pe_ix ix_list (pv 2) pe_int (fun _ _ => rfl)) pa_nil))))) pss_nil)
      (pss_cons (ps_if (pt_cmpR op_eq (pv 1) pe_int (nomark _)) (pss_one (ps_ret (pe_meth (pv 0) T.cl m2 G2 r4 b2 .nil pass0 (pa_cons (pe_ix ix_list (pv 2) pe_int (fun _ _ => rfl)) pa_nil)))) pss_nil)
      (pss_cons (ps_if (pt_cmpR op_eq (pv 1) pe_int (nomark _)) (pss_one (ps_ret (pe_meth (pv 0) T.cl m3 G3 r5 b3 .nil pass0 (pa_cons (pe_ix ix_list (pv 2) pe_int (fun _ _ => rfl)) pa_nil)))) pss_nil)
      (pss_cons (ps_if (pt_cmpR op_eq (pv 1) pe_int (nomark _)) (pss_one (ps_ret (pe_meth (pv 0) T.cl m4 G4 r6 b4 .nil pass0 (pa_cons (pe_ix ix_list (pv 2) pe_int (fun _ _ => rfl)) pa_nil)))) pss_nil)
      (pss_cons (ps_if (pt_cmpR op_eq (pv 1) pe_int (nomark _)) (pss_one (ps_ret (pe_meth (pv 0) T.cl m5 G5 r3 b5 .nil pass0 (pa_cons (pe_ix ix_list (pv 2) pe_int (fun _ _ => rfl)) (pa_cons (pe_ix ix_list (pv 2) pe_int (fun _ _ => rfl)) pa_nil))))) pss_nil)
      (pss_cons (ps_if (pt_cmpR op_eq (pv 1) pe_int (nomark _)) (pss_one (ps_ret (pe_meth0 (pv 0) T.cl m6 G6 r5 b6 .nil pass0))) pss_nil)
      (pss_one (ps_ret (pe_lst (pa_cons (pe_callB call_len_seq (by rfl) hlen PySem.boot_len (pa_cons (pe_fld (pe_fld (pv 0) rfl) rfl) pa_nil)) pa_nil)))))))))), ?_⟩
    have self : ∀ b : Book, ob = some b → ∃ dx a, H d = some (.ins CD dx (dF (.ref a))) := fun b e => by
      subst e
      obtain ⟨dx, a, l, _, hd, _⟩ := hD
      exact ⟨dx, a, hd⟩
    have selfA : ∃ dx v, H d = some (.ins CD dx (dF v)) := by
      cases ob with
      | none =>
        obtain ⟨_, dx, hd⟩ := hD
        exact ⟨dx, _, hd⟩
      | some b =>
        obtain ⟨dx, a, l, _, hd, _⟩ := hD
        exact ⟨dx, _, hd⟩
    obtain ⟨dx, v, hd⟩ := selfA
    refine ⟨_, rfl, rfl, _, rfl, ?_⟩
    by_cases e0 : k = 0
    · subst e0
      refine eqT (m := 0) rfl ?_
      match args, hc with
      | [n, f], hc =>
        have ex : Call.start n f = x := Option.some.inj hc
        subst ex
        refine ⟨_, rfl, d, dx, _, rfl, hd, dF_no _ (by decide +kernel), _, rfl, g, _, _, _, rfl, rfl, SqL.of hg, atI_nat (j := 0) rfl, _, rfl, g, _, _, _, rfl, rfl, SqL.of hg, atI_nat (j := 1) rfl, ?_⟩
        refine ⟨d, dx, v, n, f, rfl, hd, fun c H' p s hp hl => ?_, fun c H' p a l hp ha hll hpl hpa hd' hS' hk' hl => ?_⟩
        · have ea : ∀ b : Book, act b (.start n f) = (b, only (-22)) := fun b => if_pos c
          refine q H' p S ?_ (Same.keep s) (fun z hz => .inl hz) hp (fun z => hD.there z hp) ?_
          · cases ob with
            | none =>
              show DeskAt CD CS H' d (if (Km362Neutral.told (act ⟨2, 0, []⟩ (.start n f)).2).headD 0 < 0 then none else some (act ⟨2, 0, []⟩ (.start n f)).1) S
              rw [ea]
              exact hD.mono s
            | some b =>
              show DeskAt CD CS H' d (some (act b (.start n f)).1) S
              rw [ea]
              exact hD.mono s
          · rw [hl]
            cases ob with
            | none =>
              show _ = some (HO.lst ((Km362Neutral.told (act ⟨2, 0, []⟩ (.start n f)).2).map V.int))
              rw [ea]
              rfl
            | some b =>
              show _ = some (HO.lst ((Km362Neutral.told (act b (.start n f)).2).map V.int))
              rw [ea]
              rfl
        · have ea : ∀ b : Book, act b (.start n f) = (⟨n, f, []⟩, only 0) := fun b => if_neg c
          have hD' : DeskAt CD CS H' d (some ⟨n, f, []⟩) [d, a, l] := ⟨dx, a, l, rfl, hd', hS'⟩
          have dS : d ∈ S := by
            cases ob with
            | none =>
              obtain ⟨e, _⟩ := hD
              rw [e]
              exact List.mem_cons_self ..
            | some b =>
              obtain ⟨_, _, _, e, _⟩ := hD
              rw [e]
              exact List.mem_cons_self ..
          refine q H' p [d, a, l] ?_ ?_ ?_ hp ?_ ?_
          · cases ob with
            | none =>
              show DeskAt CD CS H' d (if (Km362Neutral.told (act ⟨2, 0, []⟩ (.start n f)).2).headD 0 < 0 then none else some (act ⟨2, 0, []⟩ (.start n f)).1) [d, a, l]
              rw [ea]
              exact hD'
            | some b =>
              show DeskAt CD CS H' d (some (act b (.start n f)).1) [d, a, l]
              rw [ea]
              exact hD'
          · intro c o e nc
            refine hk' c o e fun z => nc ?_
            have ez : c = d := by simpa using z
            rw [ez]
            exact dS
          · intro z hz
            have ez : z = d ∨ z = a ∨ z = l := by simpa using hz
            rcases ez with ez | ez | ez <;> rw [ez]
            · exact .inl dS
            · exact .inr ha
            · exact .inr hll
          · intro z
            have ez : p = d ∨ p = a ∨ p = l := by simpa using z
            rcases ez with ez | ez | ez
            · rw [ez, hd] at hp
              cases hp
            · exact hpa ez
            · exact hpl ez
          · rw [hl]
            cases ob with
            | none =>
              show _ = some (HO.lst ((Km362Neutral.told (act ⟨2, 0, []⟩ (.start n f)).2).map V.int))
              rw [ea]
              rfl
            | some b =>
              show _ = some (HO.lst ((Km362Neutral.told (act b (.start n f)).2).map V.int))
              rw [ea]
              rfl
    refine eqF (m := 0) e0 ?_
    refine ⟨_, rfl, rfl, _, rfl, ?_⟩
    by_cases e1 : k = 1
    · subst e1
      refine eqT (m := 1) rfl ?_
      match args, hc with
      | [x1, y1], hc =>
        have ex : Call.talk x1 y1 = x := Option.some.inj hc
        subst ex
        refine ⟨_, rfl, d, dx, _, rfl, hd, dF_no _ (by decide +kernel), _, rfl, g, _, _, _, rfl, rfl, SqL.of hg, atI_nat (j := 0) rfl, _, rfl, g, _, _, _, rfl, rfl, SqL.of hg, atI_nat (j := 1) rfl, ?_⟩
        cases ob with
        | none => exact absurd (hst rfl) Bool.false_ne_true
        | some b =>
          have hD' := hD
          obtain ⟨dx2, a, l, e, hd2, hs2⟩ := hD'
          refine ⟨d, dx2, a, l, b, x1, y1, rfl, hd2, hs2, fun H' p hd3 hs3 k3 hp hl => q H' p S ⟨dx2, a, l, e, hd3, hs3⟩ (fun c o h n => k3 c o h fun z => n ?_) (fun z hz => .inl hz) hp (fun z => hD.there z hp) ?_⟩
          · rw [e]
            exact List.mem_cons_of_mem _ z
          · rw [hl, told_V]
            rfl
    refine eqF (m := 1) e1 ?_
    refine ⟨_, rfl, rfl, _, rfl, ?_⟩
    by_cases e2 : k = 2
    · subst e2
      refine eqT (m := 2) rfl ?_
      match args, hc with
      | [x1], hc =>
        have ex : Call.means x1 = x := Option.some.inj hc
        subst ex
        exact ⟨_, rfl, d, dx, _, rfl, hd, dF_no _ (by decide +kernel), _, rfl, g, _, _, _, rfl, rfl, SqL.of hg, atI_nat (j := 0) rfl, d, x1, rfl, asks_of hD hst rfl (fun b => rfl) q⟩
    refine eqF (m := 2) e2 ?_
    refine ⟨_, rfl, rfl, _, rfl, ?_⟩
    by_cases e3 : k = 3
    · subst e3
      refine eqT (m := 3) rfl ?_
      match args, hc with
      | [x1], hc =>
        have ex : Call.says x1 = x := Option.some.inj hc
        subst ex
        exact ⟨_, rfl, d, dx, _, rfl, hd, dF_no _ (by decide +kernel), _, rfl, g, _, _, _, rfl, rfl, SqL.of hg, atI_nat (j := 0) rfl, d, x1, rfl, asks_of hD hst rfl (fun b => rfl) q⟩
    refine eqF (m := 3) e3 ?_
    refine ⟨_, rfl, rfl, _, rfl, ?_⟩
    by_cases e4 : k = 4
    · subst e4
      refine eqT (m := 4) rfl ?_
      match args, hc with
      | [x1], hc =>
        have ex : Call.mistaken x1 = x := Option.some.inj hc
        subst ex
        exact ⟨_, rfl, d, dx, _, rfl, hd, dF_no _ (by decide +kernel), _, rfl, g, _, _, _, rfl, rfl, SqL.of hg, atI_nat (j := 0) rfl, d, x1, rfl, asks_of hD hst rfl (fun b => rfl) q⟩
    refine eqF (m := 4) e4 ?_
    refine ⟨_, rfl, rfl, _, rfl, ?_⟩
    by_cases e5 : k = 5
    · subst e5
      refine eqT (m := 5) rfl ?_
      match args, hc with
      | [x1, y1], hc =>
        have ex : Call.apart x1 y1 = x := Option.some.inj hc
        subst ex
        exact ⟨_, rfl, d, dx, _, rfl, hd, dF_no _ (by decide +kernel), _, rfl, g, _, _, _, rfl, rfl, SqL.of hg, atI_nat (j := 0) rfl, _, rfl, g, _, _, _, rfl, rfl, SqL.of hg, atI_nat (j := 1) rfl, d, x1, y1, rfl, asks_of hD hst rfl (fun b => rfl) q⟩
    refine eqF (m := 5) e5 ?_
    refine ⟨_, rfl, rfl, _, rfl, ?_⟩
    by_cases e6 : k = 6
    · subst e6
      refine eqT (m := 6) rfl ?_
      match args, hc with
      | [], hc =>
        have ex : Call.ask = x := Option.some.inj hc
        subst ex
        exact ⟨_, rfl, d, dx, _, rfl, hd, dF_no _ (by decide +kernel), d, rfl, asks_of hD hst rfl (fun b => rfl) q⟩
    refine eqF (m := 6) e6 ?_
    have e7 : k = 7 := by omega
    subst e7
    match args, hc with
    | [], hc =>
      have ex : Call.left = x := Option.some.inj hc
      subst ex
      cases ob with
      | none => exact absurd (hst rfl) Bool.false_ne_true
      | some b =>
        have hD' := hD
        obtain ⟨dx2, a, l, e, hd2, sx, rp, ts, ps, hs2⟩ := hD'
        refine ⟨_, rfl, d, CD, dx2, _, _, rfl, hd2, T.cl, T.nS, dF_get _, a, CS, sx, _, _, rfl, hs2.ins, TS.cl, TS.nR, sF_rds _ _ _ _, rp, _, rfl, .inl (SqL.of hs2.rdsAt.1), (by show 1 ≤ sizeLine; decide), fun p hp => ?_⟩
        have s1 : Same H (upd H p (.lst [V.int ((refs ps).length : Int)])) := Same.new (Same.refl H) hp
        refine q _ p S (hD.mono s1) (Same.keep s1) (fun z hz => .inl hz) hp (fun z => hD.there z hp) ?_
        rw [upd_same, refs_len, hs2.len]
        rfl
end
end Wd

namespace Wd
open PySem PySem.Spec PyProof.Rows L2
open Km362 (Talk Book Reading wrongs at_ Ans act only Call)
theorem cut_eq {ms : List Nat} {i k : Nat} (h : i + 1 + k ≤ ms.length) : cutV (vi ms) (some ((i : Int) + 1)) (some ((i : Int) + 1 + (k : Int))) = vi ((ms.drop (i + 1)).take k) := by
  unfold cutV
  rw [show (i : Int) + 1 = ((i + 1 : Nat) : Int) from rfl, show ((i + 1 : Nat) : Int) + (k : Int) = ((i + 1 + k : Nat) : Int) from rfl, HT.sIx_nat, HT.sIx_nat, vi_len, Nat.min_eq_left h, Nat.min_eq_left (show i + 1 ≤ ms.length by omega), show i + 1 + k - (i + 1) = k by omega]
  unfold vi
  rw [List.map_take, List.map_drop]
def spAns (K : PySem.W.Frag) : Sp := fun vs H Q _ => ∃ (c : Addr) (ms : List Nat), vs = [.ref c] ∧ SqL K H c (vi ms) ∧ ms.length ≤ 31700 ∧ PyKm362.answers_asked (nums ms) = true ∧
  ∀ (H' : Hp) (p : Addr), H' p = some (.lst ((PyKm362.answers (nums ms)).map V.int)) → Q (.ref p) H'
/-- how many numbers are left -/
def mu (n : Nat) (σ : L2.St) : Nat := match σ[3]? with
  | some (some (V.int i)) => n - i.toNat
  | _ => 0
section
variable {P : Program} {w : World} {K : PySem.W.Frag} {mg : Str → Option Value} {base : Heap} {CD CS : Addr}
theorem numT_get : ∀ p, p < 8 → ([2, 2, 1, 1, 1, 2, 0, 0] : List Nat)[p]? = some (numT p) := by decide
theorem numT_le : ∀ p, p < 8 → numT p ≤ 2 := by decide
theorem scAns : FnScope ["calls", "desk", "told", "at", "number", "end", "found"] ["calls"] (defScope sAns) := ⟨rfl, rfl, rfl, by decide +kernel, rfl, by decide +kernel, by decide +kernel⟩
theorem ok_ans {f : Addr} {fd : FuncData} (F : Fun K "answers" "answers" sAns f fd) (T : TxD K CD) (hlen : mg "len" = none) {nt : Addr} (gN : mg "NUMBERS_TOLD" = some (.ref nt)) (hN : ∀ H : Hp, SqT K H nt (vi [2, 2, 1, 1, 1, 2, 0, 0]))
    (DI : InitOk P w K mg base 1 CD "Desk" ["self"] (spDI CD)) (DA : MethOk P w K mg base 8 CD "answer" ["self", "number", "args"] (spDAns CD CS)) : FnOk P w K mg base CX0 9 f fd ["calls"] (spAns K) := by
  obtain ⟨fI, fdI, GI, bI, MI, mI⟩ := DI
  obtain ⟨fA, fdA, GA, bA, mA⟩ := DA
  refine F.ok scAns (fun vs H Q E h => ?_) (fun cdv A outer s H vs Q E hr h => ?_)
  · obtain ⟨c, ms, rfl, _⟩ := h
    rfl
  · obtain ⟨c, ms, rfl, hc, hml, hask, q⟩ := h
    have r2 : Room 2 _ := hr.mono (by decide)
    refine ⟨_, pss_cons (ps_set (i := 1) scAns.nd rfl (Or.inl rfl) (pe_make0 MI GI r2 rfl mI bI .nil pass0))
      (pss_cons (ps_set (i := 2) scAns.nd rfl (Or.inl rfl) (pe_lst pa_nil))
      (pss_cons (ps_set (i := 3) scAns.nd rfl (Or.inl rfl) pe_int)
      (pss_cons (ps_while PassesOwn.never (pt_cmpR op_lt (pv 3) (pe_callB call_len_seq (by rfl) hlen PySem.boot_len (pa_cons (pv 0) pa_nil)) (nomark _))
        (pss_cons (ps_set (i := 4) scAns.nd rfl (Or.inl rfl) (pe_ix ix_list (pv 0) (pv 3) (fun _ _ => rfl)))
        (pss_cons (ps_set (i := 5) scAns.nd rfl (Or.inl rfl) (pe_op op_add (pe_op op_add (pv 3) pe_int) (pe_ix ix_tup (pe_glob (v := .ref nt) rfl gN rfl) (pv 4) (fun _ _ => rfl))))
        (pss_cons (ps_set (i := 6) scAns.nd rfl (Or.inl rfl) (pe_meth (pv 1) T.cl mA GA hr bA .nil pass0 (pa_cons (pv 4) (pa_cons (pe_slice sl_list (pv 0) (po_some (pe_op op_add (pv 3) pe_int)) (po_some (pv 5))) pa_nil))))
        (pss_cons (ps_set (i := 2) scAns.nd rfl (Or.inl rfl) (pe_op op_cat (pe_op op_cat (pv 2) (pe_lst (pa_cons (pe_callB call_len_seq (by rfl) hlen PySem.boot_len (pa_cons (pv 6) pa_nil)) pa_nil))) (pv 6)))
        (pss_one (ps_set (i := 3) scAns.nd rfl (Or.inl rfl) (pv 5))))))))
      (pss_one (ps_ret (pv 2)))))), ?_⟩
    -- the object is made
    intro d dx nd ndx ned
    refine ⟨d, dx, rfl, upd_same, fun H1 hd1 k1 => ⟨rfl, ?_⟩⟩
    have s1 : Same H H1 := fun z o e => k1 z o (by rw [upd_ne (ne_of_none e nd), upd_ne (ne_of_none e ndx)]; exact e) (by
      intro y
      have ey : z = d := by simpa using y
      exact ne_of_none e nd ey)
    refine ⟨Nat.zero_le _, fun t0 ht0 => ?_⟩
    refine while_by (fun σ H' => ∃ (i : Nat) (tl : Addr) (out : List Int) (S : List Addr) (ob : Option Book) (v4 v5 v6 : Option V), σ = [some (.ref c), some (.ref d), some (.ref tl), some (vn i), v4, v5, v6] ∧
        Same H H' ∧ (∀ z ∈ S, H z = none) ∧ DeskAt CD CS H' d ob S ∧ H' tl = some (.lst (out.map V.int)) ∧ tl ∉ S ∧ H tl = none ∧ i ≤ ms.length ∧ out.length ≤ 4 * i ∧ Run ms i ob out)
      (fun σ _ => mu ms.length σ) ?_ ?_ ?_
    · refine ⟨0, t0, [], [d], none, none, none, none, rfl, Same.new s1 (s1.free ht0), fun z hz => ?_, ⟨rfl, dx, ?_⟩, upd_same, ?_, s1.free ht0, Nat.zero_le _, Nat.zero_le _, run_start hask⟩
      · have ez : z = d := by simpa using hz
        rw [ez]
        exact nd
      · rw [upd_ne (ne_of_none hd1 ht0)]
        exact hd1
      · intro z
        have ez : t0 = d := by simpa using z
        exact ne_of_none hd1 ht0 ez.symm
    · rintro σ H' ⟨i, tl, out, S, ob, v4, v5, v6, rfl, s2, hS, hD, htl, ntl, tl0, hi, hol, R⟩
      have hc' : SqL K H' c (vi ms) := s2.seq hc
      refine ⟨_, rfl, _, rfl, c, _, rfl, .inl hc', _, _, rfl, rfl, _, rfl, ?_⟩
      rw [vi_len, lt_cast]
      by_cases hlt : i < ms.length
      · rw [decide_eq_true hlt]
        refine iteT ?_
        obtain ⟨p, x, hp, hp8, hend, hck, hst, R'⟩ := run_step R hlt
        have hnt := numT_le p hp8
        -- the call's number
        refine ⟨_, rfl, _, rfl, c, _, _, _, rfl, rfl, hc', atI_nat (vi_get hp), ?_⟩
        -- where the call ends
        refine ⟨_, rfl, _, _, rfl, rfl, _, rfl, nt, _, _, _, rfl, rfl, hN H', atI_nat (vi_get (numT_get p hp8)), _, _, rfl, rfl, ?_⟩
        -- the call itself
        have hdeskAt : ∃ dy v, H' d = some (.ins CD dy (dF v)) := by
          cases ob with
          | none =>
            obtain ⟨_, dy, hd⟩ := hD
            exact ⟨dy, _, hd⟩
          | some b =>
            obtain ⟨dy, a, l, _, hd, _⟩ := hD
            exact ⟨dy, _, hd⟩
        obtain ⟨dy, v, hdd⟩ := hdeskAt
        refine ⟨_, rfl, d, dy, _, rfl, hdd, dF_no _ (by decide +kernel), _, rfl, _, rfl, _, rfl, _, _, rfl, rfl, _, rfl, _, rfl, _, rfl, c, _, rfl, hc', fun g hg => ?_⟩
        have ecut := cut_eq hend
        have s3 : Same H' (upd H' g (.lst (cutV (vi ms) (some ((i : Int) + 1)) (some ((i : Int) + 1 + (numT p : Int)))))) := Same.new (Same.refl H') hg
        refine ⟨d, g, ob, S, p, _, x, rfl, hD.mono s3, ?_, hp8, hck, hst, fun H2 fp S2 hD2 k2 hS2 hfp nfp hfl => ?_⟩
        · rw [upd_same]
          exact congrArg (fun z => some (HO.lst z)) ecut
        have k3 : Keep S H' H2 := Keep.trans (Same.keep s3) k2
        have s4 : Same H H2 := fun z o e => k3 z o (s2 z o e) fun y => by
          rw [hS z y] at e
          cases e
        have htl2 : H2 tl = some (.lst (out.map V.int)) := k3 tl _ htl ntl
        have hS2' : ∀ z ∈ S2, H z = none := fun z hz => (hS2 z hz).elim (hS z) fun e => s2.free (s3.free e)
        have ntl2 : tl ∉ S2 := fun z => (hS2 tl z).elim ntl fun e => by
          rw [s3 _ _ htl] at e
          cases e
        have hx3 := told_short ob x
        generalize (xstep ob x).2 = ys at R' hfl hx3
        generalize (xstep ob x).1 = ob2 at R' hD2
        have hsz : (sizeLine : Nat) = 16777216 := by decide
        -- what is told grows
        refine ⟨_, rfl, _, rfl, fp, _, rfl, .inl (SqL.of hfl), (by show 1 ≤ sizeLine; decide), fun t1 ht1 => ?_⟩
        refine ⟨tl, t1, _, _, rfl, rfl, upd_keep htl2 ht1, upd_same, ?_, fun t2 ht2 => ?_⟩
        · rw [List.length_map]
          show out.length + 1 ≤ sizeLine
          omega
        have ht2' : H2 t2 = none := (Same.new (Same.refl H2) ht1).free ht2
        refine ⟨_, rfl, t2, fp, _, _, rfl, rfl, upd_same, upd_keep (upd_keep hfl ht1) ht2, ?_, fun t3 ht3 => ?_⟩
        · rw [List.length_append, List.length_map, List.length_map]
          show out.length + 1 + ys.length ≤ sizeLine
          omega
        have ht3' : H2 t3 = none := (Same.new (Same.new (Same.refl H2) ht1) ht2').free ht3
        have s5 : ∀ o1 o2 o3, Same H2 (upd (upd (upd H2 t1 o1) t2 o2) t3 o3) := fun o1 o2 o3 => Same.new (Same.new (Same.new (Same.refl H2) ht1) ht2') ht3'
        refine ⟨_, rfl, ⟨i + 1 + numT p, t3, out ++ (ys.length : Int) :: ys, S2, ob2, _, _, _, rfl, s4.trans (s5 _ _ _), hS2', hD2.mono (s5 _ _ _), ?_, fun z => hD2.there z ht3', s4.free ht3', hend, ?_, R'⟩, ?_⟩
        · rw [upd_same, List.map_append, List.map_cons, List.length_map, List.append_assoc]
          rfl
        · rw [List.length_append, List.length_cons]
          omega
        · show ms.length - ((i : Int) + 1 + (numT p : Int)).toNat < ms.length - (i : Int).toNat
          omega
      · rw [decide_eq_false hlt]
        refine iteF ?_
        have e := run_end R (by omega)
        subst e
        exact ⟨_, rfl, q H' tl htl⟩
    · rintro σ H' Q1 Q2 hQ ⟨v, hv, v2, hv2, p, ys, e, hs, i, j, ei, ej, k, ek, h⟩
      exact ⟨v, hv, v2, hv2, p, ys, e, hs, i, j, ei, ej, k, ek, hQ _ _ h⟩
end
end Wd

namespace Wd
open PySem PySem.Spec PyProof.Rows L2
open PySem.W (Codec)
/-! ### the end: what the top has written -/
theorem all_mk {P : Program} {w : World} {K : PySem.W.Frag} {h : Heap} {mg : Str → Option Value} {fa CS CD nt fp0 fp1 fp2 fp3 fp4 fp5 fp6 fp7 fs0 fs1 fs2 fs3 fs4 fs5 fs6 fs7 fd0 fd1 fd2 fd3 fd4 fd5 fd6 fd7 fd8 : Addr} (X : K.In h) (G : h.Ns mainGlobals mg) (hfa : mg "answers" = some (.ref fa))
    {odp0 anp0 odp1 anp1 odp2 anp2 odp3 anp3 odp4 anp4 odp5 anp5 odp6 anp6 odp7 anp7 ods0 ans0 ods1 ans1 ods2 ans2 ods3 ans3 ods4 ans4 ods5 ans5 ods6 ans6 ods7 ans7 odd0 and0 odd1 and1 odd2 and2 odd3 and3 odd4 and4 odd5 and5 odd6 and6 odd7 and7 odd8 and8 odN : Option Addr} {slp0 slp1 slp2 slp3 slp4 slp5 slp6 slp7 sls0 sls1 sls2 sls3 sls4 sls5 sls6 sls7 sld0 sld1 sld2 sld3 sld4 sld5 sld6 sld7 sld8 slN : Array (Option Value)}
    {ocp0 kVp0 dcp0 pmp0 cdp0 ctp0 ocp1 kVp1 dcp1 pmp1 cdp1 ctp1 ocp2 kVp2 dcp2 pmp2 cdp2 ctp2 ocp3 kVp3 dcp3 pmp3 cdp3 ctp3 ocp4 kVp4 dcp4 pmp4 cdp4 ctp4 ocp5 kVp5 dcp5 pmp5 cdp5 ctp5 ocp6 kVp6 dcp6 pmp6 cdp6 ctp6 ocp7 kVp7 dcp7 pmp7 cdp7 ctp7 ocs0 kVs0 dcs0 pms0 cds0 cts0 ocs1 kVs1 dcs1 pms1 cds1 cts1 ocs2 kVs2 dcs2 pms2 cds2 cts2 ocs3 kVs3 dcs3 pms3 cds3 cts3 ocs4 kVs4 dcs4 pms4 cds4 cts4 ocs5 kVs5 dcs5 pms5 cds5 cts5 ocs6 kVs6 dcs6 pms6 cds6 cts6 ocs7 kVs7 dcs7 pms7 cds7 cts7 ocd0 kVd0 dcd0 pmd0 cdd0 ctd0 ocd1 kVd1 dcd1 pmd1 cdd1 ctd1 ocd2 kVd2 dcd2 pmd2 cdd2 ctd2 ocd3 kVd3 dcd3 pmd3 cdd3 ctd3 ocd4 kVd4 dcd4 pmd4 cdd4 ctd4 ocd5 kVd5 dcd5 pmd5 cdd5 ctd5 ocd6 kVd6 dcd6 pmd6 cdd6 ctd6 ocd7 kVd7 dcd7 pmd7 cdd7 ctd7 ocd8 kVd8 dcd8 pmd8 cdd8 ctd8 : Value}
    {t0 t1 t2 t3 u0 u1 u2 u3 u4 u5 u6 u7 : Tok} {nN : Nat}
    (aCS : PySem.W.nsIn K mainGlobals "Strangers" = some (some (.ref CS)))
    (aCD : PySem.W.nsIn K mainGlobals "Desk" = some (some (.ref CD)))
    (ap0 : PySem.W.nsIn K mainGlobals "has" = some (some (.ref fp0)))
    (lp0 : K.lookup fp0 = some ⟨ocp0, odp0, .func (PySem.W.fnOf "has" "has" (defArgs sHas) (defBody sHas) (defScope sHas) .none kVp0 dcp0 pmp0 anp0 cdp0 ctp0), slp0⟩)
    (cp0 : PySem.W.codeIn K cdp0 "has" = true)
    (kp0 : PySem.W.keepIn K (.ref fp0) = true)
    (ap1 : PySem.W.nsIn K mainGlobals "members_of" = some (some (.ref fp1)))
    (lp1 : K.lookup fp1 = some ⟨ocp1, odp1, .func (PySem.W.fnOf "members_of" "members_of" (defArgs sMem) (defBody sMem) (defScope sMem) .none kVp1 dcp1 pmp1 anp1 cdp1 ctp1), slp1⟩)
    (cp1 : PySem.W.codeIn K cdp1 "members_of" = true)
    (kp1 : PySem.W.keepIn K (.ref fp1) = true)
    (ap2 : PySem.W.nsIn K mainGlobals "how_many" = some (some (.ref fp2)))
    (lp2 : K.lookup fp2 = some ⟨ocp2, odp2, .func (PySem.W.fnOf "how_many" "how_many" (defArgs sHow) (defBody sHow) (defScope sHow) .none kVp2 dcp2 pmp2 anp2 cdp2 ctp2), slp2⟩)
    (cp2 : PySem.W.codeIn K cdp2 "how_many" = true)
    (kp2 : PySem.W.keepIn K (.ref fp2) = true)
    (ap3 : PySem.W.nsIn K mainGlobals "is_set" = some (some (.ref fp3)))
    (lp3 : K.lookup fp3 = some ⟨ocp3, odp3, .func (PySem.W.fnOf "is_set" "is_set" (defArgs sIs) (defBody sIs) (defScope sIs) .none kVp3 dcp3 pmp3 anp3 cdp3 ctp3), slp3⟩)
    (cp3 : PySem.W.codeIn K cdp3 "is_set" = true)
    (kp3 : PySem.W.keepIn K (.ref fp3) = true)
    (ap4 : PySem.W.nsIn K mainGlobals "all_readings" = some (some (.ref fp4)))
    (lp4 : K.lookup fp4 = some ⟨ocp4, odp4, .func (PySem.W.fnOf "all_readings" "all_readings" (defArgs sAllR) (defBody sAllR) (defScope sAllR) .none kVp4 dcp4 pmp4 anp4 cdp4 ctp4), slp4⟩)
    (cp4 : PySem.W.codeIn K cdp4 "all_readings" = true)
    (kp4 : PySem.W.keepIn K (.ref fp4) = true)
    (ap5 : PySem.W.nsIn K mainGlobals "meant" = some (some (.ref fp5)))
    (lp5 : K.lookup fp5 = some ⟨ocp5, odp5, .func (PySem.W.fnOf "meant" "meant" (defArgs sMeant) (defBody sMeant) (defScope sMeant) .none kVp5 dcp5 pmp5 anp5 cdp5 ctp5), slp5⟩)
    (cp5 : PySem.W.codeIn K cdp5 "meant" = true)
    (kp5 : PySem.W.keepIn K (.ref fp5) = true)
    (ap6 : PySem.W.nsIn K mainGlobals "is_mistaken" = some (some (.ref fp6)))
    (lp6 : K.lookup fp6 = some ⟨ocp6, odp6, .func (PySem.W.fnOf "is_mistaken" "is_mistaken" (defArgs sMis) (defBody sMis) (defScope sMis) .none kVp6 dcp6 pmp6 anp6 cdp6 ctp6), slp6⟩)
    (cp6 : PySem.W.codeIn K cdp6 "is_mistaken" = true)
    (kp6 : PySem.W.keepIn K (.ref fp6) = true)
    (ap7 : PySem.W.nsIn K mainGlobals "answers" = some (some (.ref fp7)))
    (lp7 : K.lookup fp7 = some ⟨ocp7, odp7, .func (PySem.W.fnOf "answers" "answers" (defArgs sAns) (defBody sAns) (defScope sAns) .none kVp7 dcp7 pmp7 anp7 cdp7 ctp7), slp7⟩)
    (cp7 : PySem.W.codeIn K cdp7 "answers" = true)
    (kp7 : PySem.W.keepIn K (.ref fp7) = true)
    (as0 : PySem.W.findIn K (.ref CS) "__init__" = some (some (.ref fs0)))
    (is0 : PySem.W.isFn K (.ref fs0) = true)
    (ls0 : K.lookup fs0 = some ⟨ocs0, ods0, .func (PySem.W.fnOf "__init__" "Strangers.__init__" (defArgs sSI) (defBody sSI) (defScope sSI) .none kVs0 dcs0 pms0 ans0 cds0 cts0), sls0⟩)
    (cs0 : PySem.W.codeIn K cds0 "Strangers.__init__" = true)
    (ks0 : PySem.W.keepIn K (.ref fs0) = true)
    (as1 : PySem.W.findIn K (.ref CS) "mistakes" = some (some (.ref fs1)))
    (is1 : PySem.W.isFn K (.ref fs1) = true)
    (ls1 : K.lookup fs1 = some ⟨ocs1, ods1, .func (PySem.W.fnOf "mistakes" "Strangers.mistakes" (defArgs sSMis) (defBody sSMis) (defScope sSMis) .none kVs1 dcs1 pms1 ans1 cds1 cts1), sls1⟩)
    (cs1 : PySem.W.codeIn K cds1 "Strangers.mistakes" = true)
    (ks1 : PySem.W.keepIn K (.ref fs1) = true)
    (as2 : PySem.W.findIn K (.ref CS) "add" = some (some (.ref fs2)))
    (is2 : PySem.W.isFn K (.ref fs2) = true)
    (ls2 : K.lookup fs2 = some ⟨ocs2, ods2, .func (PySem.W.fnOf "add" "Strangers.add" (defArgs sSAdd) (defBody sSAdd) (defScope sSAdd) .none kVs2 dcs2 pms2 ans2 cds2 cts2), sls2⟩)
    (cs2 : PySem.W.codeIn K cds2 "Strangers.add" = true)
    (ks2 : PySem.W.keepIn K (.ref fs2) = true)
    (as3 : PySem.W.findIn K (.ref CS) "meanings" = some (some (.ref fs3)))
    (is3 : PySem.W.isFn K (.ref fs3) = true)
    (ls3 : K.lookup fs3 = some ⟨ocs3, ods3, .func (PySem.W.fnOf "meanings" "Strangers.meanings" (defArgs sSMea) (defBody sSMea) (defScope sSMea) .none kVs3 dcs3 pms3 ans3 cds3 cts3), sls3⟩)
    (cs3 : PySem.W.codeIn K cds3 "Strangers.meanings" = true)
    (ks3 : PySem.W.keepIn K (.ref fs3) = true)
    (as4 : PySem.W.findIn K (.ref CS) "said" = some (some (.ref fs4)))
    (is4 : PySem.W.isFn K (.ref fs4) = true)
    (ls4 : K.lookup fs4 = some ⟨ocs4, ods4, .func (PySem.W.fnOf "said" "Strangers.said" (defArgs sSSaid) (defBody sSSaid) (defScope sSSaid) .none kVs4 dcs4 pms4 ans4 cds4 cts4), sls4⟩)
    (cs4 : PySem.W.codeIn K cds4 "Strangers.said" = true)
    (ks4 : PySem.W.keepIn K (.ref fs4) = true)
    (as5 : PySem.W.findIn K (.ref CS) "sureness" = some (some (.ref fs5)))
    (is5 : PySem.W.isFn K (.ref fs5) = true)
    (ls5 : K.lookup fs5 = some ⟨ocs5, ods5, .func (PySem.W.fnOf "sureness" "Strangers.sureness" (defArgs sSSure) (defBody sSSure) (defScope sSSure) .none kVs5 dcs5 pms5 ans5 cds5 cts5), sls5⟩)
    (cs5 : PySem.W.codeIn K cds5 "Strangers.sureness" = true)
    (ks5 : PySem.W.keepIn K (.ref fs5) = true)
    (as6 : PySem.W.findIn K (.ref CS) "apart" = some (some (.ref fs6)))
    (is6 : PySem.W.isFn K (.ref fs6) = true)
    (ls6 : K.lookup fs6 = some ⟨ocs6, ods6, .func (PySem.W.fnOf "apart" "Strangers.apart" (defArgs sSApart) (defBody sSApart) (defScope sSApart) .none kVs6 dcs6 pms6 ans6 cds6 cts6), sls6⟩)
    (cs6 : PySem.W.codeIn K cds6 "Strangers.apart" = true)
    (ks6 : PySem.W.keepIn K (.ref fs6) = true)
    (as7 : PySem.W.findIn K (.ref CS) "open_word" = some (some (.ref fs7)))
    (is7 : PySem.W.isFn K (.ref fs7) = true)
    (ls7 : K.lookup fs7 = some ⟨ocs7, ods7, .func (PySem.W.fnOf "open_word" "Strangers.open_word" (defArgs sSOpen) (defBody sSOpen) (defScope sSOpen) .none kVs7 dcs7 pms7 ans7 cds7 cts7), sls7⟩)
    (cs7 : PySem.W.codeIn K cds7 "Strangers.open_word" = true)
    (ks7 : PySem.W.keepIn K (.ref fs7) = true)
    (ad0 : PySem.W.findIn K (.ref CD) "__init__" = some (some (.ref fd0)))
    (id0 : PySem.W.isFn K (.ref fd0) = true)
    (ld0 : K.lookup fd0 = some ⟨ocd0, odd0, .func (PySem.W.fnOf "__init__" "Desk.__init__" (defArgs sDI) (defBody sDI) (defScope sDI) .none kVd0 dcd0 pmd0 and0 cdd0 ctd0), sld0⟩)
    (cd0 : PySem.W.codeIn K cdd0 "Desk.__init__" = true)
    (kd0 : PySem.W.keepIn K (.ref fd0) = true)
    (ad1 : PySem.W.findIn K (.ref CD) "start" = some (some (.ref fd1)))
    (id1 : PySem.W.isFn K (.ref fd1) = true)
    (ld1 : K.lookup fd1 = some ⟨ocd1, odd1, .func (PySem.W.fnOf "start" "Desk.start" (defArgs sDStart) (defBody sDStart) (defScope sDStart) .none kVd1 dcd1 pmd1 and1 cdd1 ctd1), sld1⟩)
    (cd1 : PySem.W.codeIn K cdd1 "Desk.start" = true)
    (kd1 : PySem.W.keepIn K (.ref fd1) = true)
    (ad2 : PySem.W.findIn K (.ref CD) "talk" = some (some (.ref fd2)))
    (id2 : PySem.W.isFn K (.ref fd2) = true)
    (ld2 : K.lookup fd2 = some ⟨ocd2, odd2, .func (PySem.W.fnOf "talk" "Desk.talk" (defArgs sDTalk) (defBody sDTalk) (defScope sDTalk) .none kVd2 dcd2 pmd2 and2 cdd2 ctd2), sld2⟩)
    (cd2 : PySem.W.codeIn K cdd2 "Desk.talk" = true)
    (kd2 : PySem.W.keepIn K (.ref fd2) = true)
    (ad3 : PySem.W.findIn K (.ref CD) "means" = some (some (.ref fd3)))
    (id3 : PySem.W.isFn K (.ref fd3) = true)
    (ld3 : K.lookup fd3 = some ⟨ocd3, odd3, .func (PySem.W.fnOf "means" "Desk.means" (defArgs sDMeans) (defBody sDMeans) (defScope sDMeans) .none kVd3 dcd3 pmd3 and3 cdd3 ctd3), sld3⟩)
    (cd3 : PySem.W.codeIn K cdd3 "Desk.means" = true)
    (kd3 : PySem.W.keepIn K (.ref fd3) = true)
    (ad4 : PySem.W.findIn K (.ref CD) "says" = some (some (.ref fd4)))
    (id4 : PySem.W.isFn K (.ref fd4) = true)
    (ld4 : K.lookup fd4 = some ⟨ocd4, odd4, .func (PySem.W.fnOf "says" "Desk.says" (defArgs sDSays) (defBody sDSays) (defScope sDSays) .none kVd4 dcd4 pmd4 and4 cdd4 ctd4), sld4⟩)
    (cd4 : PySem.W.codeIn K cdd4 "Desk.says" = true)
    (kd4 : PySem.W.keepIn K (.ref fd4) = true)
    (ad5 : PySem.W.findIn K (.ref CD) "mistaken" = some (some (.ref fd5)))
    (id5 : PySem.W.isFn K (.ref fd5) = true)
    (ld5 : K.lookup fd5 = some ⟨ocd5, odd5, .func (PySem.W.fnOf "mistaken" "Desk.mistaken" (defArgs sDMis) (defBody sDMis) (defScope sDMis) .none kVd5 dcd5 pmd5 and5 cdd5 ctd5), sld5⟩)
    (cd5 : PySem.W.codeIn K cdd5 "Desk.mistaken" = true)
    (kd5 : PySem.W.keepIn K (.ref fd5) = true)
    (ad6 : PySem.W.findIn K (.ref CD) "apart" = some (some (.ref fd6)))
    (id6 : PySem.W.isFn K (.ref fd6) = true)
    (ld6 : K.lookup fd6 = some ⟨ocd6, odd6, .func (PySem.W.fnOf "apart" "Desk.apart" (defArgs sDApart) (defBody sDApart) (defScope sDApart) .none kVd6 dcd6 pmd6 and6 cdd6 ctd6), sld6⟩)
    (cd6 : PySem.W.codeIn K cdd6 "Desk.apart" = true)
    (kd6 : PySem.W.keepIn K (.ref fd6) = true)
    (ad7 : PySem.W.findIn K (.ref CD) "ask" = some (some (.ref fd7)))
    (id7 : PySem.W.isFn K (.ref fd7) = true)
    (ld7 : K.lookup fd7 = some ⟨ocd7, odd7, .func (PySem.W.fnOf "ask" "Desk.ask" (defArgs sDAsk) (defBody sDAsk) (defScope sDAsk) .none kVd7 dcd7 pmd7 and7 cdd7 ctd7), sld7⟩)
    (cd7 : PySem.W.codeIn K cdd7 "Desk.ask" = true)
    (kd7 : PySem.W.keepIn K (.ref fd7) = true)
    (ad8 : PySem.W.findIn K (.ref CD) "answer" = some (some (.ref fd8)))
    (id8 : PySem.W.isFn K (.ref fd8) = true)
    (ld8 : K.lookup fd8 = some ⟨ocd8, odd8, .func (PySem.W.fnOf "answer" "Desk.answer" (defArgs sDAns) (defBody sDAns) (defScope sDAns) .none kVd8 dcd8 pmd8 and8 cdd8 ctd8), sld8⟩)
    (cd8 : PySem.W.codeIn K cdd8 "Desk.answer" = true)
    (kd8 : PySem.W.keepIn K (.ref fd8) = true)
    (pgCS : PySem.W.plainGet K CS Str.empty = true)
    (hdCS : PySem.W.hasDictIn K CS = true)
    (poCS : PySem.W.plainOver K CS = true)
    (saCS : PySem.W.findIn K (.ref CS) "__setattr__" = some (some (.builtin "object.__setattr__")))
    (mkCS : PySem.W.makesIn K CS = true)
    (kcCS : PySem.W.keepIn K (.ref CS) = true)
    (nCS_many : PySem.W.findIn K (.ref CS) "many" = some none)
    (nCS_faults : PySem.W.findIn K (.ref CS) "faults" = some none)
    (nCS_talks : PySem.W.findIn K (.ref CS) "talks" = some none)
    (nCS_readings : PySem.W.findIn K (.ref CS) "readings" = some none)
    (pgCD : PySem.W.plainGet K CD Str.empty = true)
    (hdCD : PySem.W.hasDictIn K CD = true)
    (poCD : PySem.W.plainOver K CD = true)
    (saCD : PySem.W.findIn K (.ref CD) "__setattr__" = some (some (.builtin "object.__setattr__")))
    (mkCD : PySem.W.makesIn K CD = true)
    (kcCD : PySem.W.keepIn K (.ref CD) = true)
    (nCD_strangers : PySem.W.findIn K (.ref CD) "strangers" = some none)
    (z_len : PySem.W.nsIn K mainGlobals "len" = some none)
    (z_range : PySem.W.nsIn K mainGlobals "range" = some none)
    (z_sum : PySem.W.nsIn K mainGlobals "sum" = some none)
    (z_int : PySem.W.nsIn K mainGlobals "int" = some none)
    (cst0 : PySem.W.nsIn K mainGlobals "LEAST_WORDS" = some (some (.int 2 t0)))
    (cst1 : PySem.W.nsIn K mainGlobals "MOST_WORDS" = some (some (.int 6 t1)))
    (cst2 : PySem.W.nsIn K mainGlobals "MOST_FAULTS" = some (some (.int 3 t2)))
    (cst3 : PySem.W.nsIn K mainGlobals "MOST_TALKS" = some (some (.int 24 t3)))
    (cstN : PySem.W.nsIn K mainGlobals "NUMBERS_TOLD" = some (some (.ref nt)))
    (lN : K.lookup nt = some ⟨.type "tuple", odN, .seq #[.int 2 u0, .int 2 u1, .int 1 u2, .int 1 u3, .int 1 u4, .int 2 u5, .int 0 u6, .int 0 u7] nN, slN⟩)
    : ∃ fd : FuncData, (∀ (s : Shared) (us : List Value), us.length = (["calls"] : List Str).length → BindsTo s fd ⟨us, []⟩ ((["calls"] : List Str).zip us)) ∧ ∀ base : Heap, K.In base → base.Ns mainGlobals mg → FnOk P w K mg base CX0 9 fa fd ["calls"] (spAns K) := by
  have e := hfa.symm.trans (PySem.W.mg_of X G ap7)
  cases e
  have TS : TxS K CS := ⟨⟨pgCS, hdCS, poCS, saCS⟩, nCS_many, nCS_faults, nCS_talks, nCS_readings⟩
  have TD : TxD K CD := ⟨⟨pgCD, hdCD, poCD, saCD⟩, nCD_strangers⟩
  have m_len := PySem.W.mg_none_of X G z_len
  have m_range := PySem.W.mg_none_of X G z_range
  have m_sum := PySem.W.mg_none_of X G z_sum
  have m_int := PySem.W.mg_none_of X G z_int
  have Fp0 := fun_mk (st := sHas) lp0 cp0 kp0
  have bp0 := Fp0.binds (ps := ["some", "number"]) fun _ _ _ _ _ _ us hl => match us, hl with | [_, _], _ => rfl
  have Fp1 := fun_mk (st := sMem) lp1 cp1 kp1
  have bp1 := Fp1.binds (ps := ["some"]) fun _ _ _ _ _ _ us hl => match us, hl with | [_], _ => rfl
  have Fp2 := fun_mk (st := sHow) lp2 cp2 kp2
  have bp2 := Fp2.binds (ps := ["some"]) fun _ _ _ _ _ _ us hl => match us, hl with | [_], _ => rfl
  have Fp3 := fun_mk (st := sIs) lp3 cp3 kp3
  have bp3 := Fp3.binds (ps := ["some", "many"]) fun _ _ _ _ _ _ us hl => match us, hl with | [_, _], _ => rfl
  have Fp4 := fun_mk (st := sAllR) lp4 cp4 kp4
  have bp4 := Fp4.binds (ps := ["many"]) fun _ _ _ _ _ _ us hl => match us, hl with | [_], _ => rfl
  have Fp5 := fun_mk (st := sMeant) lp5 cp5 kp5
  have bp5 := Fp5.binds (ps := ["reading", "words"]) fun _ _ _ _ _ _ us hl => match us, hl with | [_, _], _ => rfl
  have Fp6 := fun_mk (st := sMis) lp6 cp6 kp6
  have bp6 := Fp6.binds (ps := ["reading", "talk"]) fun _ _ _ _ _ _ us hl => match us, hl with | [_, _], _ => rfl
  have Fp7 := fun_mk (st := sAns) lp7 cp7 kp7
  have Fs0 := fun_mk (st := sSI) ls0 cs0 ks0
  have bs0 := Fs0.binds (ps := ["self", "many", "faults"]) fun _ _ _ _ _ _ us hl => match us, hl with | [_, _, _], _ => rfl
  have Fs1 := fun_mk (st := sSMis) ls1 cs1 ks1
  have bs1 := Fs1.binds (ps := ["self", "reading"]) fun _ _ _ _ _ _ us hl => match us, hl with | [_, _], _ => rfl
  have Fs2 := fun_mk (st := sSAdd) ls2 cs2 ks2
  have bs2 := Fs2.binds (ps := ["self", "words", "things"]) fun _ _ _ _ _ _ us hl => match us, hl with | [_, _, _], _ => rfl
  have Fs3 := fun_mk (st := sSMea) ls3 cs3 ks3
  have bs3 := Fs3.binds (ps := ["self", "word"]) fun _ _ _ _ _ _ us hl => match us, hl with | [_, _], _ => rfl
  have Fs4 := fun_mk (st := sSSaid) ls4 cs4 ks4
  have bs4 := Fs4.binds (ps := ["self", "words"]) fun _ _ _ _ _ _ us hl => match us, hl with | [_, _], _ => rfl
  have Fs5 := fun_mk (st := sSSure) ls5 cs5 ks5
  have bs5 := Fs5.binds (ps := ["self", "number"]) fun _ _ _ _ _ _ us hl => match us, hl with | [_, _], _ => rfl
  have Fs6 := fun_mk (st := sSApart) ls6 cs6 ks6
  have bs6 := Fs6.binds (ps := ["self", "one", "other"]) fun _ _ _ _ _ _ us hl => match us, hl with | [_, _, _], _ => rfl
  have Fs7 := fun_mk (st := sSOpen) ls7 cs7 ks7
  have bs7 := Fs7.binds (ps := ["self"]) fun _ _ _ _ _ _ us hl => match us, hl with | [_], _ => rfl
  have Fd0 := fun_mk (st := sDI) ld0 cd0 kd0
  have bd0 := Fd0.binds (ps := ["self"]) fun _ _ _ _ _ _ us hl => match us, hl with | [_], _ => rfl
  have Fd1 := fun_mk (st := sDStart) ld1 cd1 kd1
  have bd1 := Fd1.binds (ps := ["self", "many", "faults"]) fun _ _ _ _ _ _ us hl => match us, hl with | [_, _, _], _ => rfl
  have Fd2 := fun_mk (st := sDTalk) ld2 cd2 kd2
  have bd2 := Fd2.binds (ps := ["self", "words", "things"]) fun _ _ _ _ _ _ us hl => match us, hl with | [_, _, _], _ => rfl
  have Fd3 := fun_mk (st := sDMeans) ld3 cd3 kd3
  have bd3 := Fd3.binds (ps := ["self", "word"]) fun _ _ _ _ _ _ us hl => match us, hl with | [_, _], _ => rfl
  have Fd4 := fun_mk (st := sDSays) ld4 cd4 kd4
  have bd4 := Fd4.binds (ps := ["self", "words"]) fun _ _ _ _ _ _ us hl => match us, hl with | [_, _], _ => rfl
  have Fd5 := fun_mk (st := sDMis) ld5 cd5 kd5
  have bd5 := Fd5.binds (ps := ["self", "number"]) fun _ _ _ _ _ _ us hl => match us, hl with | [_, _], _ => rfl
  have Fd6 := fun_mk (st := sDApart) ld6 cd6 kd6
  have bd6 := Fd6.binds (ps := ["self", "one", "other"]) fun _ _ _ _ _ _ us hl => match us, hl with | [_, _, _], _ => rfl
  have Fd7 := fun_mk (st := sDAsk) ld7 cd7 kd7
  have bd7 := Fd7.binds (ps := ["self"]) fun _ _ _ _ _ _ us hl => match us, hl with | [_], _ => rfl
  have Fd8 := fun_mk (st := sDAns) ld8 cd8 kd8
  have bd8 := Fd8.binds (ps := ["self", "number", "args"]) fun _ _ _ _ _ _ us hl => match us, hl with | [_, _, _], _ => rfl
  have hN : ∀ H : Hp, SqT K H nt (vi [2, 2, 1, 1, 1, 2, 0, 0]) := fun H => .inr ⟨_, _, _, lN, rfl, rfl, (by show 8 ≤ sizeLine; decide), .cons ⟨_, rfl⟩ (.cons ⟨_, rfl⟩ (.cons ⟨_, rfl⟩ (.cons ⟨_, rfl⟩ (.cons ⟨_, rfl⟩ (.cons ⟨_, rfl⟩ (.cons ⟨_, rfl⟩ (.cons ⟨_, rfl⟩ .nil)))))))⟩
  refine ⟨PySem.W.fnOf "answers" "answers" (defArgs sAns) (defBody sAns) (defScope sAns) .none kVp7 dcp7 pmp7 anp7 cdp7 ctp7, fun s us hu => match us, hu with | [_], _ => .of_eq rfl, fun base _ _ => ?_⟩
  have oHas : DefOk P w K mg base 1 "has" ["some", "number"] spHas := ⟨_, _, ok_has Fp0, kp0, bp0, PySem.W.mg_of X G ap0⟩
  have oMem : DefOk P w K mg base 2 "members_of" ["some"] spMem := ⟨_, _, ok_mem Fp1 m_range oHas, kp1, bp1, PySem.W.mg_of X G ap1⟩
  have oHow : DefOk P w K mg base 3 "how_many" ["some"] spHow := ⟨_, _, ok_how Fp2 m_len oMem, kp2, bp2, PySem.W.mg_of X G ap2⟩
  have oIs : DefOk P w K mg base 1 "is_set" ["some", "many"] spIs := ⟨_, _, ok_is Fp3, kp3, bp3, PySem.W.mg_of X G ap3⟩
  have oAllR : DefOk P w K mg base 1 "all_readings" ["many"] spAllR := ⟨_, _, ok_allr Fp4 m_range, kp4, bp4, PySem.W.mg_of X G ap4⟩
  have oMeant : DefOk P w K mg base 3 "meant" ["reading", "words"] spMeant := ⟨_, _, ok_meant Fp5 m_sum oMem, kp5, bp5, PySem.W.mg_of X G ap5⟩
  have oMis : DefOk P w K mg base 4 "is_mistaken" ["reading", "talk"] spMis := ⟨_, _, ok_mis Fp6 oMeant, kp6, bp6, PySem.W.mg_of X G ap6⟩
  have oSI : InitOk P w K mg base 2 CS "Strangers" ["self", "many", "faults"] (spSI CS) := ⟨_, _, ok_si Fs0 TS oAllR, bs0, ⟨mkCS, as0, is0, kcCS⟩, PySem.W.mg_of X G aCS⟩
  have oSMis : MethOk P w K mg base 5 CS "mistakes" ["self", "reading"] (spSMis CS) := ⟨_, _, ok_smis Fs1 TS m_len oMis, bs1, ⟨as1, is1, ks1⟩⟩
  have oSAdd : MethOk P w K mg base 6 CS "add" ["self", "words", "things"] (spSAdd CS) := ⟨_, _, ok_sadd Fs2 TS oSMis, bs2, ⟨as2, is2, ks2⟩⟩
  have oSMea : MethOk P w K mg base 1 CS "meanings" ["self", "word"] (spSMea CS) := ⟨_, _, ok_smea Fs3 TS, bs3, ⟨as3, is3, ks3⟩⟩
  have oSSaid : MethOk P w K mg base 4 CS "said" ["self", "words"] (spSSaid CS) := ⟨_, _, ok_ssaid Fs4 TS oMeant, bs4, ⟨as4, is4, ks4⟩⟩
  have oSSure : MethOk P w K mg base 5 CS "sureness" ["self", "number"] (spSSure CS) := ⟨_, _, ok_ssure Fs5 TS m_len m_int oMis, bs5, ⟨as5, is5, ks5⟩⟩
  have oSApart : MethOk P w K mg base 2 CS "apart" ["self", "one", "other"] (spSApart CS) := ⟨_, _, ok_sapart Fs6 TS m_len oHas, bs6, ⟨as6, is6, ks6⟩⟩
  have oSOpen : MethOk P w K mg base 4 CS "open_word" ["self"] (spSOpen CS) := ⟨_, _, ok_sopen Fs7 TS m_range oHow oSMea, bs7, ⟨as7, is7, ks7⟩⟩
  have oDI : InitOk P w K mg base 1 CD "Desk" ["self"] (spDI CD) := ⟨_, _, ok_di Fd0 TD, bd0, ⟨mkCD, ad0, id0, kcCD⟩, PySem.W.mg_of X G aCD⟩
  have oDStart : MethOk P w K mg base 4 CD "start" ["self", "many", "faults"] (spDStart CD CS) := ⟨_, _, ok_dstart Fd1 TD (PySem.W.mg_of X G cst0) (PySem.W.mg_of X G cst1) (PySem.W.mg_of X G cst2) oSI, bd1, ⟨ad1, id1, kd1⟩⟩
  have oDTalk : MethOk P w K mg base 7 CD "talk" ["self", "words", "things"] (spDTalk CD CS) := ⟨_, _, ok_dtalk Fd2 TD TS m_len (PySem.W.mg_of X G cst3) oSAdd oIs, bd2, ⟨ad2, id2, kd2⟩⟩
  have oDMeans : MethOk P w K mg base 4 CD "means" ["self", "word"] (spD1 CD CS .means) := ⟨_, _, ok_dmeans Fd3 TD TS oSMea oHow, bd3, ⟨ad3, id3, kd3⟩⟩
  have oDSays : MethOk P w K mg base 5 CD "says" ["self", "words"] (spD1 CD CS .says) := ⟨_, _, ok_dsays Fd4 TD TS m_int oSSaid oIs, bd4, ⟨ad4, id4, kd4⟩⟩
  have oDMis : MethOk P w K mg base 6 CD "mistaken" ["self", "number"] (spD1 CD CS .mistaken) := ⟨_, _, ok_dmis Fd5 TD TS m_len oSSure, bd5, ⟨ad5, id5, kd5⟩⟩
  have oDApart : MethOk P w K mg base 3 CD "apart" ["self", "one", "other"] (spD2 CD CS .apart) := ⟨_, _, ok_dapart Fd6 TD TS oSApart, bd6, ⟨ad6, id6, kd6⟩⟩
  have oDAsk : MethOk P w K mg base 5 CD "ask" ["self"] (spD0 CD CS .ask) := ⟨_, _, ok_dask Fd7 TD TS oSOpen, bd7, ⟨ad7, id7, kd7⟩⟩
  have oDAns : MethOk P w K mg base 8 CD "answer" ["self", "number", "args"] (spDAns CD CS) := ⟨_, _, ok_dans Fd8 TD TS m_len oDStart oDTalk oDMeans oDSays oDMis oDApart oDAsk, bd8, ⟨ad8, id8, kd8⟩⟩
  exact ok_ans Fp7 TD m_len (PySem.W.mg_of X G cstN) hN oDI oDAns
theorem nums_nat : ∀ l : List Int, (∀ x ∈ l, 0 ≤ x) → nums (l.map Int.toNat) = l
  | [], _ => rfl
  | x :: l, h => by
    have e := nums_nat l fun y hy => h y (List.mem_cons_of_mem _ hy)
    have e0 := Int.toNat_of_nonneg (h x (List.mem_cons_self ..))
    show ((x.toNat : Nat) : Int) :: nums (l.map Int.toNat) = x :: l
    rw [e, e0]
end Wd
open PySem PySem.W PyProof.Rows
set_option maxRecDepth 100000 in
set_option maxHeartbeats 8000000 in
theorem PySem.Challenge.cw_strangetalk_s01_answers_holds : PySem.Challenge.rw_strangetalk_s01_answers.Holds := by
  w_on; k_headS; (case hw => exact ⟨[.list [.int 0, .int 2, .int 0]], by decide +kernel, by decide +kernel⟩)
  k_fillS
  refine L2.walk_specK (r := PySem.Challenge.rw_strangetalk_s01_answers) (k := 9) (CX := L2.CX0) (ps := ["calls"]) (sp := Wd.spAns) (by decide +kernel) rfl rfl ⟨rfl, by decide, by decide⟩ (fun w h Y => PySem.W.kIn_of Y) ?F ?S (fun _ _ _ _ z => z)
  case F =>
    intro w mg fa h Y KX G hmg
    refine' Wd.all_mk KX G hmg ?aCS ?aCD ?ap0 ?lp0 ?cp0 ?kp0 ?ap1 ?lp1 ?cp1 ?kp1 ?ap2 ?lp2 ?cp2 ?kp2 ?ap3 ?lp3 ?cp3 ?kp3 ?ap4 ?lp4 ?cp4 ?kp4 ?ap5 ?lp5 ?cp5 ?kp5 ?ap6 ?lp6 ?cp6 ?kp6 ?ap7 ?lp7 ?cp7 ?kp7 ?as0 ?is0 ?ls0 ?cs0 ?ks0 ?as1 ?is1 ?ls1 ?cs1 ?ks1 ?as2 ?is2 ?ls2 ?cs2 ?ks2 ?as3 ?is3 ?ls3 ?cs3 ?ks3 ?as4 ?is4 ?ls4 ?cs4 ?ks4 ?as5 ?is5 ?ls5 ?cs5 ?ks5 ?as6 ?is6 ?ls6 ?cs6 ?ks6 ?as7 ?is7 ?ls7 ?cs7 ?ks7 ?ad0 ?id0 ?ld0 ?cd0 ?kd0 ?ad1 ?id1 ?ld1 ?cd1 ?kd1 ?ad2 ?id2 ?ld2 ?cd2 ?kd2 ?ad3 ?id3 ?ld3 ?cd3 ?kd3 ?ad4 ?id4 ?ld4 ?cd4 ?kd4 ?ad5 ?id5 ?ld5 ?cd5 ?kd5 ?ad6 ?id6 ?ld6 ?cd6 ?kd6 ?ad7 ?id7 ?ld7 ?cd7 ?kd7 ?ad8 ?id8 ?ld8 ?cd8 ?kd8 ?pgCS ?hdCS ?poCS ?saCS ?mkCS ?kcCS ?nCS_many ?nCS_faults ?nCS_talks ?nCS_readings ?pgCD ?hdCD ?poCD ?saCD ?mkCD ?kcCD ?nCD_strangers ?z_len ?z_range ?z_sum ?z_int ?cst0 ?cst1 ?cst2 ?cst3 ?cstN ?lN
    (case aCS => k_is)
    (case aCD => k_is)
    (case ap0 => k_is)
    (case lp0 => k_is)
    (case cp0 => k_is)
    (case kp0 => k_is)
    (case ap1 => k_is)
    (case lp1 => k_is)
    (case cp1 => k_is)
    (case kp1 => k_is)
    (case ap2 => k_is)
    (case lp2 => k_is)
    (case cp2 => k_is)
    (case kp2 => k_is)
    (case ap3 => k_is)
    (case lp3 => k_is)
    (case cp3 => k_is)
    (case kp3 => k_is)
    (case ap4 => k_is)
    (case lp4 => k_is)
    (case cp4 => k_is)
    (case kp4 => k_is)
    (case ap5 => k_is)
    (case lp5 => k_is)
    (case cp5 => k_is)
    (case kp5 => k_is)
    (case ap6 => k_is)
    (case lp6 => k_is)
    (case cp6 => k_is)
    (case kp6 => k_is)
    (case ap7 => k_is)
    (case lp7 => k_is)
    (case cp7 => k_is)
    (case kp7 => k_is)
    (case as0 => k_is)
    (case is0 => k_is)
    (case ls0 => k_is)
    (case cs0 => k_is)
    (case ks0 => k_is)
    (case as1 => k_is)
    (case is1 => k_is)
    (case ls1 => k_is)
    (case cs1 => k_is)
    (case ks1 => k_is)
    (case as2 => k_is)
    (case is2 => k_is)
    (case ls2 => k_is)
    (case cs2 => k_is)
    (case ks2 => k_is)
    (case as3 => k_is)
    (case is3 => k_is)
    (case ls3 => k_is)
    (case cs3 => k_is)
    (case ks3 => k_is)
    (case as4 => k_is)
    (case is4 => k_is)
    (case ls4 => k_is)
    (case cs4 => k_is)
    (case ks4 => k_is)
    (case as5 => k_is)
    (case is5 => k_is)
    (case ls5 => k_is)
    (case cs5 => k_is)
    (case ks5 => k_is)
    (case as6 => k_is)
    (case is6 => k_is)
    (case ls6 => k_is)
    (case cs6 => k_is)
    (case ks6 => k_is)
    (case as7 => k_is)
    (case is7 => k_is)
    (case ls7 => k_is)
    (case cs7 => k_is)
    (case ks7 => k_is)
    (case ad0 => k_is)
    (case id0 => k_is)
    (case ld0 => k_is)
    (case cd0 => k_is)
    (case kd0 => k_is)
    (case ad1 => k_is)
    (case id1 => k_is)
    (case ld1 => k_is)
    (case cd1 => k_is)
    (case kd1 => k_is)
    (case ad2 => k_is)
    (case id2 => k_is)
    (case ld2 => k_is)
    (case cd2 => k_is)
    (case kd2 => k_is)
    (case ad3 => k_is)
    (case id3 => k_is)
    (case ld3 => k_is)
    (case cd3 => k_is)
    (case kd3 => k_is)
    (case ad4 => k_is)
    (case id4 => k_is)
    (case ld4 => k_is)
    (case cd4 => k_is)
    (case kd4 => k_is)
    (case ad5 => k_is)
    (case id5 => k_is)
    (case ld5 => k_is)
    (case cd5 => k_is)
    (case kd5 => k_is)
    (case ad6 => k_is)
    (case id6 => k_is)
    (case ld6 => k_is)
    (case cd6 => k_is)
    (case kd6 => k_is)
    (case ad7 => k_is)
    (case id7 => k_is)
    (case ld7 => k_is)
    (case cd7 => k_is)
    (case kd7 => k_is)
    (case ad8 => k_is)
    (case id8 => k_is)
    (case ld8 => k_is)
    (case cd8 => k_is)
    (case kd8 => k_is)
    (case pgCS => k_is)
    (case hdCS => k_is)
    (case poCS => k_is)
    (case saCS => k_is)
    (case mkCS => k_is)
    (case kcCS => k_is)
    (case nCS_many => k_is)
    (case nCS_faults => k_is)
    (case nCS_talks => k_is)
    (case nCS_readings => k_is)
    (case pgCD => k_is)
    (case hdCD => k_is)
    (case poCD => k_is)
    (case saCD => k_is)
    (case mkCD => k_is)
    (case kcCD => k_is)
    (case nCD_strangers => k_is)
    (case z_len => k_is)
    (case z_range => k_is)
    (case z_sum => k_is)
    (case z_int => k_is)
    (case cst0 => k_is)
    (case cst1 => k_is)
    (case cst2 => k_is)
    (case cst3 => k_is)
    (case cstN => k_is)
    (case lN => k_is)
  case S =>
    intro K H xs a hO hwi hask hx
    cases hx with
    | cons h1 h2 =>
      cases h2
      cases h1 with
      | lst hs ha =>
        have e := L2.ints_dw a.1 _ ha
        subst e
        have q : ((Codec.inLen 0 31700 a.1 && a.1.all (Codec.inInt 0 4294967295)) && true) = true := hwi
        rw [Bool.and_eq_true, Bool.and_eq_true] at q
        have nn : ∀ x ∈ a.1, 0 ≤ x := fun x hx => (Codec.inInt_iff.mp (List.all_eq_true.mp q.1.2 x hx)).1
        have en := Wd.nums_nat a.1 nn
        have hask' : PyKm362.answers_asked a.1 = true := hask
        refine ⟨_, a.1.map Int.toNat, rfl, ?_, ?_, ?_, fun H' p hp => ?_⟩
        · rw [Wd.vi_int, show (a.1.map Int.toNat).map (fun (k : Nat) => (k : Int)) = a.1 from en]
          exact hs
        · rw [List.length_map]
          exact (Codec.inNat_iff.mp q.1.1).2
        · rw [en]
          exact hask'
        · rw [en] at hp
          exact .lst (L2.SqL.of hp) (L2.dw_ints _)
#print axioms PySem.Challenge.cw_strangetalk_s01_answers_holds

