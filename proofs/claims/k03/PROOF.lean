import PyProof.Rows.All
import Wide.All
import OpenK.AllK
import Wide.FinOn
import KE.KStateDown
import HandS.ForMost
import HandS.Exc
import HandS.TryOnly
import HandS.ExcOwn
import HandS.WordsExc
import HandS.IsInst
import HandS.ExcIs
import HandS.Wide
import HandS.WideBits
import HandS.Defaults
import HandS.Flow
import HandS.Style
import HandS.SortInts
import HandS.EndBits
import HandS.HeadEnd
import HandS.Head0
import HandS.Head1
import HandS.Head2
import HandS.HeadHook1
import HandS.HeadHook2
import HandS.Conv
import HandS.DeepEq
import HandS.More
import HandS.Strs
import HandS.WordsDict
import HandS.Walk
import HandS.Text
import HandS.TupLen
import HandS.StrMore
import PySem.Challenge.RW_limbmap_k03_amounts_as_texts
set_option Elab.async false
set_option linter.all false
set_option maxRecDepth 100000
set_option maxHeartbeats 4000000
namespace Lim
/-! amounts: fractions in lowest terms are Rat -/
theorem gcd_fmod (a b : Int) : Int.gcd b (a.fmod b) = Int.gcd a b := by
  have h : a.fmod b = a + b * (-(a.fdiv b)) := by
    have := Int.fmod_add_mul_fdiv a b
    rw [Int.mul_neg]; omega
  rw [h, Int.gcd_add_mul_left_right, Int.gcd_comm]
theorem fmod_lt (a : Int) {b : Int} (h : b ≠ 0) : (a.fmod b).natAbs < b.natAbs := by
  rcases Int.lt_or_gt_of_ne h with hb | hb
  · have e := Int.neg_fmod_neg (-a) (-b)
    have h1 := Int.fmod_nonneg_of_pos (-a) (b := -b) (by omega)
    have h2 := Int.fmod_lt_of_pos (-a) (b := -b) (by omega)
    simp only [Int.neg_neg] at e
    omega
  · have h1 := Int.fmod_nonneg_of_pos a hb
    have h2 := Int.fmod_lt_of_pos a hb
    omega
theorem fdiv_of_dvd {a g : Int} (h : g ∣ a) : a.fdiv g = a / g := by
  exact Int.fdiv_eq_ediv_of_dvd h
/-- the greatest divisor with the lower one's sign -/
def share (t b : Int) : Int := if b < 0 then 0 - (Int.gcd t b : Int) else (Int.gcd t b : Int)
theorem share_dvd_left (t b : Int) : share t b ∣ t := by
  unfold share
  have := Int.gcd_dvd_left t b
  split
  · rw [Int.zero_sub]; exact Int.neg_dvd.mpr this
  · exact this
theorem share_dvd_right (t b : Int) : share t b ∣ b := by
  unfold share
  have := Int.gcd_dvd_right t b
  split
  · rw [Int.zero_sub]; exact Int.neg_dvd.mpr this
  · exact this
theorem share_ne {t b : Int} (h : b ≠ 0) : share t b ≠ 0 := by
  have : Int.gcd t b ≠ 0 := by
    rw [Ne, Int.gcd_eq_zero_iff]; omega
  unfold share; split <;> omega
theorem amount_num {t b : Int} (h : b ≠ 0) : t.fdiv (share t b) = (Rat.divInt t b).num := by
  rw [fdiv_of_dvd (share_dvd_left t b), Rat.num_divInt, Int.gcd_comm b t]
  unfold share
  rcases Int.lt_or_gt_of_ne h with hb | hb
  · rw [if_pos hb, Int.sign_eq_neg_one_of_neg hb, Int.zero_sub, Int.ediv_neg]
    rw [show (-1 : Int) * t = -t by omega, Int.neg_ediv_of_dvd (Int.gcd_dvd_left _ _)]
  · rw [if_neg (by omega), Int.sign_eq_one_of_pos hb, Int.one_mul]
theorem amount_den {t b : Int} (h : b ≠ 0) : b.fdiv (share t b) = ((Rat.divInt t b).den : Int) := by
  rw [fdiv_of_dvd (share_dvd_right t b), Rat.den_divInt, if_neg h, Int.gcd_comm b t]
  unfold share
  rcases Int.lt_or_gt_of_ne h with hb | hb
  · rw [if_pos hb, Int.zero_sub, Int.ediv_neg, Int.natCast_ediv, ← Int.neg_ediv_of_dvd (Int.gcd_dvd_right _ _)]
    congr 1; omega
  · rw [if_neg (by omega), Int.natCast_ediv]
    congr 1; omega
theorem divInt_add (p q : Rat) : Rat.divInt (p.num * (q.den : Int) + q.num * (p.den : Int)) ((p.den : Int) * (q.den : Int)) = p + q := by
  have h1 : (p.den : Int) ≠ 0 := by have := p.den_nz; omega
  have h2 : (q.den : Int) ≠ 0 := by have := q.den_nz; omega
  rw [← Rat.divInt_add_divInt _ _ h1 h2, Rat.num_divInt_den, Rat.num_divInt_den]
theorem divInt_sub (p q : Rat) : Rat.divInt (p.num * (q.den : Int) - q.num * (p.den : Int)) ((p.den : Int) * (q.den : Int)) = p - q := by
  have h1 : (p.den : Int) ≠ 0 := by have := p.den_nz; omega
  have h2 : (q.den : Int) ≠ 0 := by have := q.den_nz; omega
  rw [← Rat.divInt_sub_divInt _ _ h1 h2, Rat.num_divInt_den, Rat.num_divInt_den]
theorem divInt_half (p : Rat) : Rat.divInt p.num (2 * (p.den : Int)) = p / 2 := by
  have h1 : (p.den : Int) ≠ 0 := by have := p.den_nz; omega
  have e : p / 2 = Rat.divInt p.num p.den * Rat.divInt 1 2 := by
    rw [Rat.num_divInt_den, Rat.div_def, show Rat.divInt 1 2 = (2 : Rat)⁻¹ by rw [Rat.divInt_eq_div]; grind]
  rw [e, Rat.divInt_mul_divInt, Int.mul_one, Int.mul_comm]
theorem rat_lt (p q : Rat) : decide (p.num * (q.den : Int) < q.num * (p.den : Int)) = decide (p < q) := by
  rw [decide_eq_decide]; exact (Rat.lt_iff p q).symm
theorem den_ge (p : Rat) : (1 : Int) ≤ p.den := by have := p.den_pos; omega
theorem den_ne (p : Rat) : (p.den : Int) ≠ 0 := by have := p.den_pos; omega
theorem red (p : Rat) : Int.gcd p.num (p.den : Int) = 1 := by
  have := p.reduced
  rw [Int.gcd_eq_natAbs_gcd_natAbs, Int.natAbs_natCast]; exact this
/-- n over d, in lowest terms, is worth t over b -/
theorem worth {t b : Int} (hb : b ≠ 0) : (Rat.divInt t b).num * b = t * ((Rat.divInt t b).den : Int) := by
  have e := Rat.num_divInt_den (Rat.divInt t b)
  exact (Rat.divInt_eq_divInt_iff (den_ne _) hb).mp e
/-- lowest terms are told by their worth -/
theorem rat_of {n d : Int} (h1 : 1 ≤ d) (hg : Int.gcd n d = 1) : (Rat.divInt n d).num = n ∧ ((Rat.divInt n d).den : Int) = d := by
  rw [Rat.num_divInt, Rat.den_divInt, if_neg (by omega), Int.gcd_comm d n, hg, Int.sign_eq_one_of_pos (by omega)]
  constructor <;> simp <;> omega
end Lim
namespace Lim
/-! sizes -/
def Bit (n : Nat) (i : Int) : Prop := i.natAbs < 2 ^ n
theorem Bit.mono {n m : Nat} {i : Int} (h : Bit n i) (l : n ≤ m) : Bit m i := Nat.lt_of_lt_of_le h (Nat.pow_le_pow_right (by decide) l)
theorem Bit.le {n : Nat} {i j : Int} (h : Bit n j) (l : i.natAbs ≤ j.natAbs) : Bit n i := Nat.lt_of_le_of_lt l h
theorem Bit.mul {a b : Nat} {i j : Int} (ha : Bit a i) (hb : Bit b j) : Bit (a + b) (i * j) := by
  unfold Bit at *
  rw [Int.natAbs_mul, Nat.pow_add]
  exact Nat.mul_lt_mul'' ha hb
theorem Bit.add {a : Nat} {i j : Int} (ha : Bit a i) (hb : Bit a j) : Bit (a + 1) (i + j) := by
  unfold Bit at *
  rw [Nat.pow_succ]; omega
theorem Bit.sub {a : Nat} {i j : Int} (ha : Bit a i) (hb : Bit a j) : Bit (a + 1) (i - j) := by
  unfold Bit at *
  rw [Nat.pow_succ]; omega
theorem Bit.neg {a : Nat} {i : Int} (ha : Bit a i) : Bit a (0 - i) := by
  unfold Bit at *; omega
/-- by a decidable bound -/
theorem Bit.of {n : Nat} {i : Int} (B : Nat) (h : i.natAbs ≤ B) (hB : B < 2 ^ n) : Bit n i := Nat.lt_of_le_of_lt h hB
structure Sz (n : Nat) (q : Rat) : Prop where
  num : Bit n q.num
  den : Bit n (q.den : Int)
theorem Sz.mono {n m : Nat} {q : Rat} (h : Sz n q) (l : n ≤ m) : Sz m q := ⟨h.num.mono l, h.den.mono l⟩
theorem natAbs_ediv_le (a b : Int) : (a / b).natAbs ≤ a.natAbs := Int.natAbs_ediv_le_natAbs a b
theorem Sz.divInt {n : Nat} {t b : Int} (hb : b ≠ 0) (h1 : Bit n t) (h2 : Bit n b) : Sz n (Rat.divInt t b) := by
  constructor
  · rw [← amount_num hb, fdiv_of_dvd (share_dvd_left t b)]
    exact h1.le (natAbs_ediv_le _ _)
  · rw [← amount_den hb, fdiv_of_dvd (share_dvd_right t b)]
    exact h2.le (natAbs_ediv_le _ _)
theorem den_mul_ne (p q : Rat) : (p.den : Int) * (q.den : Int) ≠ 0 := Int.mul_ne_zero (den_ne p) (den_ne q)
theorem Sz.add {a b : Nat} {p q : Rat} (h1 : Sz a p) (h2 : Sz b q) : Sz (a + b + 1) (p + q) := by
  rw [← divInt_add p q]
  refine Sz.divInt (den_mul_ne p q) ?_ ?_
  · have e := (h2.num.mul h1.den); rw [Nat.add_comm] at e
    exact (h1.num.mul h2.den).add e
  · exact (h1.den.mul h2.den).mono (by omega)
theorem Sz.sub {a b : Nat} {p q : Rat} (h1 : Sz a p) (h2 : Sz b q) : Sz (a + b + 1) (p - q) := by
  rw [← divInt_sub p q]
  refine Sz.divInt (den_mul_ne p q) ?_ ?_
  · have e := (h2.num.mul h1.den); rw [Nat.add_comm] at e
    exact (h1.num.mul h2.den).sub e
  · exact (h1.den.mul h2.den).mono (by omega)
theorem Sz.zero : Sz 1 0 := ⟨by show (0:Int).natAbs < 2 ^ 1; decide, by show (1:Int).natAbs < 2 ^ 1; decide⟩
theorem share_le {t b : Int} (h : b ≠ 0) : (share t b).natAbs ≤ b.natAbs := by
  have := Int.natAbs_dvd_natAbs.mpr (share_dvd_right t b)
  exact Nat.le_of_dvd (by omega) this
theorem Sz.half {a : Nat} {p : Rat} (h : Sz a p) : Sz (a + 2) (p / 2) := by
  rw [← divInt_half p]
  refine Sz.divInt (by have := den_ne p; omega) (h.num.mono (by omega)) ?_
  have : Bit 2 2 := by unfold Bit; decide
  exact ((this.mul h.den).mono (by omega))
end Lim
namespace Lim
theorem or_xor_and (a b : Nat) : a ||| b = (a ^^^ b) + (a &&& b) := by
  induction a using Nat.strongRecOn generalizing b with
  | ind a ih =>
    by_cases h0 : a = 0
    · subst h0; simp
    · have h := ih (a / 2) (by omega) (b / 2)
      have e1 : (a ||| b) / 2 = a / 2 ||| b / 2 := Nat.or_div_two
      have e2 : (a ^^^ b) / 2 = a / 2 ^^^ b / 2 := Nat.xor_div_two
      have e3 : (a &&& b) / 2 = a / 2 &&& b / 2 := Nat.and_div_two
      have m1 := @Nat.or_mod_two_eq_one a b
      have m2 := @Nat.xor_mod_two_eq_one a b
      have m3 := @Nat.and_mod_two_eq_one a b
      rw [← e1, ← e2, ← e3] at h
      omega
theorem shr_one (n : Nat) : n >>> 1 = n / 2 := by rw [Nat.shiftRight_eq_div_pow]
theorem tb_and (m i : Nat) : ((m >>> i) &&& 1 = 1) ↔ m.testBit i = true := by
  rw [Nat.and_one_is_mod, Nat.shiftRight_eq_div_pow, Nat.testBit_eq_decide_div_mod_eq, decide_eq_true_eq]
/-! masks -/
section
variable {α : Type}
/-- the mask of those for which p holds, by their places -/
def mk (p : α → Bool) : List α → Nat
  | [] => 0
  | l :: r => (if p l then 1 else 0) + 2 * mk p r
/-- those whose places are set -/
def pick : List α → Nat → List α
  | [], _ => []
  | l :: r, m => if m % 2 = 1 then l :: pick r (m / 2) else pick r (m / 2)
/-- how many are set -/
def pc (n : Nat) : Nat := if h : n = 0 then 0 else n % 2 + pc (n / 2)
termination_by n
decreasing_by omega
theorem pc_zero : pc 0 = 0 := by rw [pc]; simp
theorem pc_step (n : Nat) : pc n = n % 2 + pc (n / 2) := by
  by_cases h : n = 0
  · subst h; rw [pc_zero]
  · rw [pc, dif_neg h]
theorem tb_zero (b : Bool) (m : Nat) : ((if b then 1 else 0) + 2 * m).testBit 0 = b := by
  rw [Nat.testBit_zero]
  cases b
  · simp
  · simp
theorem tb_succ (b : Bool) (m k : Nat) : ((if b then 1 else 0) + 2 * m).testBit (k + 1) = m.testBit k := by
  rw [Nat.testBit_succ]
  congr 1
  cases b <;> simp <;> omega
theorem mk_lt (p : α → Bool) : ∀ ls : List α, mk p ls < 2 ^ ls.length
  | [] => by simp [mk]
  | l :: r => by
    have := mk_lt p r
    rw [mk, List.length_cons, Nat.pow_succ]
    split <;> omega
theorem mk_bit (p : α → Bool) : ∀ (ls : List α) (k : Nat), (mk p ls).testBit k = match ls[k]? with
    | some l => p l
    | none => false
  | [], k => by simp [mk]
  | l :: r, 0 => by rw [mk, tb_zero]; rfl
  | l :: r, k + 1 => by rw [mk, tb_succ, mk_bit p r k]; rfl
theorem mk_bit_some {p : α → Bool} {ls : List α} {k : Nat} {l : α} (h : ls[k]? = some l) : (mk p ls).testBit k = p l := by rw [mk_bit, h]
theorem mk_bit_none {p : α → Bool} {ls : List α} {k : Nat} (h : ls.length ≤ k) : (mk p ls).testBit k = false := by rw [mk_bit, List.getElem?_eq_none h]
theorem mk_ext {p q : α → Bool} : ∀ {ls : List α}, (∀ l ∈ ls, p l = q l) → mk p ls = mk q ls
  | [], _ => rfl
  | l :: r, h => by rw [mk, mk, h l (List.mem_cons_self ..), mk_ext fun x hx => h x (List.mem_cons_of_mem _ hx)]
theorem mk_or (p q : α → Bool) (ls : List α) : mk (fun l => p l || q l) ls = mk p ls ||| mk q ls := by
  refine Nat.eq_of_testBit_eq fun k => ?_
  rw [Nat.testBit_or, mk_bit, mk_bit, mk_bit]
  cases ls[k]? <;> rfl
theorem mk_and (p q : α → Bool) (ls : List α) : mk (fun l => p l && q l) ls = mk p ls &&& mk q ls := by
  refine Nat.eq_of_testBit_eq fun k => ?_
  rw [Nat.testBit_and, mk_bit, mk_bit, mk_bit]
  cases ls[k]? <;> rfl
theorem mk_xor (p q : α → Bool) (ls : List α) : mk (fun l => p l != q l) ls = mk p ls ^^^ mk q ls := by
  refine Nat.eq_of_testBit_eq fun k => ?_
  rw [Nat.testBit_xor, mk_bit, mk_bit, mk_bit]
  cases ls[k]? <;> rfl
theorem mk_none (ls : List α) : mk (fun _ => false) ls = 0 := by
  refine Nat.eq_of_testBit_eq fun k => ?_
  rw [mk_bit, Nat.zero_testBit]
  cases ls[k]? <;> rfl
theorem mk_all (ls : List α) : mk (fun _ => true) ls = 2 ^ ls.length - 1 := by
  refine Nat.eq_of_testBit_eq fun k => ?_
  rw [mk_bit, Nat.testBit_two_pow_sub_one]
  by_cases h : k < ls.length
  · rw [List.getElem?_eq_getElem h, decide_eq_true h]
  · rw [List.getElem?_eq_none (by omega), decide_eq_false h]
theorem nodup_at {ls : List α} (hn : ls.Nodup) {i j : Nat} {x : α} (h1 : ls[i]? = some x) (h2 : ls[j]? = some x) : i = j := by
  obtain ⟨l1, e1⟩ := List.getElem?_eq_some_iff.mp h1
  obtain ⟨l2, e2⟩ := List.getElem?_eq_some_iff.mp h2
  exact (List.getElem_inj hn).mp (e1.trans e2.symm)
theorem mk_one [DecidableEq α] {ls : List α} (hn : ls.Nodup) {j : Nat} {x : α} (h : ls[j]? = some x) : mk (fun l => decide (l = x)) ls = 2 ^ j := by
  refine Nat.eq_of_testBit_eq fun k => ?_
  rw [Nat.testBit_two_pow]
  cases e : ls[k]? with
  | none =>
    rw [mk_bit, e]
    symm
    refine decide_eq_false fun z => ?_
    subst z; rw [h] at e; cases e
  | some l =>
    rw [mk_bit_some e]
    by_cases hl : l = x
    · subst hl
      rw [decide_eq_true rfl, decide_eq_true (nodup_at hn h e)]
    · rw [decide_eq_false hl]
      symm
      refine decide_eq_false fun z => ?_
      subst z; rw [h] at e; cases e; exact hl rfl
theorem mk_snoc (p : α → Bool) (x : α) : ∀ ls : List α, mk p (ls ++ [x]) = mk p ls + if p x then 2 ^ ls.length else 0
  | [] => by simp [mk]
  | l :: r => by
    rw [List.cons_append, mk, mk, mk_snoc p x r, List.length_cons, Nat.pow_succ]
    split <;> split <;> omega
theorem mk_add {p q : α → Bool} : ∀ {ls : List α}, (∀ l ∈ ls, (p l && q l) = false) → mk (fun l => p l || q l) ls = mk p ls + mk q ls
  | [], _ => rfl
  | l :: r, h => by
    have h1 := h l (List.mem_cons_self ..)
    rw [mk, mk, mk, mk_add fun x hx => h x (List.mem_cons_of_mem _ hx)]
    cases hp : p l <;> cases hq : q l <;> simp [hp, hq] at h1 ⊢ <;> omega
theorem pick_sub : ∀ (ls : List α) (m : Nat), (pick ls m).Sublist ls
  | [], _ => .slnil
  | l :: r, m => by
    rw [pick]
    split
    · exact (pick_sub r _).cons_cons l
    · exact (pick_sub r _).cons l
theorem pick_nodup {ls : List α} (hn : ls.Nodup) (m : Nat) : (pick ls m).Nodup := hn.sublist (pick_sub ls m)
theorem pick_mem' : ∀ {ls : List α} {m : Nat} {x : α}, x ∈ pick ls m ↔ ∃ k, ls[k]? = some x ∧ m.testBit k = true
  | [], m, x => by simp [pick]
  | l :: r, m, x => by
    have ih := pick_mem' (ls := r) (m := m / 2) (x := x)
    have tb : ∀ k, (m / 2).testBit k = m.testBit (k + 1) := fun k => (Nat.testBit_succ m k).symm
    have t0 : m.testBit 0 = decide (m % 2 = 1) := Nat.testBit_zero m
    rw [pick]
    constructor
    · intro h
      split at h
      · rename_i h1
        rcases List.mem_cons.mp h with rfl | h
        · exact ⟨0, rfl, by rw [t0]; exact decide_eq_true h1⟩
        · obtain ⟨k, h2, h3⟩ := ih.mp h
          exact ⟨k + 1, h2, by rw [← tb]; exact h3⟩
      · obtain ⟨k, h2, h3⟩ := ih.mp h
        exact ⟨k + 1, h2, by rw [← tb]; exact h3⟩
    · rintro ⟨k, h2, h3⟩
      cases k with
      | zero =>
        rw [t0] at h3
        rw [if_pos (of_decide_eq_true h3)]
        cases (Option.some.inj h2 : l = x)
        exact List.mem_cons_self ..
      | succ k =>
        have : x ∈ pick r (m / 2) := ih.mpr ⟨k, h2, by rw [tb]; exact h3⟩
        split
        · exact List.mem_cons_of_mem _ this
        · exact this
theorem pick_mem {ls : List α} (hn : ls.Nodup) {m k : Nat} {x : α} (h : ls[k]? = some x) : x ∈ pick ls m ↔ m.testBit k = true := by
  rw [pick_mem']
  constructor
  · rintro ⟨j, h1, h2⟩
    cases nodup_at hn h h1
    exact h2
  · exact fun h2 => ⟨k, h, h2⟩
theorem pick_snoc (x : α) : ∀ (ls : List α) (m : Nat), pick (ls ++ [x]) m = pick ls m ++ if m.testBit ls.length then [x] else []
  | [], m => by
    rw [List.nil_append, pick, pick, pick, List.length_nil, Nat.testBit_zero]
    by_cases h : m % 2 = 1 <;> simp [h]
  | l :: r, m => by
    rw [List.cons_append, pick, pick, pick_snoc x r, List.length_cons, Nat.testBit_succ]
    split <;> simp
theorem mk_pick [DecidableEq α] {ls : List α} (hn : ls.Nodup) {m : Nat} (hm : m < 2 ^ ls.length) : mk (fun l => decide (l ∈ pick ls m)) ls = m := by
  refine Nat.eq_of_testBit_eq fun k => ?_
  cases e : ls[k]? with
  | none =>
    rw [mk_bit, e]
    symm
    refine Nat.testBit_lt_two_pow (Nat.lt_of_lt_of_le hm (Nat.pow_le_pow_right (by decide) ?_))
    exact List.getElem?_eq_none_iff.mp e
  | some l =>
    rw [mk_bit_some e]
    have := pick_mem hn (m := m) e
    cases h : m.testBit k
    · exact decide_eq_false fun z => by rw [this.mp z] at h; cases h
    · exact decide_eq_true (this.mpr h)
theorem pick_len : ∀ {ls : List α} {m : Nat}, m < 2 ^ ls.length → (pick ls m).length = pc m
  | [], m, h => by
    have : m = 0 := by simpa using h
    subst this; rw [pc_zero]; rfl
  | l :: r, m, h => by
    rw [List.length_cons, Nat.pow_succ] at h
    have ih := pick_len (ls := r) (m := m / 2) (by omega)
    rw [pick, pc_step]
    split
    · rw [List.length_cons, ih]; omega
    · rw [ih]; omega
end
end Lim
namespace Lim
/-! sides and crossing -/
theorem bit_lt {m n k : Nat} (h : m < 2 ^ n) (hk : m.testBit k = true) : k < n := by
  by_cases hn : k < n
  · exact hn
  · rw [Nat.testBit_lt_two_pow (Nat.lt_of_lt_of_le h (Nat.pow_le_pow_right (by decide) (by omega)))] at hk
    cases hk
theorem ne_zero_bit {m : Nat} : m ≠ 0 ↔ ∃ k, m.testBit k = true := by
  constructor
  · intro h
    apply Classical.byContradiction
    intro hn
    refine h (Nat.eq_of_testBit_eq fun k => ?_)
    rw [Nat.zero_testBit]
    cases e : m.testBit k with
    | false => rfl
    | true => exact absurd ⟨k, e⟩ hn
  · rintro ⟨k, h⟩ rfl
    rw [Nat.zero_testBit] at h; cases h
theorem full_bit (n k : Nat) : (2 ^ n - 1).testBit k = decide (k < n) := Nat.testBit_two_pow_sub_one ..
theorem full_xor {n m : Nat} (h : m < 2 ^ n) : (2 ^ n - 1) ^^^ m = 2 ^ n - 1 - m := by
  have e := or_xor_and (2 ^ n - 1) m
  have h1 : (2 ^ n - 1) ||| m = 2 ^ n - 1 := Nat.eq_of_testBit_eq fun k => by
    rw [Nat.testBit_or, full_bit]
    cases e : m.testBit k with
    | false => simp
    | true => simp [bit_lt h e]
  have h2 : (2 ^ n - 1) &&& m = m := Nat.eq_of_testBit_eq fun k => by
    rw [Nat.testBit_and, full_bit]
    cases e : m.testBit k with
    | false => simp
    | true => simp [bit_lt h e]
  rw [h1, h2] at e
  omega
theorem sub_bit {n m k : Nat} (h : m < 2 ^ n) (hk : k < n) : (2 ^ n - 1 - m).testBit k = !m.testBit k := by
  rw [← full_xor h, Nat.testBit_xor, full_bit, decide_eq_true hk]
  cases m.testBit k <;> rfl
/-- the side that lacks the first name -/
def sideN (n m : Nat) : Nat := if m % 2 = 1 then 2 ^ n - 1 - m else m
def crossN (n a b : Nat) : Bool := decide (a &&& b ≠ 0) && (decide (a ^^^ (a &&& b) ≠ 0) && (decide (b ^^^ (a &&& b) ≠ 0) && decide ((2 ^ n - 1) ^^^ (a ||| b) ≠ 0)))
def Has (n a b : Nat) (x y : Bool) : Prop := ∃ k, k < n ∧ a.testBit k = x ∧ b.testBit k = y
theorem crossN_iff {n a b : Nat} (ha : a < 2 ^ n) (hb : b < 2 ^ n) : crossN n a b = true ↔ Has n a b true true ∧ Has n a b true false ∧ Has n a b false true ∧ Has n a b false false := by
  unfold crossN
  rw [Bool.and_eq_true, Bool.and_eq_true, Bool.and_eq_true, decide_eq_true_eq, decide_eq_true_eq, decide_eq_true_eq, decide_eq_true_eq, ne_zero_bit, ne_zero_bit, ne_zero_bit, ne_zero_bit]
  refine and_congr ?_ (and_congr ?_ (and_congr ?_ ?_))
  · constructor
    · rintro ⟨k, h⟩
      rw [Nat.testBit_and, Bool.and_eq_true] at h
      exact ⟨k, bit_lt ha h.1, h.1, h.2⟩
    · rintro ⟨k, _, h1, h2⟩
      exact ⟨k, by rw [Nat.testBit_and, h1, h2]; rfl⟩
  · constructor
    · rintro ⟨k, h⟩
      rw [Nat.testBit_xor, Nat.testBit_and] at h
      cases e1 : a.testBit k <;> cases e2 : b.testBit k <;> rw [e1, e2] at h <;> simp at h
      exact ⟨k, bit_lt ha e1, e1, e2⟩
    · rintro ⟨k, _, h1, h2⟩
      exact ⟨k, by rw [Nat.testBit_xor, Nat.testBit_and, h1, h2]; rfl⟩
  · constructor
    · rintro ⟨k, h⟩
      rw [Nat.testBit_xor, Nat.testBit_and] at h
      cases e1 : a.testBit k <;> cases e2 : b.testBit k <;> rw [e1, e2] at h <;> simp at h
      exact ⟨k, bit_lt hb e2, e1, e2⟩
    · rintro ⟨k, _, h1, h2⟩
      exact ⟨k, by rw [Nat.testBit_xor, Nat.testBit_and, h1, h2]; rfl⟩
  · constructor
    · rintro ⟨k, h⟩
      rw [Nat.testBit_xor, Nat.testBit_or, full_bit] at h
      by_cases hk : k < n
      · rw [decide_eq_true hk] at h
        cases e1 : a.testBit k <;> cases e2 : b.testBit k <;> rw [e1, e2] at h <;> simp at h
        exact ⟨k, hk, e1, e2⟩
      · rw [decide_eq_false hk] at h
        have e1 : a.testBit k = false := by
          cases e : a.testBit k with
          | false => rfl
          | true => exact absurd (bit_lt ha e) hk
        have e2 : b.testBit k = false := by
          cases e : b.testBit k with
          | false => rfl
          | true => exact absurd (bit_lt hb e) hk
        rw [e1, e2] at h; cases h
    · rintro ⟨k, hk, h1, h2⟩
      exact ⟨k, by rw [Nat.testBit_xor, Nat.testBit_or, full_bit, decide_eq_true hk, h1, h2]; rfl⟩
theorem Has.swap {n a b : Nat} {x y : Bool} : Has n a b x y ↔ Has n b a y x := ⟨fun ⟨k, h, h1, h2⟩ => ⟨k, h, h2, h1⟩, fun ⟨k, h, h1, h2⟩ => ⟨k, h, h2, h1⟩⟩
theorem Has.left {n a b : Nat} {x y : Bool} (ha : a < 2 ^ n) : Has n (2 ^ n - 1 - a) b x y ↔ Has n a b (!x) y := by
  constructor
  · rintro ⟨k, h, h1, h2⟩
    rw [sub_bit ha h] at h1
    exact ⟨k, h, by cases e : a.testBit k <;> rw [e] at h1 <;> subst h1 <;> rfl, h2⟩
  · rintro ⟨k, h, h1, h2⟩
    exact ⟨k, h, by rw [sub_bit ha h, h1]; cases x <;> rfl, h2⟩
theorem crossN_comm {n a b : Nat} (ha : a < 2 ^ n) (hb : b < 2 ^ n) : crossN n b a = crossN n a b := by
  rw [Bool.eq_iff_iff, crossN_iff hb ha, crossN_iff ha hb, Has.swap (a := b), Has.swap (a := b), Has.swap (a := b), Has.swap (a := b)]
  exact ⟨fun ⟨h1, h2, h3, h4⟩ => ⟨h1, h3, h2, h4⟩, fun ⟨h1, h2, h3, h4⟩ => ⟨h1, h3, h2, h4⟩⟩
theorem crossN_left {n a b : Nat} (ha : a < 2 ^ n) (hb : b < 2 ^ n) : crossN n (2 ^ n - 1 - a) b = crossN n a b := by
  have := Nat.two_pow_pos n
  rw [Bool.eq_iff_iff, crossN_iff (by omega) hb, crossN_iff ha hb, Has.left ha, Has.left ha, Has.left ha, Has.left ha]
  exact ⟨fun ⟨h1, h2, h3, h4⟩ => ⟨h3, h4, h1, h2⟩, fun ⟨h1, h2, h3, h4⟩ => ⟨h3, h4, h1, h2⟩⟩
theorem crossN_right {n a b : Nat} (ha : a < 2 ^ n) (hb : b < 2 ^ n) : crossN n a (2 ^ n - 1 - b) = crossN n a b := by
  have := Nat.two_pow_pos n
  rw [← crossN_comm ha (by omega), crossN_left hb ha, crossN_comm ha hb]
open Classical in
theorem len4 {α : Type} {L : List α} (hn : L.Nodup) {w x y z : α} (hd : [w, x, y, z].Nodup) (hs : ∀ e ∈ L, e ∈ [w, x, y, z]) : L.length = 4 ↔ w ∈ L ∧ x ∈ L ∧ y ∈ L ∧ z ∈ L := by
  have p : L.Perm ([w, x, y, z].filter fun e => decide (e ∈ L)) := by
    refine (List.perm_ext_iff_of_nodup hn (hd.sublist List.filter_sublist)).mpr fun e => ?_
    rw [List.mem_filter, decide_eq_true_eq]
    exact ⟨fun h => ⟨hs e h, h⟩, fun h => h.2⟩
  rw [p.length_eq]
  by_cases h1 : w ∈ L <;> by_cases h2 : x ∈ L <;> by_cases h3 : y ∈ L <;> by_cases h4 : z ∈ L <;> simp [List.filter_cons, h1, h2, h3, h4]
end Lim
namespace Lim
open PySem PySem.Spec PyProof.Rows L2
/-! defs as they stand, bundled -/
abbrev FnP (K : PySem.W.Frag) (x : Str) (st : Stmt) (dvs : List V) : Prop := ∃ fd, FunD K x x (defArgs st) (defBody st) (defScope st) dvs [] (He.ga K x) fd
/-- a def called by its name keeps its promise; dvs: what the defaults fill in behind the written arguments -/
structure Def (P : Program) (w : World) (K : PySem.W.Frag) (mg : Str → Option Value) (base : Heap) (k : Nat) (x : Str) (ps : List Str) (dvs : List V) (sp : Sp) : Prop where
  ex : ∃ fd ds, FnOk P w K mg base (L2.CX P w) k (He.ga K x) fd ps sp ∧ Vals dvs ds ∧ Binds K fd ps ds
  m : mg x = some (.ref (He.ga K x))
  kp : PySem.W.keepIn K (.ref (He.ga K x)) = true
section
variable {X : Cx} {k : Nat} {ps : List Str} {sp : Sp} {dvs : List V} {x : Str} {p pos : Pos} {e : Expr} {es : List Expr} {t : TA} {W : WX}
/-- f(e, ..), what it raises is wished for at the slots as they stand -/
def tCl (sp : Sp) (dvs : List V) (W : WX) (t : TA) : TE := fun σ H Q => t σ H fun vs H1 => sp (vs ++ dvs) H1 Q fun c d H' => W c d σ H'
/-- .. that raises nothing -/
def tC0 (sp : Sp) (dvs : List V) (t : TA) : TE := fun σ H Q => t σ H fun vs H1 => sp (vs ++ dvs) H1 Q E0
theorem pcl (D : Def X.prog X.w X.K X.mg X.base k x ps dvs sp) (hr : Room k X.A) (tk : Takes X W) (ha : PA X (e :: es) t) (hg : Gl X x := by rfl) (hdb : (x == ("__debug__" : Str)) = false := by decide)
    (he : starEach (e :: es) X.env = (false, eval e X.env) :: starEach es X.env := by rfl) (hpl : (backTo pos (starEach es X.env)).any (·.1) = false := by rfl) :
    PE X (.Call (.Name x p) (e :: es) [] pos) (tCl sp dvs W t) := by
  obtain ⟨⟨fd, ds, F, rd, hb⟩, hm, hk⟩ := D
  refine ⟨fun pins s σ H Q I h => wpAny_Call_Name_kw (ld_glob I hg hm ?_ hdb)⟩
  refine PySem.W.callWith_K (h₀ := X.base) I.ok.mod.kin hk (thn (ha.run pos pins s σ H _ I h) fun us s1 ⟨vs, H1, I1, r, q⟩ => ⟨I1.kIn, ?_⟩) he hpl
  have r2 : Vals (vs ++ dvs) (us ++ ds) := r.append rd
  have hl : (us ++ ds).length = ps.length := r2.length.symm.trans (F.len _ _ _ _ q)
  refine wpAny_call (codeAny_mono (F.run X.A X.stack s1 H1 ⟨us, []⟩ (us ++ ds) (vs ++ dvs) Q _ hr I1.env0 (hb s1 us I1.kIn hl) r2 q) fun z s' hq => ?_)
  cases z with
  | error u => exact passAt tk σ pins H1 s1 u s' I1 hq
  | ok fl =>
    cases fl with
    | ret u => exact I1.after hq
    | next => exact hq.elim
    | brk => exact hq.elim
    | cont => exact hq.elim
theorem pc0 (D : Def X.prog X.w X.K X.mg X.base k x ps dvs sp) (hr : Room k X.A) (ha : PA X (e :: es) t) (hg : Gl X x := by rfl) (hdb : (x == ("__debug__" : Str)) = false := by decide)
    (he : starEach (e :: es) X.env = (false, eval e X.env) :: starEach es X.env := by rfl) (hpl : (backTo pos (starEach es X.env)).any (·.1) = false := by rfl) :
    PE X (.Call (.Name x p) (e :: es) [] pos) (tC0 sp dvs t) := by
  obtain ⟨⟨fd, ds, F, rd, hb⟩, hm, hk⟩ := D
  exact pe_call F hr hg hm hk hb rd passL ha hdb he hpl
end
section
variable {P : Program} {w : World} {K : PySem.W.Frag} {mg : Str → Option Value} {base : Heap}
/-- a def without defaults -/
theorem def_ok {x : Str} {st : Stmt} {N ps : List Str} {k : Nat} {sp : Sp} (g : mg x = some (.ref (He.ga K x))) (F : FnP K x st []) (S : FnScope N ps (defScope st)) (len : ∀ vs H Q E, sp vs H Q E → vs.length = ps.length)
    (hb : ∀ (kV doc pm : Value) (an : Option Addr) (cdv ct : Value) (us : List Value), us.length = ps.length → bindArgs (PySem.W.fnOf x x (defArgs st) (defBody st) (defScope st) .none kV doc pm an cdv ct) ⟨us, []⟩ = pure (ps.zip us))
    (body : ∀ (cdv : Value) (A : Around) (outer : List Env) (s : Shared) (H : Hp) (vs : List V) (Q : VK) (E : XK), Room k (A.deeper (envOfC x (defScope st) s.heap.objs.size (He.ga K x) cdv)) → sp vs H Q E →
      ∃ t, PSs (cxOf (L2.CX P w) P w K mg base N x (defScope st) (He.ga K x) cdv A outer s H E) (defBody st) t ∧ t { nx := fun _ H' => Q .non H', rt := Q } (start N vs) H) :
    Def P w K mg base (k + 1) x ps [] sp := by
  obtain ⟨fd, F⟩ := F
  exact ⟨⟨fd, [], F.ok S len body, .nil, F.bindsN hb⟩, g, F.kp⟩
/-- the same def, called with a default left out: n arguments are written -/
theorem def_dfl {x : Str} {st : Stmt} {N ps : List Str} {k : Nat} {dvs : List V} {sp : Sp} (g : mg x = some (.ref (He.ga K x))) (F : FnP K x st dvs) (n j : Nat) (hd : dvs ≠ []) (hn : n + (dvs.length - j) = ps.length) (S : FnScope N ps (defScope st)) (len : ∀ vs H Q E, sp vs H Q E → vs.length = ps.length)
    (hb : ∀ (T : Addr) (kV doc pm : Value) (an : Option Addr) (cdv ct : Value) (us its : List Value), us.length = n → its.length = dvs.length →
      ∃ k, bindArgs (PySem.W.fnOf x x (defArgs st) (defBody st) (defScope st) (.ref T) kV doc pm an cdv ct) ⟨us, []⟩ = seqItems? (.ref T) >>= k ∧ k (some its.toArray) = pure (ps.zip (us ++ its.drop j)))
    (body : ∀ (cdv : Value) (A : Around) (outer : List Env) (s : Shared) (H : Hp) (vs : List V) (Q : VK) (E : XK), Room k (A.deeper (envOfC x (defScope st) s.heap.objs.size (He.ga K x) cdv)) → sp vs H Q E →
      ∃ t, PSs (cxOf (L2.CX P w) P w K mg base N x (defScope st) (He.ga K x) cdv A outer s H E) (defBody st) t ∧ t { nx := fun _ H' => Q .non H', rt := Q } (start N vs) H) :
    Def P w K mg base (k + 1) x ps (dvs.drop j) sp := by
  obtain ⟨fd, F⟩ := F
  obtain ⟨ds, r, b⟩ := F.binds1 n j hd hn hb
  exact ⟨⟨fd, ds, F.ok S len body, r, b⟩, g, F.kp⟩
end
/-! operations -/
structure CDv (i j : Int) : Prop where
  nz : j ≠ 0
  lt : j.natAbs.log2 < 9000
structure CNz (i j : Int) : Prop where
  nz : j ≠ 0
section
variable {X : Cx}
theorem op_dv : OpR X (binaryOp .FloorDiv) (rI CDv fun i j => .int (i.fdiv j)) := opI fun i j _ _ _ _ _ hc q => floordiv_int hc.nz q (.inl (PyProof.noPylong_of_log2 hc.lt))
theorem op_md : OpR X (binaryOp .Mod) (rI CNz fun i j => .int (i.fmod j)) := opI fun i j _ _ _ _ _ hc q => PyProof.Rows.mod_int hc.nz q
end
/-! ifs -/
theorem ifd {p : Prop} [Decidable p] {A B : Prop} (h1 : p → A) (h2 : ¬ p → B) : if decide p = true then A else B := by
  by_cases h : p
  · rw [if_pos (decide_eq_true h)]; exact h1 h
  · rw [if_neg (by simpa using h)]; exact h2 h
theorem ifn {p : Prop} [Decidable p] {A B : Prop} (h1 : ¬ p → A) (h2 : p → B) : if (!decide p) = true then A else B := by
  by_cases h : p
  · rw [if_neg (by simpa using h)]; exact h2 h
  · rw [if_pos (by simpa using h)]; exact h1 h
theorem ifb {b : Bool} {A B : Prop} (h1 : b = true → A) (h2 : b = false → B) : if b = true then A else B := by
  cases b
  · exact h2 rfl
  · exact h1 rfl
theorem ifv {p : V → V → Prop} {i j : Int} {A B : Prop} (h1 : i = j → A) (h2 : i ≠ j → B) : if decide (V.int i = V.int j) = true then A else B := by
  by_cases h : i = j
  · rw [if_pos (by rw [h]; simp)]; exact h1 h
  · rw [if_neg (by simpa using h)]; exact h2 h
/-! heaps -/
theorem Same.tup {K : PySem.W.Frag} {H H' : Hp} {a : Addr} {xs : List V} (e : Same H H') (h : SqT K H a xs) : SqT K H' a xs := by
  rcases h with (h | ⟨o, h⟩) | h
  · exact .inl (.inl (e _ _ h))
  · exact .inl (.inr ⟨o, e _ _ h⟩)
  · exact .inr h
theorem Same.new {H : Hp} {p : Addr} {o : HO} (h : H p = none) : Same H (upd H p o) := fun b x e => by rw [upd_ne (ne_of_none e h)]; exact e
end Lim
namespace Lim
open PySem PySem.Spec PyProof.Rows L2
section
variable {X : Cx}
theorem op_ml : OpR X (binaryOp .Mult) (rI IntMulOk fun i j => .int (i * j)) := opI fun _ _ _ _ _ _ _ hc q => PyProof.Rows.mul_int q hc
theorem pe_gint {x : Str} {i : Int} {pos : Pos} (h : ∃ t, X.mg x = some (.int i t)) (hg : Gl X x := by rfl) (hdb : (x == ("__debug__" : Str)) = false := by decide) : PE X (.Name x pos) (tC (.int i)) := by
  obtain ⟨t, h⟩ := h
  exact pe_glob hg h ⟨t, rfl⟩ hdb
theorem pe_gstr {x z : Str} {pos : Pos} (h : ∃ t, X.mg x = some (.str z t)) (hg : Gl X x := by rfl) (hdb : (x == ("__debug__" : Str)) = false := by decide) : PE X (.Name x pos) (tC (.str z)) := by
  obtain ⟨t, h⟩ := h
  exact pe_glob hg h ⟨t, rfl⟩ hdb
/-! loops, closed up: the walk stops there -/
@[irreducible] def LoopR (J : It) (g : TG) (tb : TS) (D : Ends) (σ : L2.St) (H1 : Hp) : Prop := ∃ W : Nat → Nat → L2.St → Hp → Prop, (∃ m, W 0 m σ H1) ∧ ∀ i m σ H, W i m σ H →
  (J.stop i H ∧ D.nx σ H) ∨ (J.go i H ∧ ∃ N : L2.St → Hp → Prop, (∀ σ' H', N σ' H' → ∃ m', m' < m ∧ W (i + 1) m' σ' H') ∧ ∀ x H', J.yld i H x H' → g x σ H' fun σ2 H2 => tb { D with nx := N, ct := N, bk := D.nx } σ2 H2)
def tF (wi : TI) (g : TG) (tb : TS) : TS := fun D σ H => wi σ H fun J H1 => LoopR J g tb D σ H1
theorem tF_eq : @tF = @tFor := by funext a b c D σ H; unfold tF tFor LoopR; rfl
@[irreducible] def tW (c : TT) (tb : TS) : TS := tWhile c tb
theorem tW_eq : @tW = @tWhile := by funext a b; unfold tW; rfl
theorem ps_fo {tg iter : Expr} {body : List Stmt} {wi : TI} {g : TG} {tb : TS} {pos : Pos} (hp : PassesOwn (model X.prog X.w) X.A X.env X.xe) (hc : X.calm = true) (hi : PI X tg iter wi) (hg : PG X tg g) (hb : PSs X body tb)
    (hs : ∀ x, foldedSetIterable iter X.env x = pure x := by intro _; rfl) : PS X (.For tg iter body [] pos) (tF wi g tb) := by
  rw [tF_eq]; exact ps_for hp hc hi hg hb hs
theorem ps_wh {c : Expr} {body : List Stmt} {tc : TT} {tb : TS} {pos : Pos} (hp : PassesOwn (model X.prog X.w) X.A X.env X.xe) (hc : PT X c tc) (hb : PSs X body tb) : PS X (.While c body [] pos) (tW tc tb) := by
  rw [tW_eq]; exact ps_while hp hc hb
/-- the ways behind a statement joined -/
@[irreducible] def tK (t u : TS) : TS := fun D σ H => ∃ Mid : L2.St → Hp → Prop, t { D with nx := Mid } σ H ∧ ∀ σ' H', Mid σ' H' → u D σ' H'
theorem pss_k {st : Stmt} {rest : List Stmt} {t u : TS} (h1 : PS X st t) (h2 : PSs X rest u) : PSs X (st :: rest) (tK t u) := by
  refine ⟨fun pins s σ H D I h => ?_⟩
  unfold tK at h
  obtain ⟨Mid, hm, hu⟩ := h
  refine wpAny_execs_cons (thn (h1.run pins s σ H { D with nx := Mid } I hm) fun f s1 q => ?_)
  cases f with
  | next =>
    obtain ⟨σ', H', I', q⟩ := q
    exact h2.run pins s1 σ' H' D I' (hu σ' H' q)
  | ret v => exact q
  | brk => exact q
  | cont => exact q
@[irreducible] def LcR (J : It) (g : TG) (tt : TT) (te : TE) (vs : List Nat) (σ : L2.St) (D : Addr) (H1 : Hp) (Q : VK) : Prop := ∃ W : Nat → Nat → Hp → Prop, (∃ m, W 0 m (upd H1 D (.lst []))) ∧ ∀ i m H, W i m H →
  (J.stop i H ∧ Q (.ref D) H) ∨ (J.go i H ∧ ∃ Nx : Hp → Prop, (∀ H', Nx H' → ∃ m', m' < m ∧ W (i + 1) m' H') ∧ ∀ x H', J.yld i H x H' → g x (wipe σ vs) H' fun σ2 H2 => wipe σ2 vs = wipe σ vs ∧ tt σ2 H2 fun b H3 =>
    if b = true then te σ2 H3 fun y H4 => ∃ acc, H4 D = some (.lst acc) ∧ acc.length < sizeLine ∧ Nx (upd H4 D (.lst (acc ++ [y]))) else Nx H3)
def tL (wi : TI) (g : TG) (tt : TT) (te : TE) (vs : List Nat) : TE := fun σ H Q => wi σ H fun J H1 => ∀ D, H1 D = none → LcR J g tt te vs σ D H1 Q
theorem tL_eq : @tL = @tLc := by funext a b c d e σ H Q; unfold tL tLc LcR; rfl
theorem pe_l {elt tg iter : Expr} {ifs : List Expr} {scope : Scope} {own : List (Str × Nat)} {pos : Pos} {wi : TI} {g : TG} {tt : TT} {te : TE} (hc : X.calm = true) (hN : X.N.Nodup) (hi : PI X tg iter wi) (ok : BlkOk X.N X.env.scope scope own)
    (hg : ∀ (s : Shared) (H : Hp) (C : Addr) (cl : List (Str × Addr)) (fp : List Addr), PG (X.blk s H scope (compEnvC scope cl C X.env) fp) tg g) (ht : ∀ (s : Shared) (H : Hp) (C : Addr) (cl : List (Str × Addr)) (fp : List Addr), PTs (X.blk s H scope (compEnvC scope cl C X.env) fp) ifs tt)
    (he : ∀ (s : Shared) (H : Hp) (C : Addr) (cl : List (Str × Addr)) (fp : List Addr), PE (X.blk s H scope (compEnvC scope cl C X.env) fp) elt te) (hs : ∀ x, foldedSetIterable iter X.env x = pure x := by intro _; rfl) :
    PE X (.ListComp elt [⟨tg, iter, ifs, 0⟩] scope pos) (tL wi g tt te (own.map (·.2))) := by
  rw [tL_eq]; exact pe_lc hc hN hi ok hg ht he hs
end
section
variable {K : PySem.W.Frag} {g : TG} {tb : TS} {D : Ends} {σ : L2.St} {H : Hp}
theorem k_by {t u : TS} (Mid : L2.St → Hp → Prop) (h1 : t { D with nx := Mid } σ H) (h2 : ∀ σ' H', Mid σ' H' → u D σ' H') : tK t u D σ H := by
  unfold tK; exact ⟨Mid, h1, h2⟩
/-- Pv i holds ahead of turn i -/
theorem lr_list {a : Addr} {xs : List V} (Pv : Nat → L2.St → Hp → Prop) (p0 : Pv 0 σ H) (hl : ∀ i σ H, i ≤ xs.length → Pv i σ H → SqL K H a xs)
    (hs : ∀ i x σ H, xs[i]? = some x → Pv i σ H → g x σ H fun σ2 H2 => tb { D with nx := Pv (i + 1), ct := Pv (i + 1), bk := D.nx } σ2 H2) (hd : ∀ σ H, Pv xs.length σ H → D.nx σ H) : LoopR (Itl K a) g tb D σ H := by
  unfold LoopR; exact for_list Pv p0 hl hs hd
theorem lr_tup {a : Addr} {xs : List V} (Pv : Nat → L2.St → Hp → Prop) (p0 : Pv 0 σ H) (hl : ∀ i σ H, i ≤ xs.length → Pv i σ H → SqT K H a xs)
    (hs : ∀ i x σ H, xs[i]? = some x → Pv i σ H → g x σ H fun σ2 H2 => tb { D with nx := Pv (i + 1), ct := Pv (i + 1), bk := D.nx } σ2 H2) (hd : ∀ σ H, Pv xs.length σ H → D.nx σ H) : LoopR (Itt K a) g tb D σ H := by
  unfold LoopR; exact for_tup Pv p0 hl hs hd
theorem lr_range {lo : Int} {n : Nat} (Pv : Nat → L2.St → Hp → Prop) (p0 : Pv 0 σ H)
    (hs : ∀ i σ H, i < n → Pv i σ H → g (.int (lo + i)) σ H fun σ2 H2 => tb { D with nx := Pv (i + 1), ct := Pv (i + 1), bk := D.nx } σ2 H2) (hd : ∀ σ H, Pv n σ H → D.nx σ H) : LoopR (Itr lo n) g tb D σ H := by
  unfold LoopR; exact for_range Pv p0 hs hd
/-- what is held ahead of a while's next turn -/
def WN (Pv : L2.St → Hp → Prop) (m : L2.St → Nat) (k : Nat) : L2.St → Hp → Prop := fun σ H => m σ < k ∧ Pv σ H
theorem wn {Pv : L2.St → Hp → Prop} {m : L2.St → Nat} {k : Nat} : ∀ σ' H', WN Pv m k σ' H' → ∃ m', m' < k ∧ (m' = m σ' ∧ Pv σ' H') := fun _ _ h => ⟨_, h.1, rfl, h.2⟩
theorem wh_by {c : TT} (Pv : L2.St → Hp → Prop) (m : L2.St → Nat) (h0 : Pv σ H)
    (hs : ∀ σ H, Pv σ H → c σ H fun b H1 => if b = true then ∃ N : L2.St → Hp → Prop, (∀ σ' H', N σ' H' → ∃ m', m' < m σ ∧ (m' = m σ' ∧ Pv σ' H')) ∧ tb { D with nx := N, ct := N, bk := D.nx } σ H1 else D.nx σ H1) : tW c tb D σ H := by
  rw [tW_eq]
  refine ⟨fun n σ H => n = m σ ∧ Pv σ H, ⟨_, rfl, h0⟩, ?_⟩
  rintro n σ H ⟨rfl, p⟩
  exact hs σ H p
end
/-! the end of a law -/
theorem walk_ofEB {l : PySem.W.OpenLaw} {n k : Nat} {q : Program} {loose : List Str} {XP : (Str → Option Value) → Heap → Prop} {YP : World → Heap → Prop} {d : DefRec} {x : Str}
    (hn : l.most = some n) (hn2 : n ≤ sizeLine) (hdf : d.params.defaults = []) (hr : Room k callerA)
    (F : ∀ (w : World) (mg : Str → Option Value) (fa : Addr) (h : Heap), YP w h → h.Ns mainGlobals mg → mg d.name = some (.ref fa) →
      ∃ (K : PySem.W.Frag) (fd : FuncData) (sp : Sp), K.In h ∧ (∀ (s : Shared) (u : Value), BindsTo s fd ⟨[u], []⟩ [(x, u)]) ∧
        (∀ (H : Hp) (a : Addr) (ns : List Int), ns.length ≤ n → (∀ z ∈ ns, Builtin.Int.intBits z ≤ 1048576) → Only H → SqL K H a (ns.map V.int) → sp [.ref a] H (fun v _ => v = .bl true) fun _ _ _ => False) ∧
        ∀ base : Heap, K.In base → base.Ns mainGlobals mg → FnOk l.prog w K mg base (L2.CX l.prog w) k fa fd [x] sp) :
    PySem.W.WalkO q loose XP YP l.row.toRowW d [] (fun f vs => PySem.call f vs) := by
  refine Att.attach_callB hn hdf fun w s0 s1 mg mb fa o pm cd doc a vs ns G Y ho hd hcd hmg hobj hints hlen hbits hg => ?_
  obtain ⟨K, fd, sp, KX, hb, hsp, hF⟩ := F w mg fa _ Y G.T.g hmg
  refine law_call KX G.T.g G.T.b G.T.builtins G.T.nolimit hg hobj hints (Nat.le_trans hlen hn2) hr hF hb (fun H hO hS => hsp H a ns hlen hbits hO hS) fun H e s' z => ?_
  obtain ⟨_, _, _, _, _, _, _, _, _, _, _, _, z⟩ := z
  exact z
/-! what isinstance asks -/
theorem ty_tup {K : PySem.W.Frag} {H : Hp} {a : Addr} {xs : List V} (h : SqT K H a xs) : TyX K H (.ref a) (.type "tuple") := by
  rcases h with (h | ⟨o, h⟩) | ⟨o, its, n, h1, h2, _⟩
  · exact .base (.tup h)
  · exact .fTuple h
  · exact .kTuple h1 h2
theorem ty_lst {K : PySem.W.Frag} {H : Hp} {a : Addr} {xs : List V} (h : SqL K H a xs) : TyX K H (.ref a) (.type "list") := by
  rcases h with (h | ⟨o, h⟩) | ⟨o, its, n, h1, h2, _⟩
  · exact .base (.lst h)
  · exact .base (.frz h)
  · exact .kList h1 h2
section
variable {K : PySem.W.Frag}
theorem kt_ii : PySem.W.kitOne K (.type "int") (.type "int") = some true := kit_ty (by decide +kernel)
theorem kt_ib : PySem.W.kitOne K (.type "int") (.type "bool") = some false := kit_ty (by decide +kernel)
theorem kt_bi : PySem.W.kitOne K (.type "bool") (.type "int") = some true := kit_ty (by decide +kernel)
theorem kt_bb : PySem.W.kitOne K (.type "bool") (.type "bool") = some true := kit_ty (by decide +kernel)
theorem kt_tt : PySem.W.kitOne K (.type "tuple") (.type "tuple") = some true := kit_ty (by decide +kernel)
theorem kt_ss : PySem.W.kitOne K (.type "str") (.type "str") = some true := kit_ty (by decide +kernel)
theorem kt_ll : PySem.W.kitOne K (.type "list") (.type "list") = some true := kit_ty (by decide +kernel)
theorem kt_ni : PySem.W.kitOne K (.type "NoneType") (.type "int") = some false := kit_ty (by decide +kernel)
theorem kt_si : PySem.W.kitOne K (.type "str") (.type "int") = some false := kit_ty (by decide +kernel)
theorem kt_ti : PySem.W.kitOne K (.type "tuple") (.type "int") = some false := kit_ty (by decide +kernel)
theorem kt_li : PySem.W.kitOne K (.type "list") (.type "int") = some false := kit_ty (by decide +kernel)
theorem kt_di : PySem.W.kitOne K (.type "dict") (.type "int") = some false := kit_ty (by decide +kernel)
end
end Lim
namespace Lim
open PySem PySem.Spec PyProof.Rows L2
/-! data in the heap -/
mutual
theorem dp_same {K : PySem.W.Frag} {H H' : Hp} (e : Same H H') : ∀ {d : PyData} {v : V}, Dp K H v d → Dp K H' v d
  | .none, _, h => by cases h; exact .non
  | .bool b, _, h => by cases h; exact .bl b
  | .int i, _, h => by cases h; exact .int i
  | .str x, _, h => by cases h; exact .str x
  | .list ds, _, h => by
    cases h with
    | lst s a => exact .lst (e.seq s) (dps_same e a)
  | .tuple ds, _, h => by
    cases h with
    | tup s a => exact .tup (Same.tup e s) (dps_same e a)
  | .dict _, _, h => by cases h
theorem dps_same {K : PySem.W.Frag} {H H' : Hp} (e : Same H H') : ∀ {ds : List PyData} {vs : List V}, DpAll K H vs ds → DpAll K H' vs ds
  | [], _, h => by cases h; exact .nil
  | d :: ds, _, h => by
    cases h with
    | cons a b => exact .cons (dp_same e a) (dps_same e b)
end
section
variable {K : PySem.W.Frag} {H H' : Hp} {v : V}
theorem dp_tup {ds : List PyData} (h : Dp K H v (.tuple ds)) : ∃ a xs, v = .ref a ∧ SqT K H a xs ∧ DpAll K H xs ds := by
  cases h with
  | tup s a => exact ⟨_, _, rfl, s, a⟩
theorem dp_lst {ds : List PyData} (h : Dp K H v (.list ds)) : ∃ a xs, v = .ref a ∧ SqL K H a xs ∧ DpAll K H xs ds := by
  cases h with
  | lst s a => exact ⟨_, _, rfl, s, a⟩
theorem dp_int {i : Int} (h : Dp K H v (.int i)) : v = .int i := by cases h; rfl
theorem dp_str {x : Str} (h : Dp K H v (.str x)) : v = .str x := by cases h; rfl
theorem dps_len {xs : List V} : ∀ {ds : List PyData}, DpAll K H xs ds → xs.length = ds.length := by
  intro ds
  induction ds generalizing xs with
  | nil => intro h; cases h; rfl
  | cons d ds ih =>
    intro h
    cases h with
    | cons a b => simp [ih b]
theorem dps_get : ∀ {ds : List PyData} {xs : List V} {i : Nat} {d : PyData}, DpAll K H xs ds → ds[i]? = some d → ∃ v, xs[i]? = some v ∧ Dp K H v d
  | [], _, _, _, _, e => by simp at e
  | d' :: ds, _, 0, d, .cons a b, e => by simp at e; subst e; exact ⟨_, rfl, a⟩
  | d' :: ds, _, i + 1, d, .cons a b, e => by
    obtain ⟨v, h1, h2⟩ := dps_get (i := i) b (by simpa using e)
    exact ⟨v, by simpa using h1, h2⟩
theorem dps_at {xs : List V} {i : Nat} {v : V} : ∀ {ds : List PyData}, DpAll K H xs ds → xs[i]? = some v → ∃ d, ds[i]? = some d ∧ Dp K H v d := by
  intro ds
  induction ds generalizing xs i with
  | nil => intro h e; cases h; simp at e
  | cons d' ds ih =>
    intro h e
    cases h with
    | cons a b =>
      cases i with
      | zero => simp at e; subst e; exact ⟨_, rfl, a⟩
      | succ i => exact ih b (by simpa using e)
theorem dps_map_at {α : Type} {f : α → PyData} {l : List α} {xs : List V} {i : Nat} {x : V} (hA : DpAll K H xs (l.map f)) (hx : xs[i]? = some x) : ∃ q, l[i]? = some q ∧ Dp K H x (f q) := by
  obtain ⟨d, h1, h2⟩ := dps_at hA hx
  rw [List.getElem?_map] at h1
  cases e : l[i]? with
  | none => rw [e] at h1; cases h1
  | some q =>
    rw [e] at h1
    cases (Option.some.inj h1 : f q = d)
    exact ⟨q, rfl, h2⟩
theorem dps_sub {f : List V → List V} {g : List PyData → List PyData} (hf : ∀ {xs : List V} {ds : List PyData}, DpAll K H xs ds → DpAll K H (f xs) (g ds)) {xs : List V} {ds : List PyData} (h : DpAll K H xs ds) : DpAll K H (f xs) (g ds) := hf h
theorem dps_dropLast : ∀ {ds : List PyData} {xs : List V}, DpAll K H xs ds → DpAll K H xs.dropLast ds.dropLast
  | [], _, .nil => .nil
  | [_], _, .cons _ .nil => .nil
  | _ :: _ :: _, _, .cons a (.cons b c) => .cons a (dps_dropLast (.cons b c))
theorem dps_rev : ∀ {ds : List PyData} {xs : List V}, DpAll K H xs ds → DpAll K H xs.reverse ds.reverse
  | [], _, .nil => .nil
  | d :: ds, _, .cons (v := v) (vs := vs) a b => by
    rw [List.reverse_cons, List.reverse_cons]
    have ih := dps_rev b
    have one : DpAll K H [v] [d] := .cons a .nil
    revert ih
    generalize vs.reverse = as
    generalize ds.reverse = bs
    intro ih
    clear b
    induction bs generalizing as with
    | nil => cases ih; exact one
    | cons c bs ih2 =>
      cases ih with
      | cons p q => exact .cons p (ih2 _ q)
theorem dps_app {xs ys : List V} : ∀ {ds es : List PyData}, DpAll K H xs ds → DpAll K H ys es → DpAll K H (xs ++ ys) (ds ++ es) := by
  intro ds
  induction ds generalizing xs with
  | nil => intro es h g; cases h; exact g
  | cons d' ds ih =>
    intro es h g
    cases h with
    | cons a b => exact .cons a (ih b g)
end
/-- an amount -/
def amtD (q : Rat) : PyData := .tuple [.int q.num, .int (q.den : Int)]
abbrev Amt (K : PySem.W.Frag) (H : Hp) (v : V) (q : Rat) : Prop := Dp K H v (amtD q)
theorem amt_inv {K : PySem.W.Frag} {H : Hp} {v : V} {q : Rat} (h : Amt K H v q) : ∃ a, v = .ref a ∧ SqT K H a [.int q.num, .int (q.den : Int)] := by
  obtain ⟨a, xs, rfl, s, d⟩ := dp_tup h
  cases d with
  | cons h1 d => cases d with
    | cons h2 d =>
      cases d
      rw [dp_int h1, dp_int h2] at s
      exact ⟨a, rfl, s⟩
theorem amt_mk {K : PySem.W.Frag} {H : Hp} {a : Addr} {q : Rat} {n d : Int} (h : SqT K H a [.int n, .int d]) (h1 : n = q.num) (h2 : d = (q.den : Int)) : Amt K H (.ref a) q := by
  subst h1 h2
  exact .tup h (.cons (.int _) (.cons (.int _) .nil))
/-- the result is a new thing that reads as d; what stood stands -/
def Ret (K : PySem.W.Frag) (H : Hp) (Q : VK) (d : PyData) : Prop := ∀ v H', Same H H' → Dp K H' v d → Q v H'
/-- closed up: the walk does not look in -/
structure Bx (p : Prop) : Prop where
  o : p
/-! sizes -/
theorem mulok {a b : Nat} {i j : Int} (ha : Bit a i) (hb : Bit b j) (h : a + b ≤ 999000) : IntMulOk i j :=
  (wide_mul (a := a + 1) (b := b + 1) (ha.mono (by omega)) (hb.mono (by omega)) (by omega) (by omega) (by omega)).ok
theorem dvok {b : Nat} {i j : Int} (h : j ≠ 0) (hb : Bit b j) (h9 : b ≤ 8999) : CDv i j := by
  refine ⟨h, ?_⟩
  have := PySem.Flt.log2_lt_of (n := j.natAbs) (k := b + 1) (by omega) (hb.mono (by omega : b ≤ b + 1))
  omega
theorem dv_lit {i j : Int} (h : (decide (j ≠ 0) && decide (j.natAbs.log2 < 9000)) = true) : CDv i j := by
  simp only [Bool.and_eq_true, decide_eq_true_eq] at h
  exact ⟨h.1, h.2⟩
theorem nz_lit {i j : Int} (h : decide (j ≠ 0) = true) : CNz i j := ⟨of_decide_eq_true h⟩
theorem ml_lit {i j : Int} (h : decide (i.natAbs.log2 + j.natAbs.log2 < 1000000) = true) : IntMulOk i j := CMulW.ok (show i.natAbs.log2 + j.natAbs.log2 < 1000000 from of_decide_eq_true h)
theorem sz_of {n : Nat} (h : n ≤ 64) : n ≤ sizeLine := Nat.le_trans h (by decide)
theorem sz0 : 0 ≤ sizeLine := by decide
theorem sz1 : 1 ≤ sizeLine := by decide
theorem sz2 : 2 ≤ sizeLine := by decide
theorem sz3 : 3 ≤ sizeLine := by decide
theorem sz4 : 4 ≤ sizeLine := by decide
theorem sz5 : 5 ≤ sizeLine := by decide
theorem sz6 : 6 ≤ sizeLine := by decide
theorem sz7 : 7 ≤ sizeLine := by decide
theorem sz8 : 8 ≤ sizeLine := by decide
theorem sz9 : 9 ≤ sizeLine := by decide
theorem sz10 : 10 ≤ sizeLine := by decide
theorem sz11 : 11 ≤ sizeLine := by decide
theorem sz12 : 12 ≤ sizeLine := by decide
theorem sz13 : 13 ≤ sizeLine := by decide
theorem sz14 : 14 ≤ sizeLine := by decide
theorem sz15 : 15 ≤ sizeLine := by decide
theorem sz16 : 16 ≤ sizeLine := by decide
/-! items -/
theorem cut_last (xs : List V) : cutV xs none (some (-1)) = xs.dropLast := by
  unfold cutV
  rw [HT.sIx_none, List.drop_zero, List.dropLast_eq_take]
  congr 1
  show (if (-1 : Int) < 0 then ((-1 : Int) + (xs.length : Int)).toNat else min (-1 : Int).toNat xs.length) - 0 = xs.length - 1
  rw [if_pos (by decide)]; omega
theorem cut_nat (xs : List V) (a b : Nat) (h : a ≤ b) : cutV xs (some (a : Int)) (some (b : Int)) = (xs.drop a).take (b - a) := by
  unfold cutV
  rw [HT.sIx_nat, HT.sIx_nat]
  by_cases h1 : a ≤ xs.length
  · rw [Nat.min_eq_left h1]
    by_cases h2 : b ≤ xs.length
    · rw [Nat.min_eq_left h2]
    · rw [Nat.min_eq_right (by omega), List.take_of_length_le (by rw [List.length_drop]; omega), List.take_of_length_le (by rw [List.length_drop]; omega)]
  · rw [Nat.min_eq_right (by omega), Nat.min_eq_right (by omega), List.drop_of_length_le (Nat.le_refl _), List.drop_of_length_le (by omega)]
    simp
theorem cut_to (xs : List V) (b : Nat) : cutV xs none (some (b : Int)) = xs.take b := by
  unfold cutV
  rw [HT.sIx_none, HT.sIx_nat, List.drop_zero, Nat.sub_zero]
  by_cases h2 : b ≤ xs.length
  · rw [Nat.min_eq_left h2]
  · rw [Nat.min_eq_right (by omega), List.take_length, List.take_of_length_le (by omega)]
theorem cut_from (xs : List V) (a : Nat) : cutV xs (some (a : Int)) none = xs.drop a := by
  unfold cutV
  rw [HT.sIx_none, HT.sIx_nat]
  by_cases h1 : a ≤ xs.length
  · rw [Nat.min_eq_left h1, List.take_of_length_le (by rw [List.length_drop]; omega)]
  · rw [Nat.min_eq_right (by omega), List.drop_of_length_le (Nat.le_refl _), List.drop_of_length_le (by omega)]
    simp
theorem at0 {x : V} {r : List V} : atI (x :: r) 0 = some x := atI_nat (j := 0) rfl
theorem at1 {x y : V} {r : List V} : atI (x :: y :: r) 1 = some y := atI_nat (j := 1) rfl
theorem at_ints {ns : List Int} {j : Nat} (h : j < ns.length) : atI (ns.map V.int) (j : Int) = some (.int (ns.getD j 0)) := by
  refine atI_nat (j := j) ?_
  rw [List.getElem?_map, List.getD_eq_getElem?_getD, List.getElem?_eq_getElem h]; rfl
theorem sqt_new {K : PySem.W.Frag} {H : Hp} {p : Addr} {xs : List V} : SqT K (upd H p (.tup xs)) p xs := .inl (.inl upd_same)
theorem sql_new {K : PySem.W.Frag} {H : Hp} {p : Addr} {xs : List V} : SqL K (upd H p (.lst xs)) p xs := .inl (.inl upd_same)
theorem qb {Q : VK} {H : Hp} {b c : Bool} (h : b = c) (k : Q (.bl c) H) : Q (.bl b) H := h ▸ k
theorem qv {Q : VK} {H : Hp} {v u : V} (h : v = u) (k : Q u H) : Q v H := h ▸ k
/-! ifs over values -/
theorem vint {i j : Int} : (V.int i = V.int j) = (i = j) := by simp
theorem vstr {i j : Str} : (V.str i = V.str j) = (i = j) := by simp
theorem ifI {i j : Int} {A B : Prop} (h1 : i = j → A) (h2 : i ≠ j → B) : if decide (V.int i = V.int j) = true then A else B := ifd (fun h => h1 (by simpa using h)) (fun h => h2 (by simpa using h))
theorem ifnI {i j : Int} {A B : Prop} (h1 : i ≠ j → A) (h2 : i = j → B) : if (!decide (V.int i = V.int j)) = true then A else B := ifn (fun h => h1 (by simpa using h)) (fun h => h2 (by simpa using h))
theorem ifS {i j : Str} {A B : Prop} (h1 : i = j → A) (h2 : i ≠ j → B) : if decide (V.str i = V.str j) = true then A else B := ifd (fun h => h1 (by simpa using h)) (fun h => h2 (by simpa using h))
theorem ifnS {i j : Str} {A B : Prop} (h1 : i ≠ j → A) (h2 : i = j → B) : if (!decide (V.str i = V.str j)) = true then A else B := ifn (fun h => h1 (by simpa using h)) (fun h => h2 (by simpa using h))
theorem ifT {b : Bool} {A B : Prop} (hb : b = true) (h : A) : if b = true then A else B := by rw [if_pos hb]; exact h
theorem ifF {b : Bool} {A B : Prop} (hb : b = false) (h : B) : if b = true then A else B := by rw [if_neg (by simp [hb])]; exact h
end Lim
namespace Lim
open PySem PySem.Spec PyProof.Rows L2
/-! shapes of data that == asks for -/
structure Shp (k : Nat) (d : PyData) : Prop where
  lay : d.canLay0 = true
  dep : d.depth ≤ k
theorem Shp.mono {j k : Nat} {d : PyData} (h : Shp j d) (l : j ≤ k) : Shp k d := ⟨h.lay, Nat.le_trans h.dep l⟩
theorem Shp.ok {k : Nat} {d : PyData} (h : Shp k d) (l : k ≤ 64) : SeqAt.shaped d = true := by
  show (d.canLay0 && decide (d.depth ≤ 64)) = true
  rw [h.lay, decide_eq_true (Nat.le_trans h.dep l)]; rfl
theorem shp_int {k : Nat} (i : Int) : Shp k (.int i) := ⟨by simp [PyData.canLay0], by simp [PyData.depth]⟩
theorem shp_bool {k : Nat} (b : Bool) : Shp k (.bool b) := ⟨by simp [PyData.canLay0], by simp [PyData.depth]⟩
theorem shp_none {k : Nat} : Shp k .none := ⟨by simp [PyData.canLay0], by simp [PyData.depth]⟩
theorem shp_str {k : Nat} {x : Str} (h : PyData.strOk x = true) : Shp k (.str x) := ⟨by simpa [PyData.canLay0] using h, by simp [PyData.depth]⟩
theorem shp_all {k : Nat} : ∀ {ds : List PyData}, (∀ d ∈ ds, Shp k d) → PyData.canLayAll0 ds = true ∧ PyData.depthAll ds ≤ k
  | [], _ => ⟨by simp [PyData.canLayAll0], by simp [PyData.depthAll]⟩
  | d :: ds, h => by
    have h1 := h d (List.mem_cons_self ..)
    have h2 := shp_all fun x hx => h x (List.mem_cons_of_mem _ hx)
    refine ⟨?_, ?_⟩
    · rw [PyData.canLayAll0, h1.lay, h2.1]; rfl
    · rw [PyData.depthAll]; exact Nat.max_le.mpr ⟨h1.dep, h2.2⟩
theorem shp_list {k : Nat} {ds : List PyData} (h : ∀ d ∈ ds, Shp k d) : Shp (k + 1) (.list ds) := by
  have := shp_all h
  exact ⟨by rw [PyData.canLay0]; exact this.1, by rw [PyData.depth]; omega⟩
theorem shp_tup {k : Nat} {ds : List PyData} (h : ∀ d ∈ ds, Shp k d) : Shp (k + 1) (.tuple ds) := by
  have := shp_all h
  exact ⟨by rw [PyData.canLay0]; exact this.1, by rw [PyData.depth]; omega⟩
theorem shp_amt {k : Nat} (q : Rat) : Shp (k + 1) (amtD q) := shp_tup fun d hd => by
  rcases List.mem_cons.mp hd with rfl | hd
  · exact shp_int _
  · rcases List.mem_cons.mp hd with rfl | hd
    · exact shp_int _
    · cases hd
theorem Shp.refl {k : Nat} {d : PyData} (h : Shp k d) : PyData.eqv d d = true := PySem.SeqAt.eqv_refl d h.lay
theorem eqv_nil (ds : List PyData) : PyData.eqv (.list ds) (.list []) = ds.isEmpty := by
  cases ds <;> rfl
/-! a list of one's own is changed: what else stands -/
theorem Same.mut {H H' : Hp} {p : Addr} {o : HO} (e : Same H H') (h : H p = none) : Same H (upd H' p o) := fun b x q => by rw [upd_ne (ne_of_none q h)]; exact e b x q
theorem sqt_mut {K : PySem.W.Frag} {H : Hp} {p a : Addr} {o : HO} {xs ys : List V} (hp : H p = some (.lst ys)) (h : SqT K H a xs) : SqT K (upd H p o) a xs := by
  rcases h with (h | ⟨u, h⟩) | h
  · exact .inl (.inl (by rw [upd_ne (ne_of h hp (fun z => nomatch z))]; exact h))
  · exact .inl (.inr ⟨u, by rw [upd_ne (ne_of h hp (fun z => nomatch z))]; exact h⟩)
  · exact .inr h
theorem sql_mut {K : PySem.W.Frag} {H : Hp} {p a : Addr} {o : HO} {xs : List V} (hn : a ≠ p) (h : SqL K H a xs) : SqL K (upd H p o) a xs := by
  rcases h with (h | ⟨u, h⟩) | h
  · exact .inl (.inl (by rw [upd_ne hn]; exact h))
  · exact .inl (.inr ⟨u, by rw [upd_ne hn]; exact h⟩)
  · exact .inr h
mutual
/-- no list within -/
def noL : PyData → Bool
  | .list _ => false
  | .dict _ => false
  | .tuple ds => noLs ds
  | _ => true
def noLs : List PyData → Bool
  | [] => true
  | d :: ds => noL d && noLs ds
end
mutual
theorem dp_mut {K : PySem.W.Frag} {H : Hp} {p : Addr} {o : HO} {ys : List V} (hp : H p = some (.lst ys)) : ∀ {d : PyData} {v : V}, noL d = true → Dp K H v d → Dp K (upd H p o) v d
  | .none, _, _, h => by cases h; exact .non
  | .bool b, _, _, h => by cases h; exact .bl b
  | .int i, _, _, h => by cases h; exact .int i
  | .str x, _, _, h => by cases h; exact .str x
  | .list ds, _, n, h => by simp [noL] at n
  | .tuple ds, _, n, h => by
    cases h with
    | tup s a => exact .tup (sqt_mut hp s) (dps_mut hp (by simpa [noL] using n) a)
  | .dict _, _, _, h => by cases h
theorem dps_mut {K : PySem.W.Frag} {H : Hp} {p : Addr} {o : HO} {ys : List V} (hp : H p = some (.lst ys)) : ∀ {ds : List PyData} {vs : List V}, noLs ds = true → DpAll K H vs ds → DpAll K (upd H p o) vs ds
  | [], _, _, h => by cases h; exact .nil
  | d :: ds, _, n, h => by
    have n' : noL d = true ∧ noLs ds = true := by simpa [noLs] using n
    cases h with
    | cons a b => exact .cons (dp_mut hp n'.1 a) (dps_mut hp n'.2 b)
end
theorem noL_amt (q : Rat) : noL (amtD q) = true := by simp [amtD, noL, noLs]
theorem noLs_map {α : Type} {f : α → PyData} (h : ∀ x, noL (f x) = true) : ∀ l : List α, noLs (l.map f) = true
  | [] => by simp [noLs]
  | x :: r => by rw [List.map_cons, noLs, h x, noLs_map h r]; rfl
theorem cut_ints (ns : List Int) (a b : Nat) (h : a ≤ b) : cutV (ns.map V.int) (some (a : Int)) (some (b : Int)) = ((ns.drop a).take (b - a)).map V.int := by
  rw [cut_nat _ _ _ h, List.map_take, List.map_drop]
theorem ints_at {ns : List Int} {i : Nat} {x : V} (h : (ns.map V.int)[i]? = some x) : ∃ z, ns[i]? = some z ∧ x = .int z := by
  rw [List.getElem?_map] at h
  cases e : ns[i]? with
  | none => rw [e] at h; cases h
  | some z => rw [e] at h; exact ⟨z, rfl, (Option.some.inj h).symm⟩
theorem take_succ {α : Type} {l : List α} {i : Nat} {x : α} (h : l[i]? = some x) : l.take (i + 1) = l.take i ++ [x] := by
  rw [List.take_add_one, h]; rfl
theorem lt_size {n : Nat} (h : n ≤ 1000) : n < sizeLine := small1000 h
end Lim
namespace Lim
open PySem PySem.Spec PyProof.Rows L2
/-! a caught exception that is kept: it is tracked by what is true of its object -/
def XO (cls : Value) (d : Option Addr) (a : Addr) : HO := .ext fun h => ∃ (oe : Obj) (vs : Array Value), h.get? a = some oe ∧ Zc cls d oe ∧ oe.data = .fields vs
section
variable {X : Cx} {pins : List (Addr × Obj)} {σ : L2.St} {H : Hp} {s : Shared} {a : Addr}
/-- an object that stands untracked, and is none of the frame's own, is tracked from here on -/
theorem inv_track {o : HO} (I : Inv X pins σ H s) (na : H a = none) (n0 : X.s_0.heap.get? a = none) (nL : X.env.locals ≠ a) (nC : ∀ x c, X.env.cells.lookup x = some c → c ≠ a) (nP : ∀ p ∈ X.pn ++ pins, p.1 ≠ a)
    (new : ObjOk X.prog X.w (upd H a o) s.heap a o) : Inv X pins σ (upd H a o) s where
  ok := I.ok
  os := I.os
  bare := I.bare
  base :=
    { keep := I.base.keep
      slot := I.base.slot
      free := fun b ob e n hx => (upd_ne (fun z => by rw [z, n0] at e; cases e)).trans (I.base.free b ob e n hx)
      there := I.base.there
      tups := fun b xs e => (upd_ne (ne_of_none (I.base.tups b xs e) na)).trans (I.base.tups b xs e)
      frzs := fun b u xs e => (upd_ne (ne_of_none (I.base.frzs b u xs e) na)).trans (I.base.frzs b u xs e)
      tbls := fun b ps e => by
        obtain ⟨m, q⟩ := I.base.tbls b ps e
        exact ⟨m, (upd_ne (ne_of_none q na)).trans q⟩ }
  loc := I.loc
  cell := I.cell
  free := (upd_ne nL).trans I.free
  freeC := fun x c e => (upd_ne (nC x c e)).trans (I.freeC x c e)
  pin := fun p hp => by
    obtain ⟨h1, h2, h3⟩ := I.pin p hp
    exact ⟨h1, (upd_ne (nP p hp)).trans h2, h3⟩
  hok := fun b u e => by
    by_cases hb : b = a
    · subst hb
      rw [upd_same] at e
      cases e
      exact new
    · rw [upd_ne hb] at e
      exact (I.hok b u e).stay (fun _ _ _ q => q) (fun c q => (upd_ne (ne_of_none q na)).trans q) fun c xs q => (upd_ne (ne_of_none q na)).trans q
  len := I.len
theorem inv_suite (I : Inv X pins σ H s) (a : Addr) : Inv (X.suite a (X.pn ++ pins)) [] σ H s :=
  { ok := I.ok.suite a _, os := I.os, bare := I.bare, base := I.base, loc := I.loc, cell := I.cell, free := I.free, freeC := I.freeC, hok := I.hok, len := I.len,
    pin := fun p hp => I.pin p (by rw [List.append_nil] at hp; exact hp) }
theorem inv_back {pn' : List (Addr × Obj)} (I : Inv (X.suite a (X.pn ++ pins)) pn' σ H s) (ok : X.Ok) : Inv X pins σ H s :=
  { ok := ok, os := I.os, bare := I.bare, base := I.base, loc := I.loc, cell := I.cell, free := I.free, freeC := I.freeC, hok := I.hok, len := I.len,
    pin := fun p hp => I.pin p (List.mem_append_left _ hp) }
end
/-- what 'except x as n: suite' wishes of an exception of the body; the suite's heap tracks it -/
def wKeep (K : PySem.W.Frag) (c : Value) (i : Nat) (ts : TS) (Wout : WX) (D : Ends) : WX := fun cls d σ H =>
  ∃ b, PySem.W.exmOne K cls c = some b ∧
    (b = true → ∀ a, H a = none → ts ⟨fun σ' H' => D.nx (σ'.set i none) H', D.rt, fun σ' H' => D.bk (σ'.set i none) H', fun σ' H' => D.ct (σ'.set i none) H'⟩ (σ.set i (some (.ref a))) (upd H a (XO cls d a))) ∧
    (b = false → Wout cls d σ H)
section
variable {X : Cx} {x n : Str} {c : Value} {i : Nat} {body suite : List Stmt} {b0 : Stmt} {np pos pos' : Pos} {tb : WX → TS} {ts : TS} {Wout : WX}
theorem ps_try_keep (hs : X.stack = X.env :: X.outer) (hf : X.env.frame = some X.env.locals) (hex : X.ex = []) (hN : X.N.Nodup) (hi : X.N[i]? = some n) (hln : X.env.kindOf n = some .local) (hc : Names X x c) (tk : Takes X Wout)
    (hb : ∀ (W : WX) (pn : List (Addr × Obj)) (xe : Value → Shared → Prop), Takes (X.tr pn xe) W → PassesOwn (model X.prog X.w) X.A X.env xe → PSs (X.tr pn xe) body (tb W))
    (hsu : ∀ (a : Addr) (pn : List (Addr × Obj)), PSs (X.suite a pn) (b0 :: suite) ts) :
    PS X (.Try body [.ExceptHandler (some (.Name x np)) (some n) (b0 :: suite) pos'] [] [] pos) (fun D σ H => tb (wKeep X.K c i ts Wout D) D σ H) := by
  refine ⟨fun pins s σ H D I h => wpAny_Try_except ?_⟩
  have hfr : X.A.frames = some (X.env :: X.outer) := I.ok.frames.trans (congrArg some hs)
  -- what the try does with what flies out of its body
  let after : Value → Shared → Prop := fun e t1 => wpAny (model X.prog X.w) X.A (noteFrame e X.env)
    (fun _ t2 => wpAny (model X.prog X.w) X.A (setFlight e none) (fun _ t3 => wpAny (model X.prog X.w) X.A (handleBy e X.env [.ExceptHandler (some (.Name x np)) (some n) (b0 :: suite) pos']) (SP X pins D) X.xe t3) X.xe t2) X.xe t1
  have caught : Takes (X.tr (X.pn ++ pins) after) (wKeep X.K c i ts Wout D) := by
    rintro u s' ⟨a, B, sI, pins', σ', H', cls, d, rfl, J', nb, up, sky, na, os, ag, b, hb1, hyes, hno⟩
    have J : Inv X pins σ' H' sI := J'.ofTry I.ok
    have nb' : ∀ z o, sI.heap.get? z = some o → z ∉ frs X.stack → B.get? z = some o := nb
    have sky1 : Sky B (X.env :: X.outer) a (Zc cls d) X.env.locals s'.heap := hs ▸ sky
    show wpAny (model X.prog X.w) X.A (noteFrame (.ref a) X.env) _ _ _
    refine Sky.land Zc.steady hfr hf sky1 fun h3 f3 up3 => ?_
    have J3 : Inv X pins σ' H' { s' with heap := h3 } := J.landed nb f3.1 (up.trans up3) os ag
    have Ba : B.get? a = none := f3.2.1
    obtain ⟨oe3, vs3, he3, hz3, hd3⟩ := f3.there
    have nfr : a ∉ frs (X.env :: X.outer) := fun hm => by
      obtain ⟨_, o', e', hnf⟩ := f3.2.2.1.mem hm
      cases he3.symm.trans e'
      exact hnf _ hd3
    have nfr' : a ∉ frs X.stack := by rw [hs]; exact nfr
    have nL : X.env.locals ≠ a := fun z => nfr (List.mem_filterMap.mpr ⟨X.env, List.mem_cons_self, hf.trans (congrArg some z)⟩)
    have noI : sI.heap.get? a = none := by
      cases e : sI.heap.get? a with
      | none => rfl
      | some o => cases Ba.symm.trans (nb' a o e nfr')
    have n0 : X.s_0.heap.get? a = none := by
      cases e : X.s_0.heap.get? a with
      | none => rfl
      | some o =>
        obtain ⟨o', q⟩ := J.base.there a o e (by rw [hex]; exact fun z => nomatch z)
        cases noI.symm.trans q
    have nP : ∀ p ∈ X.pn ++ pins, p.1 ≠ a := fun p hp z => by
      have q := (J.pin p hp).1
      rw [z, noI] at q
      cases q
    refine wpAny_handleBy_cons (codeAny_handlers_test ?_) (by intro q; cases q)
    have LT : PySem.W.Looks (model X.prog X.w) h3 (typeOf (.ref a)) cls := fun A Q E s k q => wpAny_typeOf_ref (k _ _ he3) (by rw [hz3.1]; exact q)
    have S3 := inv_suite J3 a
    have named : ∀ {Q : Value → Shared → Prop} {E : Value → Shared → Prop}, Q c { s' with heap := h3 } → wpAny (model X.prog X.w) (X.A.mark (some (.ref a))) (eval (.Name x np) X.env) Q E { s' with heap := h3 } := fun {Q E} q => by
      obtain ⟨hg, hdbg, hm | ⟨hm, hv, hnn⟩⟩ := hc
      · exact ld_glob (X := X.suite a (X.pn ++ pins)) S3 hg hm q hdbg
      · exact ld_blt (X := X.suite a (X.pn ++ pins)) S3 hg hm hv q hnn hdbg
    refine named ((PySem.W.exm_one (M := model X.prog X.w) J3.kIn LT hb1).here ?_)
    cases b with
    | true =>
      refine codeAny_handlers_suite_as (HandSPX.lands_againZ f3 fun h4 f4 up4 => ?_)
      have J4 : Inv X pins σ' H' { s' with heap := h4 } := J.landed nb f4.1 ((up.trans up3).trans up4) os ag
      obtain ⟨oe4, vs4, he4, hz4, hd4⟩ := f4.there
      have J5 : Inv X pins σ' (upd H' a (XO cls d a)) { s' with heap := h4 } := by
        refine inv_track J4 na n0 nL (fun y cc e z => ?_) nP ⟨⟨oe4, vs4, he4, hz4, hd4⟩, ⟨oe4, he4⟩, fun h1 h2 ⟨o, v, q, r⟩ k => ⟨o, v, k o q, r⟩⟩
        obtain ⟨v, o, ho, hdat⟩ := J4.cell y cc e
        subst z
        cases he4.symm.trans ho
        rw [hd4] at hdat
        cases hdat
      refine store_ok (X := X.suite a (X.pn ++ pins)) (v := .ref a) (inv_suite J5 a) hN hi (.inl hln) rfl (fun s5 S5 => ?_) (.inr hln)
      refine wpAny_mono ((hsu a (X.pn ++ pins)).run [] s5 _ _ _ S5 (hyes rfl a na)) (fun f s6 hsp => ?_) (fun _ _ z => z.elim)
      have leave : ∀ {σ6 : L2.St} {H6 : Hp} {Q : Shared → Prop}, Inv (X.suite a (X.pn ++ pins)) [] σ6 H6 s6 → (∀ s7, Inv X pins (σ6.set i none) H6 s7 → Q s7) →
          wpAny (model X.prog X.w) X.A (do bindName X.env n .none; unbindBehindTheSuite X.env n pos') (fun _ s7 => Q s7) X.xe s6 := fun S6 hq => gone_ok (inv_back S6 I.ok) hN hi hln hq
      cases f with
      | next => obtain ⟨_, _, S6, q6⟩ := hsp; exact leave S6 fun s7 J7 => ⟨_, _, J7, q6⟩
      | brk => obtain ⟨_, _, S6, q6⟩ := hsp; exact leave S6 fun s7 J7 => ⟨_, _, J7, q6⟩
      | cont => obtain ⟨_, _, S6, q6⟩ := hsp; exact leave S6 fun s7 J7 => ⟨_, _, J7, q6⟩
      | ret u => obtain ⟨_, _, _, S6, r6, q6⟩ := hsp; exact leave S6 fun s7 J7 => ⟨_, _, _, J7, r6, q6⟩
    | false =>
      refine wpAny_handleBy_nil ?_
      obtain ⟨_, _, _, oe, vs, T, oT, _, he, hz, hd, h1, _⟩ := id f3
      unfold PySem.passOn
      refine wpAny_bind (wpAny_field he hd h1 ?_)
      rw [if_neg (by simp : ¬ ((Value.ref T == Value.none) = true))]
      have onward : wpAny (model X.prog X.w) X.A (setFlight (.ref a) X.env.frame) (fun _ t4 => wpAny (model X.prog X.w) X.A (throw (.ref a) : Sem Flow) (SP X pins D) X.xe t4) X.xe { s' with heap := h3 } := by
        rw [hf]
        refine HandSPX.setFlight_upZ f3 fun h4 hh4 up4 => wpAny_throw (tk _ _ ?_)
        exact ⟨a, B, sI, pins, σ', H', cls, d, rfl, J, nb, (up.trans up3).trans up4, .inr (.inr (hs.symm ▸ hh4)), na, os, ag, hno rfl⟩
      first
        | exact wpAny_bind (wpAny_pure (wpAny_bind onward))
        | exact wpAny_bind onward
  refine wpAny_mono ((hb _ (X.pn ++ pins) after caught PassesOwn.looking).run [] s σ H D (I.toTry _) h) (fun f s1 hsp => ?_) (fun e s1 he => he)
  cases f with
  | next => obtain ⟨_, _, J', q⟩ := hsp; exact wpAny_execs_nil ⟨_, _, J'.ofTry I.ok, q⟩
  | brk => obtain ⟨_, _, J', q⟩ := hsp; exact ⟨_, _, J'.ofTry I.ok, q⟩
  | cont => obtain ⟨_, _, J', q⟩ := hsp; exact ⟨_, _, J'.ofTry I.ok, q⟩
  | ret u => obtain ⟨_, _, _, J', r, q⟩ := hsp; exact ⟨_, _, _, J'.ofTry I.ok, r, q⟩
end
theorem pe_gref {X : Cx} {x : Str} {a : Addr} {pos : Pos} (h : X.mg x = some (.ref a)) (hg : Gl X x := by rfl) (hdb : (x == ("__debug__" : Str)) = false := by decide) : PE X (.Name x pos) (tC (.ref a)) := pe_glob hg h rfl hdb
/-! isinstance of a kept exception without a dict of its own -/
@[irreducible] def rIsX (K : PySem.W.Frag) : List V → Hp → VK → Prop := fun xs H Q => ∃ (a D : Addr) (c : V) (u : Value) (b : Bool), xs = [.ref a, c] ∧ H a = some (XO (.ref D) none a) ∧ ExcC K D ∧ ClsV c u ∧ PySem.W.kitOne K (.ref D) u = some b ∧ Q (.bl b) H
@[irreducible] def rIsXT (K : PySem.W.Frag) : List V → Hp → VK → Prop := fun xs H Q => ∃ (a D tp : Addr) (cs : List V) (us : List Value) (b : Bool), xs = [.ref a, .ref tp] ∧ H a = some (XO (.ref D) none a) ∧ ExcC K D ∧ H tp = some (.tup cs) ∧ Paired ClsV cs us ∧ PySem.W.kitAny K (.ref D) us = some b ∧ Q (.bl b) H
section
variable {X : Cx}
theorem xo_at {pins : List (Addr × Obj)} {σ : L2.St} {H : Hp} {s : Shared} {a D : Addr} (I : Inv X pins σ H s) (h : H a = some (XO (.ref D) none a)) : ∃ oe, PySem.W.InstAt s.heap a oe D none := by
  obtain ⟨⟨oe, vs, he, hz, hd⟩, _⟩ := (I.hok a _ h : ObjOk X.prog X.w H s.heap a (XO (.ref D) none a))
  refine ⟨oe, ?_⟩
  obtain ⟨oc, od, oda, osl⟩ := oe
  obtain ⟨h1, h2⟩ := hz
  dsimp only at h1 h2 hd
  subst h1 h2 hd
  exact ⟨he, rfl, rfl, trivial⟩
theorem call_isX : CallR X (.builtin "isinstance") (rIsX X.K) := by
  intro pins s σ H xs us Q I r h
  unfold rIsX at h
  obtain ⟨a, D, c, u, b, rfl, ha, C, k, e, q⟩ := h
  obtain ⟨u1, u2, rfl, r1, r2⟩ := vals2 r
  cases (show u1 = Value.ref a from r1)
  cases k.eq r2
  obtain ⟨oe, J⟩ := xo_at I ha
  exact PySem.W.kia_one (PySem.W.handS_kitx_exc C.hg C.hk C.hs C.hd C.ha C.hn C.ht C.hm) I.kIn J e (fun z => nomatch z) fun tk => ⟨.bl b, H, I.tok tk, rfl, q⟩
theorem call_isXT : CallR X (.builtin "isinstance") (rIsXT X.K) := by
  intro pins s σ H xs us Q I r h
  unfold rIsXT at h
  obtain ⟨a, D, tp, cs, ws, b, rfl, ha, C, hT, k, e, q⟩ := h
  obtain ⟨u1, u2, rfl, r1, r2⟩ := vals2 r
  cases (show u1 = Value.ref a from r1)
  cases (show u2 = Value.ref tp from r2)
  obtain ⟨oe, J⟩ := xo_at I ha
  obtain ⟨_, its, rv, o, h1, h2, n, h3⟩ := (show ObjOk X.prog X.w H s.heap tp (.tup cs) from I.hok tp _ hT)
  cases ClsV.all k rv
  obtain ⟨oc, od, dt, sl⟩ := o
  simp only at h2 h3
  subst h2 h3
  exact PySem.W.kia_tup (PySem.W.handS_kitx_exc C.hg C.hk C.hs C.hd C.ha C.hn C.ht C.hm) I.kIn J h1 e (fun z => nomatch z) fun tk => ⟨.bl b, H, I.tok tk, rfl, q⟩
end
/-! the head's facts with further looks at the written part -/
abbrev Fx := PySem.W.Frag → Bool
def obsP (n : Nat) (fa : List He.Fa) (fn : List He.DefD) (ex : List Fx) (g : Addr → Option Obj) : He.AlD × Bool := (He.obsDG n fa fn g, ex.all fun f => f (He.frG g (He.asD g n)))
structure SaysP (fa : List He.Fa) (fn : List He.DefD) (ex : List Fx) (K : PySem.W.Frag) : Prop where
  d : He.SaysD fa fn K
  x : (ex.all fun f => f K) = true
theorem SaysP.get {fa : List He.Fa} {fn : List He.DefD} {ex : List Fx} {K : PySem.W.Frag} (c : SaysP fa fn ex K) (i : Nat) {f : Fx} (h : ex[i]? = some f) : f K = true := List.all_eq_true.mp c.x f (List.mem_of_getElem? h)
def hookP (n : Nat) (fa : List He.Fa) (fn : List He.DefD) (ex : List Fx) : PySem.W.Hook where
  α := He.AlD × Bool
  obs := fun s => obsP n fa fn ex s.heap.get?
  val := fun _ => (He.valD fn, true)
  says := fun _ h => ∃ K : PySem.W.Frag, K.In h ∧ SaysP fa fn ex K
  of := fun _ _ e => ⟨_, He.frG_in, ⟨congrArg (fun z : He.AlD × Bool => z.1) e, congrArg (fun z : He.AlD × Bool => z.2) e⟩⟩
  keeps := fun _ _ _ ⟨K, hK, c⟩ k => ⟨K, PySem.W.Frag.In.keeps hK k, c⟩
theorem obsP_eq {n : Nat} {fa : List He.Fa} {fn : List He.DefD} {ex : List Fx} {g : Addr → Option Obj} {s : Shared} (h : ∀ a, g a = s.heap.get? a) : obsP n fa fn ex g = (hookP n fa fn ex).obs s := by
  have e : g = s.heap.get? := funext h
  rw [e] <;> rfl
/-- a class by its name: of the module, or built in -/
inductive Cv where
  | own (x : Str)
  | ty (n : String)
def Cv.val (K : PySem.W.Frag) : Cv → Value
  | .own x => .ref (He.ga K x)
  | .ty n => .type n
def Cv.v (K : PySem.W.Frag) : Cv → V
  | .own x => .ref (He.ga K x)
  | .ty n => .ty n
def fxKit (x : Str) (y : Cv) (b : Bool) : Fx := fun K => decide (PySem.W.kitOne K (.ref (He.ga K x)) (y.val K) = some b)
def fxAny (x : Str) (ys : List Cv) (b : Bool) : Fx := fun K => decide (PySem.W.kitAny K (.ref (He.ga K x)) (ys.map (Cv.val K)) = some b)
def fxExc (x : Str) : Fx := fun K => He.eqO (PySem.W.findIn K (.ref (He.ga K x)) "__getattribute__") (some (some (.builtin "BaseException.__getattribute__"))) &&
  (He.eqO (PySem.W.findIn K (.ref (He.ga K x)) "__getattr__") (some none) && (decide (PySem.W.subIn K (.ref (He.ga K x)) (.type "BaseException") = some true) && (PySem.W.hasDictIn K (He.ga K x) &&
  (He.eqO (PySem.W.findIn K (.ref (He.ga K x)) "__class__") (some (some (.builtin "object.__class__"))) && (He.eqO (PySem.W.specialIn K (.builtin "object.__class__") "__get__") (some (some (.builtin "getset_descriptor.__get__"))) &&
  (decide (PySem.W.takesIn K (.builtin "object.__class__") = some true) && decide (PySem.W.mroIn K (He.ga K x) (.type "object") = some true)))))))
theorem fxKit_ok {K : PySem.W.Frag} {x : Str} {y : Cv} {b : Bool} (h : fxKit x y b K = true) : PySem.W.kitOne K (.ref (He.ga K x)) (y.val K) = some b := of_decide_eq_true h
theorem fxAny_ok {K : PySem.W.Frag} {x : Str} {ys : List Cv} {b : Bool} (h : fxAny x ys b K = true) : PySem.W.kitAny K (.ref (He.ga K x)) (ys.map (Cv.val K)) = some b := of_decide_eq_true h
theorem fxExc_ok {K : PySem.W.Frag} {x : Str} (h : fxExc x K = true) : ExcC K (He.ga K x) := by
  obtain ⟨h1, h⟩ := He.ba h
  obtain ⟨h2, h⟩ := He.ba h
  obtain ⟨h3, h⟩ := He.ba h
  obtain ⟨h4, h⟩ := He.ba h
  obtain ⟨h5, h⟩ := He.ba h
  obtain ⟨h6, h⟩ := He.ba h
  obtain ⟨h7, h8⟩ := He.ba h
  exact ⟨He.eqO_ok h1, He.eqO_ok h2, of_decide_eq_true h3, h4, He.eqO_ok h5, He.eqO_ok h6, of_decide_eq_true h7, of_decide_eq_true h8⟩
theorem clsvs (K : PySem.W.Frag) : ∀ ys : List Cv, Paired ClsV (ys.map (Cv.v K)) (ys.map (Cv.val K))
  | [] => .nil
  | .own x :: r => .cons (.own _) (clsvs K r)
  | .ty n :: r => .cons (.ty _) (clsvs K r)
/-- isinstance(e, (C1, ..)), the tuple just laid at p -/
theorem isxt {K : PySem.W.Frag} {H : Hp} {Q : VK} {x : Str} {a p : Addr} {b : Bool} (ys : List Cv) (h : PySem.W.kitAny K (.ref (He.ga K x)) (ys.map (Cv.val K)) = some b) (C : ExcC K (He.ga K x)) (np : H p = none) (ha : H a = some (XO (.ref (He.ga K x)) none a))
    (q : ∀ H', Same H H' → Q (.bl b) H') : rIsXT K [.ref a, .ref p] (upd H p (.tup (ys.map (Cv.v K)))) Q := by
  unfold rIsXT
  exact ⟨a, _, p, _, _, b, rfl, (upd_ne (ne_of_none ha np)).trans ha, C, upd_same, clsvs K ys, h, q _ (Same.new np)⟩
theorem clsv1 (K : PySem.W.Frag) : ∀ y : Cv, ClsV (y.v K) (y.val K)
  | .own _ => .own _
  | .ty _ => .ty _
theorem isx {K : PySem.W.Frag} {H : Hp} {Q : VK} {x : Str} {a : Addr} {b : Bool} (y : Cv) (h : PySem.W.kitOne K (.ref (He.ga K x)) (y.val K) = some b) (C : ExcC K (He.ga K x)) (ha : H a = some (XO (.ref (He.ga K x)) none a))
    (q : Q (.bl b) H) : rIsX K [.ref a, y.v K] H Q := by
  unfold rIsX
  exact ⟨a, _, _, _, b, rfl, ha, C, clsv1 K y, h, q⟩
end Lim
namespace Lim
open PySem PySem.Spec PyProof.Rows L2
/-! loops over any walk -/
section
variable {J : It} {n : Nat} {G : Hp → Prop} {Y : Nat → Hp → V → Hp → Prop} {g : TG} {tb : TS} {D : Ends} {σ : L2.St} {H : Hp}
theorem lr_it (w : Walk J n G Y) (Pv : Nat → L2.St → Hp → Prop) (h0 : Pv 0 σ H) (hG : ∀ i σ H, i ≤ n → Pv i σ H → G H)
    (hs : ∀ i x σ H H', i < n → Pv i σ H → Y i H x H' → g x σ H' fun σ2 H2 => tb { D with nx := Pv (i + 1), ct := Pv (i + 1), bk := D.nx } σ2 H2) (hd : ∀ σ H, Pv n σ H → D.nx σ H) : LoopR J g tb D σ H := by
  unfold LoopR; exact for_it w Pv h0 hG hs hd
theorem lr_str {z : Str} (Pv : Nat → L2.St → Hp → Prop) (h0 : Pv 0 σ H)
    (hs : ∀ i c σ H, z.cps[i]? = some c → Pv i σ H → g (.str ⟨#[c]⟩) σ H fun σ2 H2 => tb { D with nx := Pv (i + 1), ct := Pv (i + 1), bk := D.nx } σ2 H2) (hd : ∀ σ H, Pv z.cps.size σ H → D.nx σ H) : LoopR (Its z) g tb D σ H := by
  refine lr_it walk_str Pv h0 (fun _ _ _ _ _ => trivial) (fun i x σ H H' _ p ⟨e, c, h1, h2⟩ => ?_) hd
  subst e h2
  exact hs i c σ _ h1 p
end
section
variable {J : It} {n : Nat} {G : Hp → Prop} {Y : Nat → Hp → V → Hp → Prop} {g : TG} {tt : TT} {te : TE} {vs : List Nat} {σ : L2.St} {H1 : Hp} {D : Addr} {Q : VK} {K : PySem.W.Frag}
theorem lcr_it (w : Walk J n G Y) (Pv : Nat → Hp → Prop) (h0 : Pv 0 (upd H1 D (.lst []))) (hG : ∀ i H, i ≤ n → Pv i H → G H)
    (hs : ∀ i x H H', i < n → Pv i H → Y i H x H' → g x (wipe σ vs) H' fun σ2 H2 => wipe σ2 vs = wipe σ vs ∧ tt σ2 H2 fun b H3 =>
      if b = true then te σ2 H3 fun y H4 => ∃ acc, H4 D = some (.lst acc) ∧ acc.length < sizeLine ∧ Pv (i + 1) (upd H4 D (.lst (acc ++ [y]))) else Pv (i + 1) H3) (hd : ∀ H, Pv n H → Q (.ref D) H) : LcR J g tt te vs σ D H1 Q := by
  unfold LcR; exact lc_it w (Qd := Q (.ref D)) Pv h0 hG hs hd
end
/-! sizes, by the form of a term -/
theorem bit_add {a b : Nat} {i j : Int} (ha : Bit a i) (hb : Bit b j) : Bit (max a b + 1) (i + j) := (ha.mono (Nat.le_max_left a b)).add (hb.mono (Nat.le_max_right a b))
theorem bit_sub {a b : Nat} {i j : Int} (ha : Bit a i) (hb : Bit b j) : Bit (max a b + 1) (i - j) := (ha.mono (Nat.le_max_left a b)).sub (hb.mono (Nat.le_max_right a b))
theorem bit_lit (i : Int) : Bit (i.natAbs.log2 + 1) i := by
  unfold Bit
  exact Nat.lt_log2_self
theorem bit_fmod (a : Int) {b : Int} (h : 0 < b) : Bit (b.natAbs.log2 + 1) (a.fmod b) := by
  have h1 := Int.fmod_nonneg_of_pos a h
  have h2 := Int.fmod_lt_of_pos a h
  exact (bit_lit b).le (by omega)
/-! texts by their signs -/
abbrev tx (l : List Nat) : Str := ⟨l.toArray⟩
theorem tx_of (z : Str) : z = tx z.cps.toList := by cases z; simp
theorem tx_len (l : List Nat) : (tx l).length = l.length := by show l.toArray.size = _; simp
theorem tx_cps (l : List Nat) : (tx l).cps.toList = l := by simp
theorem tx_inj {a b : List Nat} : tx a = tx b ↔ a = b := ⟨fun h => by have := congrArg (fun z : Str => z.cps.toList) h; simpa using this, fun h => by rw [h]⟩
theorem tx_add (a b : List Nat) : tx a ++ tx b = tx (a ++ b) := by
  refine Str.ext' ?_
  show (Str.append (tx a) (tx b)).cps = _
  simp [Str.append]
theorem cutS_to (l : List Nat) (b : Nat) : cutS (tx l) none (some (b : Int)) = tx (l.take b) := by
  unfold cutS
  rw [HT.sIx_none, HT.sIx_nat, tx_cps, tx_len, List.drop_zero, Nat.sub_zero]
  by_cases h2 : b ≤ l.length
  · rw [Nat.min_eq_left h2]
  · rw [Nat.min_eq_right (by omega), List.take_length, List.take_of_length_le (by omega)]
theorem cutS_from (l : List Nat) (a : Nat) : cutS (tx l) (some (a : Int)) none = tx (l.drop a) := by
  unfold cutS
  rw [HT.sIx_none, HT.sIx_nat, tx_cps, tx_len]
  by_cases h1 : a ≤ l.length
  · rw [Nat.min_eq_left h1, List.take_of_length_le (by rw [List.length_drop]; omega)]
  · rw [Nat.min_eq_right (by omega), List.drop_of_length_le (Nat.le_refl _), List.drop_of_length_le (by omega)]
    simp
theorem cutS_nat (l : List Nat) (a b : Nat) (h : a ≤ b) : cutS (tx l) (some (a : Int)) (some (b : Int)) = tx ((l.drop a).take (b - a)) := by
  unfold cutS
  rw [HT.sIx_nat, HT.sIx_nat, tx_cps, tx_len]
  by_cases h1 : a ≤ l.length
  · rw [Nat.min_eq_left h1]
    by_cases h2 : b ≤ l.length
    · rw [Nat.min_eq_left h2]
    · rw [Nat.min_eq_right (by omega), List.take_of_length_le (by rw [List.length_drop]; omega), List.take_of_length_le (by rw [List.length_drop]; omega)]
  · rw [Nat.min_eq_right (by omega), Nat.min_eq_right (by omega), List.drop_of_length_le (Nat.le_refl _), List.drop_of_length_le (by omega)]
    simp
theorem atI_lt {α : Type} {l : List α} {i : Int} (h0 : 0 ≤ i) (h1 : i < l.length) : ∃ c, atI l i = some c ∧ c ∈ l := by
  obtain ⟨j, rfl⟩ := Int.eq_ofNat_of_zero_le h0
  have hj : j < l.length := by omega
  exact ⟨l[j], atI_nat (j := j) (List.getElem?_eq_getElem hj), List.getElem_mem hj⟩
/-! rules for texts by their signs -/
def cutL (l : List Nat) (lo hi : Option Int) : List Nat := (l.drop (HT.sIx l.length 0 lo)).take (HT.sIx l.length l.length hi - HT.sIx l.length 0 lo)
theorem cutS_tx (l : List Nat) (lo hi : Option Int) : cutS (tx l) lo hi = tx (cutL l lo hi) := by
  unfold cutS cutL
  rw [tx_cps, tx_len]
theorem cutL_to (l : List Nat) (b : Nat) : cutL l none (some (b : Int)) = l.take b := tx_inj.mp ((cutS_tx l _ _).symm.trans (cutS_to l b))
theorem cutL_from (l : List Nat) (a : Nat) : cutL l (some (a : Int)) none = l.drop a := tx_inj.mp ((cutS_tx l _ _).symm.trans (cutS_from l a))
theorem cutL_nat (l : List Nat) (a b : Nat) (h : a ≤ b) : cutL l (some (a : Int)) (some (b : Int)) = (l.drop a).take (b - a) := tx_inj.mp ((cutS_tx l _ _).symm.trans (cutS_nat l a b h))
theorem cutL_len (l : List Nat) (lo hi : Option Int) : (cutL l lo hi).length ≤ l.length := by
  unfold cutL
  rw [List.length_take, List.length_drop]; omega
theorem cutL_mem {l : List Nat} {lo hi : Option Int} {c : Nat} (h : c ∈ cutL l lo hi) : c ∈ l := List.mem_of_mem_drop (List.mem_of_mem_take h)
/-- the signs of a text, by itself -/
abbrev SzT (n : Nat) : Prop := n ≤ 1000000
theorem SzT.ok {n : Nat} (h : SzT n) : n ≤ sizeLine := by rw [sizeLine_eq]; omega
section
variable {X : Cx}
theorem pe_tx {x : Str} {j : Nat} {pos : Pos} (l : List Nat) (h : x = tx l) : PE X (.Constant (.str x) j pos) (tC (.str (tx l))) := by
  subst h; exact pe_str
theorem pe_gtx {x z : Str} {pos : Pos} (l : List Nat) (e : z = tx l) (h : ∃ t, X.mg x = some (.str z t)) (hg : Gl X x := by rfl) (hdb : (x == ("__debug__" : Str)) = false := by decide) : PE X (.Name x pos) (tC (.str (tx l))) := by
  subst e; exact pe_gstr h hg hdb
def rAddT : R2 := fun x y H Q => ∃ i j : List Nat, x = .str (tx i) ∧ y = .str (tx j) ∧ SzT (i.length + j.length) ∧ Q (.str (tx (i ++ j))) H
theorem op_addT : OpR X (binaryOp .Add) rAddT := by
  intro pins s σ H x y v u Q I rx ry h
  obtain ⟨i, j, rfl, rfl, hz, q⟩ := h
  exact op_add_str pins s σ H _ _ v u Q I rx ry ⟨_, _, rfl, rfl, by rw [tx_len, tx_len]; exact hz.ok, by rw [tx_add]; exact q⟩
def rSlT : V → Option Int → Option Int → Hp → VK → Prop := fun x lo hi H Q => ∃ z : List Nat, x = .str (tx z) ∧ SzT z.length ∧ Q (.str (tx (cutL z lo hi))) H
theorem sl_T : SlR X rSlT := by
  intro pins s σ H x v vl vu lo hi sl Q I rx hs pl pu h
  obtain ⟨z, rfl, hz, q⟩ := h
  exact sl_str pins s σ H _ v vl vu lo hi sl Q I rx hs pl pu ⟨_, rfl, by rw [tx_len]; exact hz.ok, by rw [cutS_tx]; exact q⟩
def rIxT : R2 := fun x y H Q => ∃ (z : List Nat) (i : Int) (c : Nat), x = .str (tx z) ∧ y = .int i ∧ SzT z.length ∧ atI z i = some c ∧ Q (.str (tx [c])) H
theorem ix_T : IxR X rIxT := by
  intro value slice pins s σ H x y v u Q I rx ry h hs
  obtain ⟨z, i, c, rfl, rfl, hz, ha, q⟩ := h
  exact ix_str value slice pins s σ H _ _ v u Q I rx ry ⟨_, _, c, rfl, rfl, by rw [tx_len]; exact hz.ok, by rw [tx_cps]; exact ha, q⟩ hs
theorem op_inT : OpR X (compareOp .In) (fun x y H Q => ∃ (c : Nat) (z : List Nat), x = .str (tx [c]) ∧ y = .str (tx z) ∧ Q (.bl (decide (c ∈ z))) H) := by
  intro pins s σ H x y v u Q I rx ry h
  obtain ⟨c, z, rfl, rfl, q⟩ := h
  exact op_in_sign pins s σ H _ _ v u Q I rx ry ⟨c, _, rfl, rfl, by rw [tx_cps]; exact q⟩
theorem op_notInT : OpR X (compareOp .NotIn) (fun x y H Q => ∃ (c : Nat) (z : List Nat), x = .str (tx [c]) ∧ y = .str (tx z) ∧ Q (.bl (!decide (c ∈ z))) H) := by
  intro pins s σ H x y v u Q I rx ry h
  obtain ⟨c, z, rfl, rfl, q⟩ := h
  exact op_notIn_sign pins s σ H _ _ v u Q I rx ry ⟨c, _, rfl, rfl, by rw [tx_cps]; exact q⟩
theorem op_ltT : OpR X (compareOp .Lt) (fun x y H Q => ∃ i j : List Nat, x = .str (tx i) ∧ y = .str (tx j) ∧ Q (.bl (decide (i < j))) H) := by
  intro pins s σ H x y v u Q I rx ry h
  obtain ⟨i, j, rfl, rfl, q⟩ := h
  exact op_lt_str pins s σ H _ _ v u Q I rx ry ⟨_, _, rfl, rfl, by rw [tx_cps, tx_cps]; exact q⟩
theorem op_gtT : OpR X (compareOp .Gt) (fun x y H Q => ∃ i j : List Nat, x = .str (tx i) ∧ y = .str (tx j) ∧ Q (.bl (decide (j < i))) H) := by
  intro pins s σ H x y v u Q I rx ry h
  obtain ⟨i, j, rfl, rfl, q⟩ := h
  exact op_gt_str pins s σ H _ _ v u Q I rx ry ⟨_, _, rfl, rfl, by rw [tx_cps, tx_cps]; exact q⟩
theorem op_leT : OpR X (compareOp .LtE) (fun x y H Q => ∃ i j : List Nat, x = .str (tx i) ∧ y = .str (tx j) ∧ Q (.bl (!decide (j < i))) H) := by
  intro pins s σ H x y v u Q I rx ry h
  obtain ⟨i, j, rfl, rfl, q⟩ := h
  exact op_le_str pins s σ H _ _ v u Q I rx ry ⟨_, _, rfl, rfl, by rw [tx_cps, tx_cps]; exact q⟩
theorem op_geT : OpR X (compareOp .GtE) (fun x y H Q => ∃ i j : List Nat, x = .str (tx i) ∧ y = .str (tx j) ∧ Q (.bl (!decide (i < j))) H) := by
  intro pins s σ H x y v u Q I rx ry h
  obtain ⟨i, j, rfl, rfl, q⟩ := h
  exact op_ge_str pins s σ H _ _ v u Q I rx ry ⟨_, _, rfl, rfl, by rw [tx_cps, tx_cps]; exact q⟩
theorem call_lenT : CallR X (.builtin "len") (fun xs H Q => ∃ z : List Nat, xs = [.str (tx z)] ∧ SzT z.length ∧ Q (.int z.length) H) := by
  intro pins s σ H xs us Q I r h
  obtain ⟨z, rfl, hz, q⟩ := h
  exact call_len_str pins s σ H _ us Q I r ⟨_, rfl, by rw [tx_len]; exact hz.ok, by rw [tx_len]; exact q⟩
/-- the figures of a number -/
def figs (i : Int) : List Nat := (Str.ofString (toString i)).cps.toList
theorem call_strT : CallR X (.type "str") (fun xs H Q => ∃ i, xs = [.int i] ∧ i.natAbs.log2 < 1920 ∧ Q (.str (tx (figs i))) H) := by
  intro pins s σ H xs us Q I r h
  obtain ⟨i, rfl, hz, q⟩ := h
  exact call_str_int pins s σ H _ us Q I r ⟨i, rfl, hz, (tx_of (Str.ofString (toString i))) ▸ q⟩
def ItT (l : List Nat) : It := Its (tx l)
def iTx (te : TE) : TI := fun σ H R => te σ H fun v H1 => ∃ l : List Nat, v = .str (tx l) ∧ R (ItT l) H1
theorem pi_T {tg e : Expr} {te : TE} (he : PE X e te) : PI X tg e (iTx te) := by
  refine ⟨fun pins s σ H R I h => ?_⟩
  refine thn (he.run pins s σ H _ I h) fun v s1 ⟨y, H1, I1, r1, l, ex, q⟩ => ?_
  subst ex
  obtain ⟨t, rfl⟩ := r1
  cases ha : (tx l).cps.all (· < 128)
  · exact wpAny_pyIter_wide ha (pi_one (tk := s1.toks) I1 _ (turn_str _ (tx l) t "str_iterator" (.inr rfl)) ⟨_, Heap.get?_push_size _ rfl, rfl, rfl⟩ q)
  · exact wpAny_pyIter_ascii ha (pi_one (tk := s1.toks) I1 _ (turn_str _ (tx l) t "str_ascii_iterator" (.inl rfl)) ⟨_, Heap.get?_push_size _ rfl, rfl, rfl⟩ q)
end
theorem figs_nat (m : Nat) : figs (m : Int) = (Nat.toDigits 10 m).map Char.toNat := by
  have := text_ofNat m
  unfold figs
  rw [show ((m : Nat) : Int) = Int.ofNat m from rfl, this]
section
variable {g : TG} {tb : TS} {D : Ends} {σ : L2.St} {H : Hp}
theorem lr_T {l : List Nat} (Pv : Nat → L2.St → Hp → Prop) (h0 : Pv 0 σ H)
    (hs : ∀ i c σ H, l[i]? = some c → Pv i σ H → g (.str (tx [c])) σ H fun σ2 H2 => tb { D with nx := Pv (i + 1), ct := Pv (i + 1), bk := D.nx } σ2 H2) (hd : ∀ σ H, Pv l.length σ H → D.nx σ H) : LoopR (ItT l) g tb D σ H := by
  refine lr_str (z := tx l) Pv h0 (fun i c σ H h p => hs i c σ H (by simpa using h) p) (fun σ H p => hd σ H (by simpa using p))
end
theorem ifX {i j : List Nat} {A B : Prop} (h1 : i = j → A) (h2 : i ≠ j → B) : if decide (V.str (tx i) = V.str (tx j)) = true then A else B := ifS (fun h => h1 (tx_inj.mp h)) (fun h => h2 fun e => h (by rw [e]))
theorem ifnX {i j : List Nat} {A B : Prop} (h1 : i ≠ j → A) (h2 : i = j → B) : if (!decide (V.str (tx i) = V.str (tx j))) = true then A else B := ifnS (fun h => h1 fun e => h (by rw [e])) (fun h => h2 (tx_inj.mp h))
/-! names -/
def SG : List Nat := ("0123456789ABCDEFGHIJKLMNOPQRSTUVWXYZabcdefghijklmnopqrstuvwxyz" : Str).cps.toList
def isNm (l : List Nat) : Bool := decide (l = [42]) || (decide (0 < l.length) && (decide (l.length ≤ 12) && l.all fun c => decide (c ∈ SG)))
theorem isNm_star : isNm [42] = true := by decide +kernel
theorem isNm_mk {l : List Nat} (h0 : 0 < l.length) (h1 : l.length ≤ 12) (h : ∀ c ∈ l, c ∈ SG) : isNm l = true := by
  unfold isNm
  rw [decide_eq_true h0, decide_eq_true h1, List.all_eq_true.mpr (fun c hc => decide_eq_true (h c hc))]
  simp
theorem isNm_out {l : List Nat} (h : isNm l = true) : 0 < l.length ∧ l.length ≤ 12 ∧ (l = [42] ∨ ∀ c ∈ l, c ∈ SG) := by
  unfold isNm at h
  rw [Bool.or_eq_true, Bool.and_eq_true, Bool.and_eq_true, List.all_eq_true] at h
  rcases h with h | ⟨h0, h1, h2⟩
  · have := of_decide_eq_true h; subst this; simp
  · exact ⟨of_decide_eq_true h0, of_decide_eq_true h1, .inr fun c hc => of_decide_eq_true (h2 c hc)⟩
theorem isNm_not {l : List Nat} (h : ¬ (l = [42]) ∧ (12 < l.length ∨ ∃ c ∈ l, c ∉ SG)) : isNm l = false := by
  cases e : isNm l with
  | false => rfl
  | true =>
    obtain ⟨_, h1, h2⟩ := isNm_out e
    rcases h with ⟨h3, h4 | ⟨c, h5, h6⟩⟩
    · omega
    · rcases h2 with h2 | h2
      · exact absurd h2 h3
      · exact absurd (h2 c h5) h6
theorem SG_len : SG.length = 62 := by decide +kernel
abbrev nmV (l : List Nat) : V := .str (tx l)
abbrev nmD (l : List Nat) : PyData := .str (tx l)
/-- names that can be a tree's -/
structure Nms (ls : List (List Nat)) : Prop where
  nm : ∀ l ∈ ls, isNm l = true
  nd : ls.Nodup
  pos : 0 < ls.length
  le : ls.length ≤ 24
/-! the order of texts -/
theorem lt_tri (a b : List Nat) : a < b ∨ a = b ∨ b < a := by
  by_cases h1 : a < b
  · exact .inl h1
  · by_cases h2 : b < a
    · exact .inr (.inr h2)
    · exact .inr (.inl (List.le_antisymm (List.not_lt.mp h2) (List.not_lt.mp h1)))
abbrev Asc (ls : List (List Nat)) : Prop := ls.Pairwise (fun a b => a < b)
def leN (a b : List Nat) : Bool := !decide (b < a)
theorem leN_iff {a b : List Nat} : leN a b = true ↔ ¬ b < a := by unfold leN; simp
/-- sorted -/
def srt (ls : List (List Nat)) : List (List Nat) := ls.mergeSort leN
theorem srt_perm (ls : List (List Nat)) : (srt ls).Perm ls := List.mergeSort_perm ..
theorem leN_trans {a b c : List Nat} (h1 : leN a b = true) (h2 : leN b c = true) : leN a c = true := by
  rw [leN_iff] at *
  intro h
  rcases lt_tri a b with h3 | h3 | h3
  · exact h2 (List.lt_trans h h3)
  · subst h3; exact h2 h
  · exact h1 h3
theorem srt_sorted (ls : List (List Nat)) : (srt ls).Pairwise (fun a b => leN a b = true) := by
  refine List.pairwise_mergeSort (le := leN) (fun a b c h1 h2 => leN_trans h1 h2) (fun a b => ?_) ls
  rw [Bool.or_eq_true, leN_iff, leN_iff]
  rcases lt_tri a b with h3 | h3 | h3
  · exact .inl (fun h => List.lt_irrefl _ (List.lt_trans h h3))
  · subst h3; exact .inl (List.lt_irrefl _)
  · exact .inr (fun h => List.lt_irrefl _ (List.lt_trans h h3))
theorem srt_asc {ls : List (List Nat)} (h : ls.Nodup) : Asc (srt ls) := by
  have h1 := srt_sorted ls
  have h2 : (srt ls).Nodup := (srt_perm ls).nodup_iff.mpr h
  refine (List.pairwise_and_iff.mpr ⟨h1, h2⟩ : (srt ls).Pairwise fun a b => leN a b = true ∧ a ≠ b).imp ?_
  intro a b ⟨h3, h4⟩
  rcases lt_tri a b with h5 | h5 | h5
  · exact h5
  · exact absurd h5 h4
  · exact absurd h5 (leN_iff.mp h3)
theorem sorted_uniq {as bs : List (List Nat)} (p : as.Perm bs) (ha : as.Pairwise (fun a b => leN a b = true)) (hb : bs.Pairwise (fun a b => leN a b = true)) : as = bs := by
  refine List.Perm.eq_of_pairwise (le := fun a b => leN a b = true) (fun a b _ _ h1 h2 => ?_) ha hb p
  rw [leN_iff] at h1 h2
  rcases lt_tri a b with h5 | h5 | h5
  · exact absurd h5 h2
  · exact h5
  · exact absurd h5 h1
theorem risingS_pw : ∀ (p : Str) (l : List Str), risingS p l = true → (p :: l).Pairwise (fun a b => leN a.cps.toList b.cps.toList = true)
  | p, [], _ => by simp
  | p, x :: r, h => by
    have h' : (!ltCps x.cps.toList p.cps.toList && risingS x r) = true := h
    rw [Bool.and_eq_true, ltCps_eq] at h'
    have h2 := risingS_pw x r h'.2
    refine List.pairwise_cons.mpr ⟨fun y hy => ?_, h2⟩
    rcases List.mem_cons.mp hy with rfl | hy
    · exact h'.1
    · exact leN_trans h'.1 (List.rel_of_pairwise_cons h2 hy)
theorem sortedS_srt {ys : List Str} {ls : List (List Nat)} (p : ys.Perm (ls.map tx)) (h : sortedS ys = true) : ys = (srt ls).map tx := by
  have h1 : ys.Pairwise (fun a b => leN a.cps.toList b.cps.toList = true) := by
    cases ys with
    | nil => exact .nil
    | cons x r => exact risingS_pw x r h
  have e : ys = (ys.map fun z => z.cps.toList).map tx := by
    rw [List.map_map]
    refine (List.map_id'' (fun z => (tx_of z).symm) ys).symm
  have p2 : (ys.map fun z => z.cps.toList).Perm ls := by
    have := p.map fun z : Str => z.cps.toList
    rw [List.map_map] at this
    exact this.trans (.of_eq (List.map_id'' (fun z => tx_cps z) ls))
  rw [e]
  congr 1
  exact sorted_uniq (p2.trans (srt_perm ls).symm) (List.pairwise_map.mpr h1) (srt_sorted ls)
/-! dicts with keys -/
section
variable {κ : Type} [DecidableEq κ]
theorem valV_in {kvs : List (κ × V)} {k : κ} : (valV kvs k).isSome = true ↔ k ∈ kvs.map (·.1) := by
  rw [← valV_any, List.any_eq_true, List.mem_map]
  exact ⟨fun ⟨x, h1, h2⟩ => ⟨x, h1, of_decide_eq_true h2⟩, fun ⟨x, h1, h2⟩ => ⟨x, h1, decide_eq_true h2⟩⟩
theorem valV_out {kvs : List (κ × V)} {k : κ} : (valV kvs k).isSome = false ↔ k ∉ kvs.map (·.1) := by
  rw [← valV_in]; simp
theorem putK_old {kvs : List (κ × V)} {k : κ} (v : V) (h : k ∈ kvs.map (·.1)) : (putK kvs k v).map (·.1) = kvs.map (·.1) := by
  unfold putK
  rw [valV_any, if_pos (valV_in.mpr h), List.map_map]
  refine List.map_congr_left fun p _ => ?_
  show (if p.1 = k then (p.1, v) else p).1 = p.1
  split <;> rfl
theorem putK_new {kvs : List (κ × V)} {k : κ} (v : V) (h : k ∉ kvs.map (·.1)) : putK kvs k v = kvs ++ [(k, v)] := by
  unfold putK
  rw [valV_any, if_neg (by rw [valV_out.mpr h]; simp)]
theorem putK_newK {kvs : List (κ × V)} {k : κ} (v : V) (h : k ∉ kvs.map (·.1)) : (putK kvs k v).map (·.1) = kvs.map (·.1) ++ [k] := by
  rw [putK_new v h, List.map_append]; rfl
end
abbrev kS (l : List Nat) : Key := .inr (tx l)
theorem kS_inj {a b : List Nat} (h : kS a = kS b) : a = b := tx_inj.mp (Sum.inr.inj h)
section
variable {H : Hp} {a : Addr} {kvs : List (Key × V)} {v : V}
theorem dget_s {z : Str} (e : H a = some (.dK kvs)) : DGet H a (.str z) (valV kvs (.inr z)) := DGet.k (k := .inr z) e
theorem dget_i {z : Int} (e : H a = some (.dK kvs)) : DGet H a (.int z) (valV kvs (.inl z)) := DGet.k (k := .inl z) e
theorem dput_s {z : Str} (e : H a = some (.dK kvs)) (hl : kvs.length < sizeLine) : DPut H a (.str z) v (upd H a (.dK (putK kvs (.inr z) v))) := DPut.k (k := .inr z) e hl
theorem dput_i {z : Int} (e : H a = some (.dK kvs)) (hl : kvs.length < sizeLine) : DPut H a (.int z) v (upd H a (.dK (putK kvs (.inl z) v))) := DPut.k (k := .inl z) e hl
end
theorem Same.noneB {H H' : Hp} {p : Addr} (e : Same H H') (h : H' p = none) : H p = none := by
  cases q : H p with
  | none => rfl
  | some o => rw [e p o q] at h; cases h
theorem SG_eq : ("0123456789ABCDEFGHIJKLMNOPQRSTUVWXYZabcdefghijklmnopqrstuvwxyz" : Str) = tx SG := (tx_of _)
theorem nmV_inj {a b : List Nat} (h : nmV a = nmV b) : a = b := by
  have : tx a = tx b := by injection h
  exact tx_inj.mp this
theorem nmVs_inj : ∀ {as bs : List (List Nat)}, as.map nmV = bs.map nmV → as = bs
  | [], [], _ => rfl
  | [], _ :: _, h => by simp at h
  | _ :: _, [], h => by simp at h
  | a :: as, b :: bs, h => by
    rw [List.map_cons, List.map_cons] at h
    injection h with h1 h2
    rw [nmV_inj h1, nmVs_inj h2]
theorem dps_nm {K : PySem.W.Frag} {H : Hp} : ∀ ls : List (List Nat), DpAll K H (ls.map nmV) (ls.map nmD)
  | [] => .nil
  | l :: r => .cons (.str _) (dps_nm r)
/-! names as data -/
theorem flat_nms (ls : List (List Nat)) : (ls.map nmV).all flatV = true := by
  rw [List.all_map]; exact List.all_eq_true.mpr fun _ _ => rfl
theorem inV_nm {ls : List (List Nat)} {y : List Nat} (h : y ∈ ls) : inV (nmV y) (ls.map nmV) = true := by
  unfold inV
  rw [List.any_map, List.any_eq_true]
  refine ⟨y, h, ?_⟩
  show eqV (nmV y) (nmV y) = true
  simp [eqV]
theorem atN {ls : List (List Nat)} {i : Nat} {y : List Nat} (h : ls[i]? = some y) : atI (ls.map nmV) (i : Int) = some (nmV y) := atI_nat (by rw [List.getElem?_map, h]; rfl)
theorem nm_of_dps {K : PySem.W.Frag} {H : Hp} : ∀ {ls : List (List Nat)} {xs : List V}, DpAll K H xs (ls.map nmD) → xs = ls.map nmV
  | [], _, .nil => rfl
  | l :: r, _, .cons a b => by rw [List.map_cons, dp_str a, nm_of_dps b]
theorem SG_small {c : Nat} (h : c ∈ SG) : c < 128 := by
  have : SG.all (fun c => decide (c < 128)) = true := by decide +kernel
  exact of_decide_eq_true (List.all_eq_true.mp this c h)
theorem nm_ok {l : List Nat} (h : isNm l = true) : PyData.strOk (tx l) = true := by
  have hh : ∀ c ∈ l, c < 0x110000 := by
    intro c hc
    obtain ⟨_, _, h2⟩ := isNm_out h
    rcases h2 with rfl | h2
    · rw [List.mem_singleton.mp hc]; decide
    · have := SG_small (h2 c hc); omega
  show (tx l).cps.all (· < 0x110000) = true
  rw [Array.all_eq_true']
  intro c hc
  exact decide_eq_true (hh c (by simpa using hc))
theorem shp_nms {ls : List (List Nat)} (h : ∀ l ∈ ls, isNm l = true) : ∀ d ∈ ls.map nmD, Shp 1 d := by
  intro d hd
  obtain ⟨l, hl, rfl⟩ := List.mem_map.mp hd
  exact shp_str (nm_ok (h l hl))
theorem dp_nms {K : PySem.W.Frag} {H : Hp} {a : Addr} {ls : List (List Nat)} (h : SqL K H a (ls.map nmV)) : Dp K H (.ref a) (.list (ls.map nmD)) := .lst h (dps_nm _)
theorem ne_nilN {K : PySem.W.Frag} {H : Hp} {a p : Addr} {ls : List (List Nat)} {Q : VK} (np : H p = none) (h : SqL K H a (ls.map nmV)) (hn : ∀ l ∈ ls, isNm l = true) (q : Q (.bl (!ls.isEmpty)) (upd H p (.lst []))) : rNeD K (.ref a) (.ref p) (upd H p (.lst [])) Q := by
  refine ⟨_, .list [], dp_same (Same.new np) (dp_nms h), .lst sql_new .nil, (shp_list (shp_nms hn)).ok (by decide), (shp_list (k := 1) fun d hd => by cases hd).ok (by decide), ?_⟩
  rw [eqv_nil, List.isEmpty_map]
  exact q
/-! kinds of things -/
def oddS : List String := ["int", "bool", "NoneType", "tuple", "list", "dict"]
def OddS (K : PySem.W.Frag) (H : Hp) (x : V) : Prop := ∃ n ∈ oddS, TyX K H x (.type n)
theorem kt_is {K : PySem.W.Frag} : PySem.W.kitOne K (.type "int") (.type "str") = some false := kit_ty (by decide +kernel)
theorem kt_bs {K : PySem.W.Frag} : PySem.W.kitOne K (.type "bool") (.type "str") = some false := kit_ty (by decide +kernel)
theorem kt_ns {K : PySem.W.Frag} : PySem.W.kitOne K (.type "NoneType") (.type "str") = some false := kit_ty (by decide +kernel)
theorem kt_ts {K : PySem.W.Frag} : PySem.W.kitOne K (.type "tuple") (.type "str") = some false := kit_ty (by decide +kernel)
theorem kt_ls {K : PySem.W.Frag} : PySem.W.kitOne K (.type "list") (.type "str") = some false := kit_ty (by decide +kernel)
theorem kt_ds {K : PySem.W.Frag} : PySem.W.kitOne K (.type "dict") (.type "str") = some false := kit_ty (by decide +kernel)
theorem kit_oddS {K : PySem.W.Frag} {n : String} (h : n ∈ oddS) : PySem.W.kitOne K (.type n) (.type "str") = some false := by
  unfold oddS at h
  simp only [List.mem_cons, List.not_mem_nil, or_false] at h
  rcases h with rfl | rfl | rfl | rfl | rfl | rfl
  · exact kt_is
  · exact kt_bs
  · exact kt_ns
  · exact kt_ts
  · exact kt_ls
  · exact kt_ds
theorem tyof_det {K : PySem.W.Frag} {H : Hp} {z : Str} {u : Value} (h : TyX K H (.str z) u) : u = .type "str" := by
  cases h with
  | base h => cases h; rfl
theorem odds_not {K : PySem.W.Frag} {H : Hp} {z : Str} (h : OddS K H (.str z)) : False := by
  obtain ⟨n, hn, h⟩ := h
  have e := tyof_det h
  injection e with e
  subst e
  revert hn
  decide
/-- a text or a thing of another kind -/
def Thg (K : PySem.W.Frag) (H : Hp) (x : V) : Prop := (∃ l, x = nmV l ∧ SzT l.length) ∨ OddS K H x
theorem tyx_same {K : PySem.W.Frag} {H H' : Hp} (e : Same H H') {x : V} {u : Value} (h : TyX K H x u) : TyX K H' x u := by
  cases h with
  | base h =>
    cases h with
    | non => exact .base .non
    | bl b => exact .base (.bl b)
    | int i => exact .base (.int i)
    | str z => exact .base (.str z)
    | flt z => exact .base (.flt z)
    | lst h => exact .base (.lst (e _ _ h))
    | tup h => exact .base (.tup (e _ _ h))
    | dK h => exact .base (.dK (e _ _ h))
    | dT h => exact .base (.dT (e _ _ h))
    | frz h => exact .base (.frz (e _ _ h))
    | ins h a b c d f => exact .base (.ins (e _ _ h) a b c d f)
  | byt b => exact .byt b
  | set h => exact .set (e _ _ h)
  | kList a b => exact .kList a b
  | kTuple a b => exact .kTuple a b
  | kDict a b => exact .kDict a b
  | fTuple h => exact .fTuple (e _ _ h)
  | fDict h => exact .fDict (e _ _ h)
theorem odds_same {K : PySem.W.Frag} {H H' : Hp} (e : Same H H') {x : V} (h : OddS K H x) : OddS K H' x := by
  obtain ⟨n, hn, h⟩ := h
  exact ⟨n, hn, tyx_same e h⟩
theorem tyx_mutL {K : PySem.W.Frag} {H : Hp} {p : Addr} {ys zs : List V} (hp : H p = some (.lst ys)) {x : V} {u : Value} (h : TyX K H x u) : TyX K (upd H p (.lst zs)) x u := by
  have k : ∀ {q : Addr} {o : HO}, H q = some o → (∀ l, o ≠ .lst l) → upd H p (.lst zs) q = some o := fun {q o} e n => by
    rw [upd_ne (fun z => by subst z; rw [hp] at e; exact n _ (Option.some.inj e).symm)]; exact e
  cases h with
  | base h =>
    cases h with
    | non => exact .base .non
    | bl b => exact .base (.bl b)
    | int i => exact .base (.int i)
    | str z => exact .base (.str z)
    | flt z => exact .base (.flt z)
    | @lst q xs h =>
      by_cases e : q = p
      · subst e; exact .base (.lst upd_same)
      · exact .base (.lst (by rw [upd_ne e]; exact h))
    | tup h => exact .base (.tup (k h (fun _ z => nomatch z)))
    | dK h => exact .base (.dK (k h (fun _ z => nomatch z)))
    | dT h => exact .base (.dT (k h (fun _ z => nomatch z)))
    | frz h => exact .base (.frz (k h (fun _ z => nomatch z)))
    | ins h a b c d f => exact .base (.ins (k h (fun _ z => nomatch z)) a b c d f)
  | byt b => exact .byt b
  | set h => exact .set (k h (fun _ z => nomatch z))
  | kList a b => exact .kList a b
  | kTuple a b => exact .kTuple a b
  | kDict a b => exact .kDict a b
  | fTuple h => exact .fTuple (k h (fun _ z => nomatch z))
  | fDict h => exact .fDict (k h (fun _ z => nomatch z))
theorem thg_mutL {K : PySem.W.Frag} {H : Hp} {p : Addr} {ys zs : List V} (hp : H p = some (.lst ys)) {x : V} (h : Thg K H x) : Thg K (upd H p (.lst zs)) x :=
  h.imp id fun ⟨n, hn, h⟩ => ⟨n, hn, tyx_mutL hp h⟩
theorem thg_eq {K : PySem.W.Frag} {H H' : Hp} {x : V} (h : Thg K H x) : EqV K H' 1 x x := by
  rcases h with ⟨l, rfl, _⟩ | ⟨n, hn, h⟩
  · exact .inl ⟨rfl, rfl⟩
  · cases h with
    | base h =>
      cases h with
      | non => exact .inl ⟨rfl, rfl⟩
      | bl b => exact .inl ⟨rfl, rfl⟩
      | int i => exact .inl ⟨rfl, rfl⟩
      | str z => exact .inl ⟨rfl, rfl⟩
      | flt z => exact absurd hn (by decide)
      | lst h => exact .inr (.inl ⟨_, rfl, rfl⟩)
      | tup h => exact .inr (.inl ⟨_, rfl, rfl⟩)
      | dK h => exact .inr (.inl ⟨_, rfl, rfl⟩)
      | dT h => exact .inr (.inl ⟨_, rfl, rfl⟩)
      | frz h => exact .inr (.inl ⟨_, rfl, rfl⟩)
    | byt b => exact absurd hn (by decide)
    | set h => exact .inr (.inl ⟨_, rfl, rfl⟩)
    | kList a b => exact .inr (.inl ⟨_, rfl, rfl⟩)
    | kTuple a b => exact .inr (.inl ⟨_, rfl, rfl⟩)
    | kDict a b => exact .inr (.inl ⟨_, rfl, rfl⟩)
    | fTuple h => exact .inr (.inl ⟨_, rfl, rfl⟩)
    | fDict h => exact .inr (.inl ⟨_, rfl, rfl⟩)
theorem eqs_self {K : PySem.W.Frag} {H H' : Hp} : ∀ {xs : List V}, (∀ x ∈ xs, Thg K H x) → Paired (EqV K H' 1) xs xs
  | [], _ => .nil
  | x :: r, h => .cons (thg_eq (h x (List.mem_cons_self ..))) (eqs_self fun y hy => h y (List.mem_cons_of_mem _ hy))
/-- a == b of two lists of the same things -/
@[irreducible] def rEqS (K : PySem.W.Frag) : R2 := rEqV K
theorem op_eqS {X : Cx} (hu : X.A.units + 64 < cLine) : OpR X (compareOp .Eq) (rEqS X.K) := by unfold rEqS; exact op_eqV hu
theorem eqs_list {K : PySem.W.Frag} {H H0 : Hp} {a b : Addr} {xs : List V} {Q : VK} (h1 : SqL K H a xs) (h2 : SqL K H b xs) (th : ∀ x ∈ xs, Thg K H0 x) (q : Q (.bl true) H) : rEqS K (.ref a) (.ref b) H Q := by
  unfold rEqS
  exact ⟨1, by decide, .inl ⟨a, b, xs, xs, rfl, rfl, h1, h2, eqs_self th⟩, q⟩
theorem thg_same {K : PySem.W.Frag} {H H' : Hp} (e : Same H H') {x : V} (h : Thg K H x) : Thg K H' x := h.imp id (odds_same e)
end Lim
namespace Lim
open PySem PySem.Spec PyProof.Rows L2
/-! whole numbers from nought on, bit by bit -/
section
variable {X : Cx}
def rOrN : R2 := fun x y H Q => ∃ i j : Nat, x = .int (i : Int) ∧ y = .int (j : Int) ∧ Q (.int ((i ||| j : Nat) : Int)) H
theorem op_orN : OpR X (binaryOp .BitOr) rOrN := by
  intro pins s σ H x y v u Q I rx ry h
  obtain ⟨i, j, rfl, rfl, q⟩ := h
  refine op_or pins s σ H _ _ v u Q I rx ry ⟨_, _, rfl, rfl, ?_⟩
  have e : Builtin.bitOr (i : Int) (j : Int) = ((i ||| j : Nat) : Int) := bitOr_nn (Int.natCast_nonneg _) (Int.natCast_nonneg _)
  rw [← e] at q; exact q
def rAndN : R2 := fun x y H Q => ∃ i j : Nat, x = .int (i : Int) ∧ y = .int (j : Int) ∧ Q (.int ((i &&& j : Nat) : Int)) H
theorem op_andN : OpR X (binaryOp .BitAnd) rAndN := by
  intro pins s σ H x y v u Q I rx ry h
  obtain ⟨i, j, rfl, rfl, q⟩ := h
  refine op_and pins s σ H _ _ v u Q I rx ry ⟨_, _, rfl, rfl, ?_⟩
  have e : Builtin.bitAnd (i : Int) (j : Int) = ((i &&& j : Nat) : Int) := bitAnd_pp (Int.natCast_nonneg i) (Int.natCast_nonneg j)
  rw [← e] at q; exact q
def rXorN : R2 := fun x y H Q => ∃ i j : Nat, x = .int (i : Int) ∧ y = .int (j : Int) ∧ Q (.int ((i ^^^ j : Nat) : Int)) H
theorem op_xorN : OpR X (binaryOp .BitXor) rXorN := by
  intro pins s σ H x y v u Q I rx ry h
  obtain ⟨i, j, rfl, rfl, q⟩ := h
  refine op_xor pins s σ H _ _ v u Q I rx ry ⟨_, _, rfl, rfl, ?_⟩
  have e1 : Builtin.bitOr (i : Int) (j : Int) = ((i ||| j : Nat) : Int) := bitOr_nn (Int.natCast_nonneg _) (Int.natCast_nonneg _)
  have e2 : Builtin.bitAnd (i : Int) (j : Int) = ((i &&& j : Nat) : Int) := bitAnd_pp (Int.natCast_nonneg i) (Int.natCast_nonneg j)
  have e : Builtin.bitXor (i : Int) (j : Int) = ((i ^^^ j : Nat) : Int) := by
    show Builtin.bitOr (i : Int) (j : Int) - Builtin.bitAnd (i : Int) (j : Int) = _
    rw [e1, e2]
    have := or_xor_and i j
    omega
  rw [← e] at q; exact q
def rShlN : R2 := fun x y H Q => ∃ i k : Nat, x = .int (i : Int) ∧ y = .int (k : Int) ∧ (i < 2 ^ 60 ∧ k ≤ 1000) ∧ Q (.int ((i * 2 ^ k : Nat) : Int)) H
theorem op_shlM : OpR X (binaryOp .LShift) rShlN := by
  intro pins s σ H x y v u Q I rx ry h
  obtain ⟨i, k, rfl, rfl, hk, q⟩ := h
  refine op_shl pins s σ H _ _ v u Q I rx ry ⟨_, _, rfl, rfl, ⟨by omega, by omega, ?_⟩, ?_⟩
  · rw [Int.natAbs_natCast]; omega
  · have e : ((i * 2 ^ k : Nat) : Int) = (i : Int) * 2 ^ (k : Int).toNat := by rw [Int.toNat_natCast, Int.natCast_mul, Int.natCast_pow]; rfl
    rw [e] at q; exact q
def rShrN : R2 := fun x y H Q => ∃ i k : Nat, x = .int (i : Int) ∧ y = .int (k : Int) ∧ Q (.int ((i >>> k : Nat) : Int)) H
theorem op_shrM : OpR X (binaryOp .RShift) rShrN := by
  intro pins s σ H x y v u Q I rx ry h
  obtain ⟨i, k, rfl, rfl, q⟩ := h
  refine op_shr pins s σ H _ _ v u Q I rx ry ⟨_, _, rfl, rfl, by omega, ?_⟩
  have e : ((i >>> k : Nat) : Int) = (i : Int) / 2 ^ (k : Int).toNat := by rw [Nat.shiftRight_eq_div_pow, Int.toNat_natCast, Int.natCast_ediv, Int.natCast_pow]; rfl
  rw [e] at q; exact q
theorem pe_natl {j : Nat} {pos : Pos} (n : Nat) : PE X (.Constant (.int (n : Int)) j pos) (tC (.int (n : Int))) := pe_int
/-- names.index(name) -/
def rIdxT (K : PySem.W.Frag) : V → List V → Hp → VK → Prop := fun x xs H Q => ∃ (p : Addr) (ls : List (List Nat)) (l : List Nat), x = .ref p ∧ xs = [nmV l] ∧ SqT K H p (ls.map nmV) ∧ l ∈ ls ∧ Q (.int ((ls.idxOf l : Nat) : Int)) H
theorem mt_idxT : MtR X "tuple.index" (rIdxT X.K) := by
  intro pins s σ H x xs v us Q I rx rs h
  obtain ⟨p, ls, l, rfl, rfl, hq, hm, q⟩ := h
  have hi : ls.idxOf l < ls.length := List.idxOf_lt_length_of_mem hm
  refine mt_tup_index pins s σ H _ _ v us Q I rx rs ⟨p, ls.map tx, tx l, ls.idxOf l, rfl, rfl, by rw [List.map_map]; exact hq, ?_, fun m hm2 e => ?_, q⟩
  · rw [List.getElem?_map, List.getElem?_eq_getElem hi, List.getElem_idxOf hi]; rfl
  · rw [List.getElem?_map] at e
    have hm3 : m < ls.length := by omega
    rw [List.getElem?_eq_getElem hm3] at e
    have e2 : ls[m] = l := tx_inj.mp (Option.some.inj e)
    have := List.not_of_lt_findIdx (p := (· == l)) (xs := ls) (i := m) hm2
    rw [e2] at this
    simp at this
end
/-- a tuple in the heap that has no dict -/
def FT (H : Hp) (a : Addr) (xs : List V) : Prop := ∃ o : Obj, H a = some (.frz o (.tup xs)) ∧ o.dict = none
theorem FT.sqt {K : PySem.W.Frag} {H : Hp} {a : Addr} {xs : List V} (h : FT H a xs) : SqT K H a xs := by
  obtain ⟨o, h, _⟩ := h
  exact .inl (.inr ⟨o, h⟩)
theorem FT.same {H H' : Hp} {a : Addr} {xs : List V} (e : Same H H') (h : FT H a xs) : FT H' a xs := by
  obtain ⟨o, h, d⟩ := h
  exact ⟨o, e _ _ h, d⟩
theorem FT.dp {K : PySem.W.Frag} {H : Hp} {a : Addr} {ls : List (List Nat)} (h : FT H a (ls.map nmV)) : Dp K H (.ref a) (.tuple (ls.map nmD)) := .tup h.sqt (dps_nm _)
theorem FT.mutL {H : Hp} {a p : Addr} {xs ys : List V} {o : HO} (hp : H p = some (.lst ys)) (h : FT H a xs) : FT (upd H p o) a xs := by
  obtain ⟨u, h, d⟩ := h
  exact ⟨u, by rw [upd_ne (ne_of h hp (fun z => nomatch z))]; exact h, d⟩
theorem FT.mutD {H : Hp} {a p : Addr} {xs : List V} {kvs : List (Key × V)} {o : HO} (hp : H p = some (.dK kvs)) (h : FT H a xs) : FT (upd H p o) a xs := by
  obtain ⟨u, h, d⟩ := h
  exact ⟨u, by rw [upd_ne (ne_of h hp (fun z => nomatch z))]; exact h, d⟩
def rTupF (K : PySem.W.Frag) : List V → Hp → VK → Prop := fun xs H Q => ∃ p ys, xs = [.ref p] ∧ ((SqL K H p ys ∧ ∀ l o, H l = none → o.dict = none → Q (.ref l) (upd H l (.frz o (.tup ys)))) ∨ (SqT K H p ys ∧ Q (.ref p) H))
theorem call_tupleF {X : Cx} : CallR X (.type "tuple") (rTupF X.K) := by
  intro pins s σ H xs us Q I r h
  obtain ⟨p, ys, rfl, h⟩ := h
  obtain ⟨u, rfl, rx⟩ := vals1 r
  cases rx
  rcases h with ⟨hq, q⟩ | ⟨hq, q⟩
  · obtain ⟨its, r', pl, hz⟩ := I.list hq
    have hlen := r'.length
    refine call_tuple_list pl.isList (fun h' kp => ?_) (by simp only [List.size_toArray] <;> omega)
    have I1 : L2.Inv X pins σ H { s with heap := h' } := I.kept (t' := s.toks) kp
    have I2 : L2.Inv X pins σ (upd H h'.objs.size (.frz { cls := .type "tuple", data := .seq its.toArray } (.tup ys))) { s with heap := h'.push { cls := .type "tuple", data := .seq its.toArray } } :=
      I1.laid (t' := s.toks) (fun b o e => Heap.get?_push_of_some _ e) (Nat.le_refl _) (show ObjOk X.prog X.w _ _ _ (.frz _ (.tup ys)) from ⟨Heap.get?_push_size _ rfl, hz, its, r', IsTup.new _ _⟩)
    exact ⟨.ref h'.objs.size, _, I2, rfl, q _ _ (I1.hok.fresh (Nat.le_refl _)) rfl⟩
  · obtain ⟨its, r', pl, hz⟩ := I.tuple hq
    exact call_tuple_same pl ⟨.ref p, H, I, rfl, q⟩
/-- a method of a tuple in the heap -/
def tBT (r : V → List V → Hp → VK → Prop) (to : TE) (t : TA) : TE := fun σ H Q => to σ H fun x H1 => (∃ p xs, x = .ref p ∧ FT H1 p xs) ∧ t σ H1 fun xs H2 => r x xs H2 Q
theorem pe_bmT {X : Cx} {o e : Expr} {es : List Expr} {to : TE} {t : TA} {name : Str} {apos cpos : Pos} {id : String} {r : V → List V → Hp → VK → Prop} (pa : PlainAttrs "tuple") (slot : Slot "tuple" name id) (hty : typeOf (.builtin id) = pure (.type "method_descriptor")) (hm : MtR X id r) (ho : PE X o to) (ha : PA X (e :: es) t)
    (hbase : attributeBase o name X.env (eval o X.env) = eval o X.env := by rfl)
    (hfew : ((backTo cpos (starEach (e :: es) X.env)).all (fun x => !x.1) && (backToKw cpos (keywordEach [] X.env)).all (fun x => x.1.isSome)
      && decide ((e :: es).length + ([] : List Keyword).length + (if ([] : List Keyword).isEmpty then 0 else 1) < 30)) = true := by rfl)
    (hline : (apos.endLine == cpos.line) = true := by rfl) (hs : starEach (e :: es) X.env = (false, eval e X.env) :: starEach es X.env := by rfl) (hplain : (backTo cpos (starEach es X.env)).any (·.1) = false := by rfl) :
    PE X (.Call (.Attribute o name apos) (e :: es) [] cpos) (tBT r to t) := by
  refine ⟨fun pins s σ H Q I h => ?_⟩
  refine wpAny_Call_method_late hbase hfew hline rfl (thn (ho.run pins s σ H _ I h) fun v s1 ⟨x, H1, I1, r1, ⟨p, xs, ex, hq⟩, q1⟩ => ?_)
  subst ex
  have ev : v = Value.ref p := r1
  subst ev
  obtain ⟨ob, hf, hd⟩ := hq
  obtain ⟨e1, _, its, _, ⟨ob2, e2, e3, _⟩⟩ := (show ObjOk X.prog X.w H1 s1.heap p (.frz ob (.tup xs)) from I1.hok p _ hf)
  rw [e1] at e2
  cases e2
  refine ⟨"tuple", id, pa, slot, hty, ⟨ob, e1, e3⟩, fun a e => ?_, ?_⟩
  · cases e
    exact ⟨ob, e1, hd⟩
  have hA := ha.run cpos pins s1 σ H1 _ I1 q1
  rw [hs] at hA ⊢
  refine Calls.callWith_builtin (by show (false || (backTo cpos (starEach es X.env)).any (·.1)) = false; rw [hplain] <;> rfl) (Calls.evalArgs_plain ?_)
  exact thn hA fun us s2 ⟨vs, H2, I2, r2, q2⟩ => hm pins s2 σ H2 _ vs _ us Q I2 r1 r2 q2
/-- the result is a tuple of names -/
def RetN (H : Hp) (Q : VK) (ls : List (List Nat)) : Prop := ∀ a H', Same H H' → FT H' a (ls.map nmV) → Q (.ref a) H'
/-! rules with the written part told -/
section
variable {X : Cx} (K : PySem.W.Frag)
theorem ix_listK (hK : X.K = K) : IxR X (rIxL K) := by subst hK; exact ix_list
theorem ix_tupK (hK : X.K = K) : IxR X (L2.rIxT K) := by subst hK; exact ix_tup
theorem op_inK (hK : X.K = K) : OpR X (compareOp .In) (rIn K false) := by subst hK; exact op_in_seq
theorem op_notInK (hK : X.K = K) : OpR X (compareOp .NotIn) (rIn K true) := by subst hK; exact op_notIn_seq
theorem mt_idxK (hK : X.K = K) : MtR X "tuple.index" (rIdxT K) := by subst hK; exact mt_idxT
def rLenK : List V → Hp → VK → Prop := fun xs H Q => ∃ p ys, xs = [.ref p] ∧ (SqL K H p ys ∨ SqT K H p ys) ∧ Q (.int ys.length) H
theorem call_lenK (hK : X.K = K) : CallR X (.builtin "len") (rLenK K) := by subst hK; exact call_len_seq
theorem call_isiK (hK : X.K = K) : CallR X (.builtin "isinstance") (rIsi K) := by subst hK; exact call_isi
end
section
variable {g : TG} {tb : TS} {D : Ends} {σ : L2.St} {H : Hp}
theorem lr_range0 {n : Nat} (Pv : Nat → L2.St → Hp → Prop) (p0 : Pv 0 σ H)
    (hs : ∀ i σ H, i < n → Pv i σ H → g (.int (i : Int)) σ H fun σ2 H2 => tb { D with nx := Pv (i + 1), ct := Pv (i + 1), bk := D.nx } σ2 H2) (hd : ∀ σ H, Pv n σ H → D.nx σ H) : LoopR (Itr 0 n) g tb D σ H :=
  lr_range Pv p0 (fun i σ H hi p => by rw [Int.zero_add]; exact hs i σ H hi p) hd
end
theorem nms_at {ls : List (List Nat)} {i : Nat} {x : V} (h : (ls.map nmV)[i]? = some x) : ∃ l, ls[i]? = some l ∧ x = nmV l := by
  rw [List.getElem?_map] at h
  cases e : ls[i]? with
  | none => rw [e] at h; cases h
  | some z => rw [e] at h; exact ⟨z, rfl, (Option.some.inj h).symm⟩
theorem inV_nm' {ls : List (List Nat)} {y : List Nat} (h : inV (nmV y) (ls.map nmV) = true) : y ∈ ls := by
  unfold inV at h
  rw [List.any_map, List.any_eq_true] at h
  obtain ⟨x, h1, h2⟩ := h
  have h3 : eqV (nmV x) (nmV y) = true := h2
  have h4 : tx x = tx y := by simpa [eqV] using h3
  rw [← tx_inj.mp h4]; exact h1
/-! == of data, closed up -/
@[irreducible] def rEqC (K : PySem.W.Frag) : R2 := rEqD K
@[irreducible] def rNeC (K : PySem.W.Frag) : R2 := rNeD K
theorem op_eqC {X : Cx} (hu : X.A.units + 64 < cLine) : OpR X (compareOp .Eq) (rEqC X.K) := by unfold rEqC; exact op_eqD hu
theorem op_neC {X : Cx} (hu : X.A.units + 64 < cLine) : OpR X (compareOp .NotEq) (rNeC X.K) := by unfold rNeC; exact op_neD hu
section
variable {K : PySem.W.Frag} {H : Hp} {x y : V} {d e : PyData} {k : Nat} {Q : VK}
theorem eqc (h1 : Dp K H x d) (h2 : Dp K H y e) (s1 : Shp k d) (s2 : Shp k e) (hk : k ≤ 64) (q : Q (.bl (PyData.eqv d e)) H) : rEqC K x y H Q := by
  unfold rEqC; exact ⟨d, e, h1, h2, s1.ok hk, s2.ok hk, q⟩
theorem nec (h1 : Dp K H x d) (h2 : Dp K H y e) (s1 : Shp k d) (s2 : Shp k e) (hk : k ≤ 64) (q : Q (.bl (!PyData.eqv d e)) H) : rNeC K x y H Q := by
  unfold rNeC; exact ⟨d, e, h1, h2, s1.ok hk, s2.ok hk, q⟩
theorem eqc_same (h1 : Dp K H x d) (h2 : Dp K H y d) (s1 : Shp k d) (hk : k ≤ 64) (q : Q (.bl true) H) : rEqC K x y H Q := eqc h1 h2 s1 s1 hk (by rw [s1.refl]; exact q)
theorem nec_same (h1 : Dp K H x d) (h2 : Dp K H y d) (s1 : Shp k d) (hk : k ≤ 64) (q : Q (.bl false) H) : rNeC K x y H Q := nec h1 h2 s1 s1 hk (by rw [s1.refl]; exact q)
end
theorem shp_nmL {ls : List (List Nat)} (h : ∀ l ∈ ls, isNm l = true) : Shp 2 (.list (ls.map nmD)) := shp_list (shp_nms h)
theorem shp_nmT {ls : List (List Nat)} (h : ∀ l ∈ ls, isNm l = true) : Shp 2 (.tuple (ls.map nmD)) := shp_tup (shp_nms h)
theorem shp_nil {k : Nat} : Shp (k + 1) (.list []) := shp_list fun d hd => by cases hd
theorem mk_pickN {ls : List (List Nat)} (hn : ls.Nodup) {m : Nat} (hm : m < 2 ^ ls.length) : mk (fun l => decide (l ∈ pick ls m)) ls = m := (mk_ext fun l _ => by rw [decide_eq_decide]).trans (mk_pick hn hm)
theorem at_last {α : Type} {xs : List α} {x : α} (h : 0 < xs.length) (e : xs[xs.length - 1]? = some x) : atI xs (-1) = some x := by
  unfold atI ixN
  rw [if_neg (by decide), if_pos (by omega), show (-1 + (xs.length : Int)).toNat = xs.length - 1 by omega]
  exact e
theorem fmodN (a : Int) (b : Nat) (h : 0 < b) : ∃ m : Nat, a.fmod (b : Int) = (m : Int) ∧ m < b := by
  have h1 := Int.fmod_nonneg_of_pos a (b := (b : Int)) (by omega)
  have h2 := Int.fmod_lt_of_pos a (b := (b : Int)) (by omega)
  obtain ⟨m, hm⟩ := Int.eq_ofNat_of_zero_le h1
  exact ⟨m, hm, by omega⟩
theorem sg_at (a : Int) : ∃ c, atI SG (a.fmod 62) = some c ∧ c ∈ SG := by
  obtain ⟨m, h1, h2⟩ := fmodN a 62 (by decide)
  exact atI_lt (by rw [show (62 : Int) = ((62 : Nat) : Int) from rfl, h1]; omega) (by rw [show (62 : Int) = ((62 : Nat) : Int) from rfl, h1, SG_len]; omega)
theorem figs_nm {i : Int} (h0 : 0 ≤ i) (h1 : i < 10 ^ 12) : isNm (figs i) = true := by
  obtain ⟨m, rfl⟩ := Int.eq_ofNat_of_zero_le h0
  rw [figs_nat]
  refine isNm_mk ?_ ?_ ?_
  · rw [List.length_map]; exact tDigits_len_ge 10 m
  · rw [List.length_map]; exact digits10_le (by decide) (by omega)
  · intro c hc
    obtain ⟨d, hd, rfl⟩ := List.mem_map.mp hc
    have := Nat.isDigit_of_mem_toDigits (b := 10) (by decide) (by decide) hd
    have hh : 48 ≤ d.toNat ∧ d.toNat ≤ 57 := by
      have h := this
      simp only [Char.isDigit, Bool.and_eq_true, decide_eq_true_eq] at h
      exact ⟨h.1, h.2⟩
    have k : ∀ n, 48 ≤ n → n ≤ 57 → n ∈ SG := by
      intro n h1 h2
      have hn : n = 48 ∨ n = 49 ∨ n = 50 ∨ n = 51 ∨ n = 52 ∨ n = 53 ∨ n = 54 ∨ n = 55 ∨ n = 56 ∨ n = 57 := by omega
      rcases hn with rfl | rfl | rfl | rfl | rfl | rfl | rfl | rfl | rfl | rfl <;> decide +kernel
    exact k _ hh.1 hh.2
/-! comprehensions -/
section
variable {g : TG} {tt : TT} {te : TE} {vs : List Nat} {σ : L2.St} {H1 : Hp} {D : Addr} {Q : VK} {K : PySem.W.Frag}
theorem lcr_range0 {n : Nat} (Pv : Nat → Hp → Prop) (h0 : Pv 0 (upd H1 D (.lst [])))
    (hs : ∀ i H, i < n → Pv i H → g (.int (i : Int)) (wipe σ vs) H fun σ2 H2 => wipe σ2 vs = wipe σ vs ∧ tt σ2 H2 fun b H3 =>
      if b = true then te σ2 H3 fun y H4 => ∃ acc, H4 D = some (.lst acc) ∧ acc.length < sizeLine ∧ Pv (i + 1) (upd H4 D (.lst (acc ++ [y]))) else Pv (i + 1) H3) (hd : ∀ H, Pv n H → Q (.ref D) H) : LcR (Itr 0 n) g tt te vs σ D H1 Q :=
  lcr_it walk_range Pv h0 (fun _ _ _ _ => trivial) (fun i x H H' hi p ⟨e1, e2⟩ => by subst e1 e2; dsimp only; rw [Int.zero_add]; exact hs i _ hi p) hd
theorem lcr_list {a : Addr} {xs : List V} (Pv : Nat → Hp → Prop) (h0 : Pv 0 (upd H1 D (.lst []))) (hl : ∀ i H, i ≤ xs.length → Pv i H → SqL K H a xs)
    (hs : ∀ i x H, xs[i]? = some x → Pv i H → g x (wipe σ vs) H fun σ2 H2 => wipe σ2 vs = wipe σ vs ∧ tt σ2 H2 fun b H3 =>
      if b = true then te σ2 H3 fun y H4 => ∃ acc, H4 D = some (.lst acc) ∧ acc.length < sizeLine ∧ Pv (i + 1) (upd H4 D (.lst (acc ++ [y]))) else Pv (i + 1) H3) (hd : ∀ H, Pv xs.length H → Q (.ref D) H) : LcR (Itl K a) g tt te vs σ D H1 Q :=
  lcr_it walk_list Pv h0 hl (fun i x H H' hi p ⟨e1, e2⟩ => by subst e1; exact hs i x _ e2 p) hd
theorem lcr_tup {a : Addr} {xs : List V} (Pv : Nat → Hp → Prop) (h0 : Pv 0 (upd H1 D (.lst []))) (hl : ∀ i H, i ≤ xs.length → Pv i H → SqT K H a xs)
    (hs : ∀ i x H, xs[i]? = some x → Pv i H → g x (wipe σ vs) H fun σ2 H2 => wipe σ2 vs = wipe σ vs ∧ tt σ2 H2 fun b H3 =>
      if b = true then te σ2 H3 fun y H4 => ∃ acc, H4 D = some (.lst acc) ∧ acc.length < sizeLine ∧ Pv (i + 1) (upd H4 D (.lst (acc ++ [y]))) else Pv (i + 1) H3) (hd : ∀ H, Pv xs.length H → Q (.ref D) H) : LcR (Itt K a) g tt te vs σ D H1 Q :=
  lcr_it walk_tup Pv h0 hl (fun i x H H' hi p ⟨e1, e2⟩ => by subst e1; exact hs i x _ e2 p) hd
theorem ps_setL {X : Cx} {i : Nat} {y : Str} {py : Pos} {elt tg iter : Expr} {ifs : List Expr} {scope : Scope} {own : List (Str × Nat)} {pos spos : Pos} {wi : TI} {g : TG} {tt : TT} {te : TE} (hc : X.calm = true) (hN : X.N.Nodup) (hy : X.N[i]? = some y) (hyl : X.env.scope.names.lookup y = some .local)
    (hsw : swapsWith (.ListComp elt [⟨tg, iter, ifs, 0⟩] scope pos) (some (.Name y py)) spos.line X.env = pure true) (hi : PI X tg iter wi) (ok : BlkOk X.N X.env.scope scope own)
    (hg : ∀ (s : Shared) (H : Hp) (C : Addr) (cl : List (Str × Addr)) (fp : List Addr), PG (X.blk s H scope (compEnvC scope cl C X.env) fp) tg g) (ht : ∀ (s : Shared) (H : Hp) (C : Addr) (cl : List (Str × Addr)) (fp : List Addr), PTs (X.blk s H scope (compEnvC scope cl C X.env) fp) ifs tt)
    (he : ∀ (s : Shared) (H : Hp) (C : Addr) (cl : List (Str × Addr)) (fp : List Addr), PE (X.blk s H scope (compEnvC scope cl C X.env) fp) elt te) (hs : ∀ x, foldedSetIterable iter X.env x = pure x := by intro _; rfl) :
    PS X (.Assign [.Name y py] (.ListComp elt [⟨tg, iter, ifs, 0⟩] scope pos) spos) (tAsg (tL wi g tt te (own.map (·.2))) (gName i)) := by
  rw [tL_eq]; exact ps_setLc hc hN hy hyl hsw hi ok hg ht he hs
end
end Lim
namespace Lim
open PySem PySem.Spec PyProof.Rows L2
/-! a new thing in the heap, closed up -/
structure NewO (H : Hp) (o : HO) (R : VK) : Prop where
  o : ∀ p, H p = none → R (.ref p) (upd H p o)
theorem newO {H : Hp} {o : HO} {R : VK} (h : ∀ a H', Same H H' → H a = none → H' a = some o → R (.ref a) H') : NewO H o R := ⟨fun p np => h p _ (Same.new np) np upd_same⟩
/-- a new tuple that has no dict -/
structure NewF (H : Hp) (xs : List V) (R : VK) : Prop where
  o : ∀ a H', Same H H' → FT H' a xs → R (.ref a) H'
theorem newF {H : Hp} {xs : List V} {R : VK} (h : ∀ a H', Same H H' → FT H' a xs → R (.ref a) H') : NewF H xs R := ⟨h⟩
theorem Same.get {H H' : Hp} {a : Addr} {o : HO} (s : Same H H') (h : H a = some o) : H' a = some o := s a o h
theorem Same.tr {H H1 H2 : Hp} (s : Same H H1) (t : Same H1 H2) : Same H H2 := fun b x e => t b x (s b x e)
theorem Same.rt {H H1 H2 : Hp} (t : Same H1 H2) (s : Same H H1) : Same H H2 := Same.tr s t
theorem ret {K : PySem.W.Frag} {H : Hp} {Q : VK} {d : PyData} (h : ∀ v H', Same H H' → Dp K H' v d → Q v H') : Ret K H Q d := h
theorem retN {H : Hp} {Q : VK} {ls : List (List Nat)} (h : ∀ a H', Same H H' → FT H' a (ls.map nmV) → Q (.ref a) H') : RetN H Q ls := h
theorem sqt_of {K : PySem.W.Frag} {H : Hp} {a : Addr} {xs : List V} (h : H a = some (.tup xs)) : SqT K H a xs := .inl (.inl h)
theorem sql_of {K : PySem.W.Frag} {H : Hp} {a : Addr} {xs : List V} (h : H a = some (.lst xs)) : SqL K H a xs := .inl (.inl h)
/-! rules from stronger readings -/
section
variable {X : Cx}
theorem pe_mono {e : Expr} {t t' : TE} (h : PE X e t) (m : ∀ σ H Q, t' σ H Q → t σ H Q) : PE X e t' := ⟨fun pins s σ H Q I q => h.run pins s σ H Q I (m σ H Q q)⟩
theorem call_mono {f : Value} {r r' : List V → Hp → VK → Prop} (h : CallR X f r) (m : ∀ xs H Q, r' xs H Q → r xs H Q) : CallR X f r' := fun pins s σ H xs us Q I rv q => h pins s σ H xs us Q I rv (m xs H Q q)
theorem op_mono {f : Value → Value → Sem Value} {r r' : R2} (h : OpR X f r) (m : ∀ x y H Q, r' x y H Q → r x y H Q) : OpR X f r' := fun pins s σ H x y v u Q I rx ry q => h pins s σ H x y v u Q I rx ry (m x y H Q q)
theorem sl_mono {r r' : V → Option Int → Option Int → Hp → VK → Prop} (h : L2.SlR X r) (m : ∀ x lo hi H Q, r' x lo hi H Q → r x lo hi H Q) : L2.SlR X r' := fun pins s σ H x v vl vu lo hi sl Q I rx hs pl pu q => h pins s σ H x v vl vu lo hi sl Q I rx hs pl pu (m x lo hi H Q q)
theorem mt_mono {id : String} {r r' : V → List V → Hp → VK → Prop} (h : MtR X id r) (m : ∀ x xs H Q, r' x xs H Q → r x xs H Q) : MtR X id r' := fun pins s σ H x xs v us Q I rx rs q => h pins s σ H x xs v us Q I rx rs (m x xs H Q q)
/-- closed under weaker ends -/
def mcA (t : TA) : TA := fun σ H R => ∃ R0 : List V → Hp → Prop, t σ H R0 ∧ ∀ xs H1, R0 xs H1 → R xs H1
def mcE (t : TE) : TE := fun σ H R => ∃ R0 : VK, t σ H R0 ∧ ∀ x H1, R0 x H1 → R x H1
theorem pa_mc {es : List Expr} {t : TA} (h : PA X es t) : PA X es (mcA t) := ⟨fun pos pins s σ H Q I ⟨_, h0, m⟩ => thn (h.run pos pins s σ H _ I h0) fun _ _ ⟨vs, H1, I1, r, q⟩ => ⟨vs, H1, I1, r, m _ _ q⟩⟩
theorem pe_mc {e : Expr} {t : TE} (h : PE X e t) : PE X e (mcE t) := ⟨fun pins s σ H Q I ⟨_, h0, m⟩ => thn (h.run pins s σ H _ I h0) fun _ _ ⟨x, H1, I1, r, q⟩ => ⟨x, H1, I1, r, m _ _ q⟩⟩
def tTupN (t : TA) : TE := fun σ H Q => t σ H fun xs H1 => xs.length ≤ sizeLine ∧ NewO H1 (.tup xs) Q
def tLstN (t : TA) : TE := fun σ H Q => t σ H fun xs H1 => xs.length ≤ sizeLine ∧ NewO H1 (.lst xs) Q
theorem pe_tupN {es : List Expr} {t : TA} {pos : Pos} {x1} (h : PA X es t) : PE X (.Tuple es x1 pos) (tTupN t) := pe_mono (pe_tup (pa_mc h)) fun _ _ _ q => ⟨_, q, fun _ _ ⟨a, b⟩ => ⟨a, b.o⟩⟩
theorem pe_lstN {es : List Expr} {t : TA} {pos : Pos} (h : PA X es t) : PE X (.List es pos) (tLstN t) := pe_mono (pe_lst (pa_mc h)) fun _ _ _ q => ⟨_, q, fun _ _ ⟨a, b⟩ => ⟨a, b.o⟩⟩
def rListN (K : PySem.W.Frag) : List V → Hp → VK → Prop := fun xs H Q => ∃ p ys, xs = [.ref p] ∧ (SqL K H p ys ∨ SqT K H p ys) ∧ NewO H (.lst ys) Q
theorem call_listN : CallR X (.type "list") (rListN X.K) := call_mono call_list_of fun _ _ _ ⟨p, ys, a, b, c⟩ => ⟨p, ys, a, b, c.o⟩
def rTupLN (K : PySem.W.Frag) : List V → Hp → VK → Prop := fun xs H Q => ∃ p ys, xs = [.ref p] ∧ SqL K H p ys ∧ NewF H ys Q
theorem call_tupleLN : CallR X (.type "tuple") (rTupLN X.K) := call_mono call_tupleF fun _ _ _ ⟨p, ys, a, b, c⟩ => ⟨p, ys, a, .inl ⟨b, fun l o nl d => c.o _ _ (Same.new nl) ⟨o, upd_same, d⟩⟩⟩
def rTupTN (K : PySem.W.Frag) : List V → Hp → VK → Prop := fun xs H Q => ∃ p ys, xs = [.ref p] ∧ SqT K H p ys ∧ Q (.ref p) H
theorem call_tupleTN : CallR X (.type "tuple") (rTupTN X.K) := call_mono call_tupleF fun _ _ _ ⟨p, ys, a, b, c⟩ => ⟨p, ys, a, .inr ⟨b, c⟩⟩
def rSlLN (K : PySem.W.Frag) : V → Option Int → Option Int → Hp → VK → Prop := fun x lo hi H Q => ∃ a xs, x = .ref a ∧ SqL K H a xs ∧ NewO H (.lst (cutV xs lo hi)) Q
theorem sl_listN : L2.SlR X (rSlLN X.K) := sl_mono sl_list fun _ _ _ _ _ ⟨p, ys, a, b, c⟩ => ⟨p, ys, a, b, c.o⟩
def rCatN : R2 := fun x y H Q => ∃ l b xs zs, x = .ref l ∧ y = .ref b ∧ H l = some (.lst xs) ∧ H b = some (.lst zs) ∧ xs.length + zs.length ≤ sizeLine ∧ NewO H (.lst (xs ++ zs)) Q
theorem op_catN : OpR X (binaryOp .Add) rCatN := op_mono op_cat fun _ _ _ _ ⟨l, b, xs, zs, h1, h2, h3, h4, h5, h6⟩ => ⟨l, b, xs, zs, h1, h2, h3, h4, h5, h6.o⟩
def rRepN : R2 := fun x y H Q => ∃ l k xs, x = .ref l ∧ y = .int k ∧ H l = some (.lst xs) ∧ (-(2 ^ 63) ≤ k ∧ k < 2 ^ 63) ∧ xs.length * k.toNat ≤ sizeLine ∧ NewO H (.lst (List.replicate k.toNat xs).flatten) Q
theorem op_repN : OpR X (binaryOp .Mult) rRepN := op_mono op_rep fun _ _ _ _ ⟨l, b, xs, h1, h2, h3, h4, h5, h6⟩ => ⟨l, b, xs, h1, h2, h3, h4.1, h4.2, h5, h6.o⟩
def tRevLN (K : PySem.W.Frag) (te : TE) : TE := fun σ H Q => te σ H fun x H1 => ∃ a xs, x = .ref a ∧ SqL K H1 a xs ∧ NewO H1 (.lst xs.reverse) Q
theorem pe_revLN {e : Expr} {te : TE} {k : Nat} {p1 p2 p3 pos : Pos} (he : PE X e te) : PE X (.Subscript e (.Slice none none (some (.UnaryOp .USub (.Constant (.int 1) k p1) p2)) p3) pos) (tRevLN X.K te) :=
  pe_mono (pe_revL (pe_mc he)) fun _ _ _ q => ⟨_, q, fun _ _ ⟨a, xs, h1, h2, h3⟩ => ⟨a, xs, h1, h2, h3.o⟩⟩
def rSortX (K : PySem.W.Frag) : List V → Hp → VK → Prop := fun xs H Q => ∃ (p : Addr) (ls : List (List Nat)), xs = [.ref p] ∧ SqL K H p (ls.map nmV) ∧ ls.length < 64 ∧ NewO H (.lst ((srt ls).map nmV)) Q
theorem cr_sortedX : CallR X (.builtin "sorted") (rSortX X.K) := call_mono cr_sortedS fun xs H Q ⟨p, ls, h1, h2, h3, h4⟩ => by
  refine ⟨p, ls.map tx, h1, by rw [List.map_map]; exact h2, by rw [List.length_map]; exact h3, fun ys q hp hs nq => ?_⟩
  rw [sortedS_srt hp hs, List.map_map]
  exact h4.o q nq
/-- ints, rising -/
def srtI (ns : List Int) : List Int := ns.mergeSort (fun a b => decide (a ≤ b))
theorem srtI_perm (ns : List Int) : (srtI ns).Perm ns := List.mergeSort_perm ..
theorem srtI_pw (ns : List Int) : (srtI ns).Pairwise (fun a b => a ≤ b) := by
  refine (List.pairwise_mergeSort (le := fun a b : Int => decide (a ≤ b)) (fun a b c h1 h2 => ?_) (fun a b => ?_) ns).imp fun h => of_decide_eq_true h
  · have := of_decide_eq_true h1; have := of_decide_eq_true h2; exact decide_eq_true (by omega)
  · rw [Bool.or_eq_true, decide_eq_true_eq, decide_eq_true_eq]; omega
theorem srtI_uniq {as bs : List Int} (p : as.Perm bs) (ha : as.Pairwise (fun a b => a ≤ b)) (hb : bs.Pairwise (fun a b => a ≤ b)) : as = bs :=
  List.Perm.eq_of_pairwise (le := fun a b : Int => a ≤ b) (fun a b _ _ h1 h2 => by omega) ha hb p
def rSortIN (K : PySem.W.Frag) : List V → Hp → VK → Prop := fun xs H Q => ∃ (p : Addr) (ns : List Int), xs = [.ref p] ∧ SqL K H p (ns.map V.int) ∧ NewO H (.lst ((srtI ns).map V.int)) Q
theorem cr_sortedIN : CallR X (.builtin "sorted") (rSortIN X.K) := call_mono cr_sortedI fun xs H Q ⟨p, ns, h1, h2, h3⟩ => by
  refine ⟨p, ns, h1, h2, fun ys q hp hs nq => ?_⟩
  rw [srtI_uniq (hp.trans (srtI_perm ns).symm) hs (srtI_pw ns)]
  exact h3.o q nq
def tDKN : TE := fun _ H Q => NewO H (.dK []) Q
def tDTN : TE := fun _ H Q => NewO H (.dT []) Q
theorem pe_dnewKN {pos : Pos} : PE X (.Dict [] [] pos) tDKN := pe_mono pe_dnewK fun _ _ _ q => q.o
theorem pe_dnewTN {pos : Pos} : PE X (.Dict [] [] pos) tDTN := pe_mono pe_dnewT fun _ _ _ q => q.o
/-! texts -/
/-- what stands ahead of the first c, and behind it -/
def bef (c : Nat) (z : List Nat) : List Nat := z.takeWhile (fun d => d != c)
def aft (c : Nat) (z : List Nat) : List Nat := (z.dropWhile (fun d => d != c)).drop 1
theorem bef_free (c : Nat) (z : List Nat) : c ∉ bef c z := fun h => by
  have := List.all_takeWhile (p := fun d => d != c) (l := z)
  have h2 := List.all_eq_true.mp this c h
  simp at h2
theorem bef_aft {c : Nat} {z : List Nat} (h : c ∈ z) : z = bef c z ++ c :: aft c z := by
  unfold bef aft
  induction z with
  | nil => cases h
  | cons d r ih =>
    by_cases e : d = c
    · subst e; simp
    · have hd : (d != c) = true := by simpa using e
      rw [List.takeWhile_cons, List.dropWhile_cons, hd]
      simp only [if_true, List.cons_append]
      congr 1
      exact ih (by rcases List.mem_cons.mp h with rfl | h; exact absurd rfl e; exact h)
theorem bef_none {c : Nat} {z : List Nat} (h : c ∉ z) : bef c z = z := by
  unfold bef
  induction z with
  | nil => rfl
  | cons d r ih =>
    have hd : (d != c) = true := by simp; rintro rfl; exact h (List.mem_cons_self ..)
    rw [List.takeWhile_cons, hd, if_pos rfl, ih fun z => h (List.mem_cons_of_mem _ z)]
theorem aft_none {c : Nat} {z : List Nat} (h : c ∉ z) : aft c z = [] := by
  unfold aft
  induction z with
  | nil => rfl
  | cons d r ih =>
    have hd : (d != c) = true := by simp; rintro rfl; exact h (List.mem_cons_self ..)
    rw [List.dropWhile_cons, hd, if_pos rfl, ih fun z => h (List.mem_cons_of_mem _ z)]
theorem bef_len (c : Nat) (z : List Nat) : (bef c z).length ≤ z.length := (List.takeWhile_sublist _).length_le
theorem aft_len (c : Nat) (z : List Nat) : (aft c z).length ≤ z.length := by
  unfold aft
  rw [List.length_drop]
  have := (List.dropWhile_sublist (l := z) (fun d => d != c)).length_le
  omega
theorem bef_app {c : Nat} {a b : List Nat} (h : c ∉ a) : bef c (a ++ c :: b) = a := by
  unfold bef
  rw [List.takeWhile_append_of_pos fun d hd => by simp; rintro rfl; exact h hd]
  simp
theorem aft_app {c : Nat} {a b : List Nat} (h : c ∉ a) : aft c (a ++ c :: b) = b := by
  unfold aft
  rw [List.dropWhile_append_of_pos fun d hd => by simp; rintro rfl; exact h hd]
  simp
def rParN : V → List V → Hp → VK → Prop := fun x xs H Q => ∃ (z : List Nat) (c : Nat), x = .str (tx z) ∧ xs = [.str (tx [c])] ∧ SzT z.length ∧ NewO H (.tup [nmV (bef c z), nmV (if c ∈ z then [c] else []), nmV (aft c z)]) Q
theorem mt_parN : MtR X "str.partition" rParN := mt_mono mt_partition fun x xs H Q ⟨z, c, h1, h2, h3, h4⟩ => by
  refine ⟨tx z, tx [c], h1, h2, rfl, by rw [tx_len]; exact h3.ok, fun p np => ?_⟩
  have hq := h4.o p np
  by_cases hc : c ∈ z
  · have e := bef_aft hc
    have e2 : tx z = tx (bef c z) ++ tx [c] ++ tx (aft c z) := by rw [tx_add, tx_add, List.append_assoc]; exact congrArg tx e
    have e3 : Txt.partition (tx z) (tx [c]) = (tx (bef c z), tx [c], tx (aft c z)) := by
      rw [e2]
      exact TL.partition_app (s := c) (S := []) rfl (by rw [TL.tl_mk]; exact bef_free c z)
    rw [if_pos hc] at hq
    rw [e3]; exact hq
  · have e3 : Txt.partition (tx z) (tx [c]) = (tx z, Str.empty, Str.empty) := TL.partition_none (s := c) (S := []) rfl (by rw [TL.tl_mk]; exact hc)
    rw [if_neg hc, bef_none hc, aft_none hc] at hq
    rw [e3]; exact hq
/-- a text cut at each c -/
def splt (c : Nat) (z : List Nat) : List (List Nat) := TL.spl [c] 0 [] z
theorem splt_none {c : Nat} {z : List Nat} (h : c ∉ z) : splt c z = [z] := by
  unfold splt; rw [TL.spl_last1 h]; rfl
theorem splt_some {c : Nat} {z : List Nat} (h : c ∈ z) : splt c z = bef c z :: splt c (aft c z) := by
  unfold splt
  have e := TL.spl_part1 (s := c) (S := []) (p := bef c z) (rest := aft c z) (acc := []) (bef_free c z)
  rw [List.nil_append] at e
  rw [← e]
  congr 1
  exact bef_aft h
theorem splt_ne (c : Nat) (z : List Nat) : 0 < (splt c z).length := by
  by_cases h : c ∈ z
  · rw [splt_some h]; simp
  · rw [splt_none h]; simp
def rSplN : V → List V → Hp → VK → Prop := fun x xs H Q => ∃ (z : List Nat) (c : Nat), x = .str (tx z) ∧ xs = [.str (tx [c])] ∧ (SzT z.length ∧ c < 256) ∧ NewO H (.lst ((splt c z).map nmV)) Q
theorem mt_splN : MtR X "str.split" rSplN := mt_mono mt_split fun x xs H Q ⟨z, c, h1, h2, ⟨h3, hc⟩, h4⟩ => by
  refine ⟨tx z, tx [c], h1, h2, rfl, by rw [tx_len, sizeLine_eq]; unfold SzT at h3; omega, fun p np => ?_⟩
  have hq := h4.o p np
  have e : (Txt.split (tx z) (tx [c])).map TL.tl = splt c z := by
    have := TL.split_spl (tx z) (tx [c]) (by simp) (TL.kind_ok (by simpa using hc))
    rw [this]; unfold splt; simp
  have e2 : Txt.split (tx z) (tx [c]) = (splt c z).map tx := by
    refine TL.map_tl_inj ?_
    rw [e, List.map_map]
    exact (List.map_id'' (fun l => tx_cps l) _).symm
  rw [e2, List.map_map]
  exact hq
def rLstrip : V → List V → Hp → VK → Prop := fun x xs H Q => ∃ (z y : List Nat), x = .str (tx z) ∧ xs = [.str (tx y)] ∧ SzT z.length ∧ ∀ l : List Nat, l.length ≤ z.length → Q (nmV l) H
theorem mt_lstripN : MtR X "str.lstrip" rLstrip := mt_mono mt_lstripChars fun x xs H Q ⟨z, y, h1, h2, h3, h4⟩ => by
  refine ⟨tx z, tx y, h1, h2, by rw [tx_len]; exact h3.ok, ?_⟩
  rw [tx_of (Txt.lstripChars (tx z) (tx y))]
  refine h4 _ ?_
  have := PyProof.Rows.len_lstripChars (tx z) (tx y)
  rw [tx_len] at this
  exact this
/-- sep.join(texts) -/
def jn (s : List Nat) (ls : List (List Nat)) : List Nat := TL.joinL s ls
def rJoinN (K : PySem.W.Frag) : V → List V → Hp → VK → Prop := fun x xs H Q => ∃ (s : List Nat) (p : Addr) (ls : List (List Nat)), x = .str (tx s) ∧ xs = [.ref p] ∧ SqL K H p (ls.map nmV) ∧ (ls.map List.length).sum + ls.length * s.length ≤ 1000000 ∧ Q (nmV (jn s ls)) H
theorem mt_joinN : MtR X "str.join" (rJoinN X.K) := mt_mono mt_join fun x xs H Q ⟨s, p, ls, h1, h2, h3, h4, h5⟩ => by
  refine ⟨tx s, p, ls.map tx, h1, h2, .inl (by rw [List.map_map]; exact h3), ?_, ?_⟩
  · rw [List.map_map, List.length_map, tx_len]
    have : (ls.map ((fun x : Str => x.length) ∘ tx)) = ls.map List.length := List.map_congr_left fun l _ => tx_len l
    rw [this]; omega
  · have e : Txt.join (tx s) (ls.map tx) = tx (jn s ls) := by
      refine TL.ext_tl ?_
      rw [TL.join_eq, TL.tl_join, List.map_map, TL.tl_mk, TL.tl_mk]
      unfold jn
      congr 1
      exact List.map_id'' (fun l => tx_cps l) _
    rw [e]; exact h5
end
/-! numbers as texts -/
def FG : List Nat := [48, 49, 50, 51, 52, 53, 54, 55, 56, 57]
theorem FG_iff {c : Nat} : c ∈ FG ↔ 48 ≤ c ∧ c ≤ 57 := by
  unfold FG
  simp only [List.mem_cons, List.not_mem_nil, or_false]
  omega
def val (l : List Nat) : Nat := NumText.digitsVal l
def rIntN : List V → Hp → VK → Prop := fun xs H Q => ∃ l : List Nat, xs = [nmV l] ∧ (l ≠ [] ∧ (∀ c ∈ l, c ∈ FG) ∧ l.length ≤ 640) ∧ Q (.int ((val l : Nat) : Int)) H
theorem call_intN {X : Cx} : CallR X (.type "int") rIntN := call_mono call_int_str fun xs H Q ⟨l, h1, ⟨h2, h3, h4⟩, h5⟩ => by
  refine ⟨tx l, _, h1, PySem.intText_digits (x := tx l) (fun c hc => ?_) ?_ ?_, by rw [tx_len]; exact h4, ?_⟩
  · rw [tx_cps] at hc; exact FG_iff.mp (h3 c hc)
  · rw [tx_cps]; exact h2
  · rw [tx_len]; omega
  · rw [tx_cps]; exact h5
theorem figs_numL (n : Nat) : figs (n : Int) = TL.numL n := by rw [figs_nat]; rfl
theorem figs_fg (n : Nat) : ∀ c ∈ figs (n : Int), c ∈ FG := fun c hc => by
  rw [figs_numL] at hc
  exact FG_iff.mpr (TL.numL_digits n c hc)
theorem figs_ne (n : Nat) : figs (n : Int) ≠ [] := by rw [figs_numL]; exact TL.numL_ne n
theorem val_figs (n : Nat) : val (figs (n : Int)) = n := by rw [figs_numL]; exact TL.numL_val n
theorem figs_len {n k : Nat} (hk : 0 < k) (h : n < 10 ^ k) : (figs (n : Int)).length ≤ k := by rw [figs_numL]; exact TL.numL_len hk h
/-- isinstance(e, (C1, ..)), the tuple at p -/
theorem isxtN {K : PySem.W.Frag} {H : Hp} {Q : VK} {x : Str} {a p : Addr} {b : Bool} (ys : List Cv) (h : PySem.W.kitAny K (.ref (He.ga K x)) (ys.map (Cv.val K)) = some b) (C : ExcC K (He.ga K x)) (hT : H p = some (.tup (ys.map (Cv.v K)))) (ha : H a = some (XO (.ref (He.ga K x)) none a))
    (q : Q (.bl b) H) : rIsXT K [.ref a, .ref p] H Q := by
  unfold rIsXT
  exact ⟨a, _, p, _, _, b, rfl, ha, C, hT, clsvs K ys, h, q⟩
theorem bit_log {n : Nat} {i : Int} (h : Bit n i) (hn : n ≤ 1919) : i.natAbs.log2 < 1920 := by
  have := PySem.Flt.log2_lt_of (n := i.natAbs) (k := n + 1) (by omega) (h.mono (by omega : n ≤ n + 1))
  omega
/-! numbers as texts: the ways between -/
theorem val_lt' : ∀ (l : List Nat) (a : Nat), (∀ c ∈ l, c ∈ FG) → l.foldl (fun acc c => acc * 10 + (c - 48)) a < (a + 1) * 10 ^ l.length
  | [], a, _ => by simp
  | c :: r, a, h => by
    have h1 := val_lt' r (a * 10 + (c - 48)) fun d hd => h d (List.mem_cons_of_mem _ hd)
    have h2 := FG_iff.mp (h c (List.mem_cons_self ..))
    rw [List.foldl_cons, List.length_cons, Nat.pow_succ, Nat.mul_comm (10 ^ r.length) 10, ← Nat.mul_assoc]
    refine Nat.lt_of_lt_of_le h1 (Nat.mul_le_mul_right _ ?_)
    omega
theorem val_lt {l : List Nat} (h : ∀ c ∈ l, c ∈ FG) : val l < 10 ^ l.length := by
  have := val_lt' l 0 h
  rw [Nat.zero_add, Nat.one_mul] at this
  exact this
theorem figs_head : ∀ {n : Nat}, 0 < n → ∃ c r, figs (n : Int) = c :: r ∧ c ≠ 48 := by
  intro n
  induction n using Nat.strongRecOn with
  | ind n ih =>
    intro hn
    by_cases h : n < 10
    · rw [figs_numL, TL.numL_lt h]
      exact ⟨_, _, rfl, by omega⟩
    · obtain ⟨c, r, e, h1⟩ := ih (n / 10) (by omega) (by omega)
      rw [figs_numL] at e
      rw [figs_numL, TL.numL_step (by omega), e]
      exact ⟨c, _, rfl, h1⟩
end Lim
namespace Lim
open PySem PySem.Spec PyProof.Rows L2
local macro_rules | `(tactic| walk_at "same") => `(tactic| first | assumption | exact Same.refl _ | (apply Same.rt; assumption; walk_at "same") | (apply Same.mut; (walk_at "same"); (walk_at "nn")) | (apply Same.new; assumption))
local macro_rules | `(tactic| walk_at "nn") => `(tactic| first | assumption | (refine Same.noneB ?_ (by assumption); walk_at "same"))
local macro_rules | `(tactic| walk_at "get") => `(tactic| first | assumption | exact upd_same | (apply Same.get; assumption; walk_at "get"))
local macro_rules | `(tactic| walk_at "ft") => `(tactic| first | assumption | (apply FT.same; assumption; walk_at "ft") | (apply FT.mutL; (walk_at "get"); walk_at "ft"))
local macro_rules | `(tactic| walk_at "bit") => `(tactic| repeat' (first | assumption | apply Bit.mul | apply bit_add | apply bit_sub | exact bit_fmod _ (by decide +kernel) | exact bit_lit _))
local macro_rules | `(tactic| walk_at "sqt") => `(tactic| first | assumption | exact sqt_new | exact sqt_of (by assumption) | exact FT.sqt (by assumption) | (apply Same.tup; assumption; walk_at "sqt") | (apply sqt_mut; (walk_at "get"); walk_at "sqt"))
local macro_rules | `(tactic| walk_at "sql") => `(tactic| first | assumption | exact sql_new | exact sql_of (by assumption) | (apply Same.seq; assumption; walk_at "sql"))
local macro_rules | `(tactic| walk_at "dp") => `(tactic| first | assumption | exact Dp.int _ | exact Dp.str _ | exact Dp.bl _ | exact Dp.non | (apply dp_same; assumption; walk_at "dp") | (refine Dp.tup (by walk_at "sqt") ?_; walk_at "dps") | (refine Dp.lst (by walk_at "sql") ?_; walk_at "dps"))
local macro_rules | `(tactic| walk_at "dps") => `(tactic| first | assumption | exact DpAll.nil | (refine DpAll.cons (by walk_at "dp") ?_; walk_at "dps") | exact dps_nm _ | (apply dps_same; assumption; walk_at "dps"))
local macro_rules | `(tactic| walk_at "go") => `(tactic| repeat' (first | exact kt_ii | exact kt_ib | exact kt_bb | exact kt_tt | exact kt_bi | exact kt_ss | exact kt_ll | exact rfl | ((with_reducible show NewO _ _ _); apply newO; intro _ _ _ _ _) | ((with_reducible show NewF _ _ _); apply newF; intro _ _ _ _) | ((with_reducible show Ret _ _ _ _); apply ret; intro _ _ _ _) | ((with_reducible show RetN _ _ _); apply retN; intro _ _ _ _) | ((with_reducible show SqT _ _ _ _); walk_at "sqt") | ((with_reducible show FT _ _ _); walk_at "ft") | ((with_reducible show SqL _ _ _ _); walk_at "sql") | ((with_reducible show Dp _ _ _ _); walk_at "dp") | ((with_reducible show Sz _ _); assumption) | ((with_reducible show tyV _ _ _ _); exact Or.inl ⟨rfl, _, Or.inl (Or.inl (by walk_at "get"))⟩) | ((with_reducible show _ = some (HO.lst _)); walk_at "get") | ((with_reducible show _ = some (HO.tup _)); walk_at "get") | ((with_reducible show _ = some (HO.dK _)); walk_at "get") | ((with_reducible show _ = some (HO.dT _)); walk_at "get") | ((with_reducible show DGet _ _ _ _); first | exact dget_s (by walk_at "get") | exact dget_i (by walk_at "get")) | ((with_reducible show DPut _ _ _ _ _); first | refine dput_s (by walk_at "get") ?_ | refine dput_i (by walk_at "get") ?_) | ((with_reducible show SqL _ _ _ _ ∨ SqT _ _ _ _); first | (refine Or.inl ?_; walk_at "sql") | (refine Or.inr ?_; walk_at "sqt")) | apply And.intro | apply Exists.intro | exact True.intro | exact ClsV.ty _ | exact ClsV.own _ | exact TyX.base (TyOf.int _) | exact TyX.base (TyOf.bl _) | exact TyX.base (TyOf.str _) | ((with_reducible show TyX _ _ _ _); first | (apply ty_tup; walk_at "sqt") | (apply ty_lst; walk_at "sql")) | exact at0 | exact at1 | ((with_reducible show _ ≤ sizeLine); first | exact sz2 | exact sz1 | exact sz0 | exact sz3 | exact sz4 | exact sz5 | exact sz6 | exact sz7 | exact sz8 | exact sz9 | exact sz10 | exact sz11 | exact sz12 | exact sz13 | exact sz14 | exact sz15 | exact sz16) | ((with_reducible show SzT _); (first | assumption | (unfold SzT; (try simp only [List.length_append, List.length_cons, List.length_nil, SG_len]); omega))) | ((with_reducible show atI _ _ = some _); assumption) | exact dv_lit (by decide +kernel) | exact nz_lit (by decide +kernel) | exact ml_lit (by decide +kernel) | exact IntMulOk.of_right (by decide +kernel) | exact IntMulOk.of_left (by decide +kernel) | ((with_reducible show IntMulOk _ _); exact mulok (by walk_at "bit") (by walk_at "bit") (by decide +kernel)) | ((with_reducible show @Eq Nat _ _); assumption) | ((with_reducible show @LE.le Int _ _ _); assumption) | ((with_reducible show @LT.lt Int _ _ _); assumption) | ((with_reducible show @LE.le Nat _ _ _); assumption) | ((with_reducible show @LT.lt Nat _ _ _); assumption) | decide))
local macro_rules | `(tactic| walk_at "if") => `(tactic| first | refine ifX ?_ ?_ | refine ifnX ?_ ?_ | refine ifI ?_ ?_ | refine ifnI ?_ ?_ | refine ifS ?_ ?_ | refine ifnS ?_ ?_ | refine ifd ?_ ?_ | refine ifn ?_ ?_ | refine ifb ?_ ?_)
def tl_11424 : List Nat := [110, 111, 32, 119, 104, 111, 108, 101, 32, 110, 117, 109, 98, 101, 114, 115]
theorem tl_11424_len : tl_11424.length = 16 := by decide +kernel
def tl_19a16 : List Nat := [97, 32, 98, 111, 116, 116, 111, 109, 32, 111, 102, 32, 110, 111, 117, 103, 104, 116]
theorem tl_19a16_len : tl_19a16.length = 18 := by decide +kernel
def tl_8ee1e : List Nat := [110, 111, 32, 102, 105, 103, 117, 114, 101, 115, 44, 32, 111, 114, 32, 116, 111, 111, 32, 109, 97, 110, 121]
theorem tl_8ee1e_len : tl_8ee1e.length = 23 := by decide +kernel
def tl_affc5 : List Nat := [97, 32, 110, 111, 117, 103, 104, 116, 32, 97, 104, 101, 97, 100]
theorem tl_affc5_len : tl_affc5.length = 14 := by decide +kernel
def tl_08100 : List Nat := [97, 32, 115, 105, 103, 110, 32, 116, 104, 97, 116, 32, 105, 115, 32, 110, 111, 32, 102, 105, 103, 117, 114, 101]
theorem tl_08100_len : tl_08100.length = 24 := by decide +kernel
def tl_7109b : List Nat := [32, 33, 34, 35, 36, 38, 39, 40, 41, 42, 43, 44, 45, 46, 47, 48, 49, 50, 51, 52, 53, 54, 55, 56, 57, 58, 59, 60, 61, 62, 63, 64, 65, 66, 67, 68, 69, 70, 71, 72, 73, 74, 75, 76, 77, 78, 79, 80, 81, 82, 83, 84, 85, 86, 87, 88, 89, 90, 91, 92, 93, 94, 95, 96]
theorem tl_7109b_len : tl_7109b.length = 64 := by decide +kernel
def tl_b9801 : List Nat := [97, 98, 99, 100, 101, 102, 103, 104, 105, 106, 107, 108, 109, 110, 111, 112, 113, 114, 115, 116, 117, 118, 119, 120, 121, 122, 123, 124, 125, 126, 10, 9]
theorem tl_b9801_len : tl_b9801.length = 32 := by decide +kernel
def top (i : Nat) : Stmt := PySem.Challenge.pw_limbmap_k03_amounts_as_texts.main.body.getD i (.Pass ⟨0, 0, 0, 0⟩)
abbrev s_is_whole : Stmt := top 8
theorem sc_is_whole : FnScope ["thing"] ["thing"] (defScope s_is_whole) := ⟨rfl, rfl, rfl, by decide +kernel, rfl, by decide +kernel, by decide +kernel⟩
abbrev s_divisor : Stmt := top 9
theorem sc_divisor : FnScope ["one", "other"] ["one", "other"] (defScope s_divisor) := ⟨rfl, rfl, rfl, by decide +kernel, rfl, by decide +kernel, by decide +kernel⟩
abbrev s_amount : Stmt := top 10
theorem sc_amount : FnScope ["top", "bottom", "share"] ["top", "bottom"] (defScope s_amount) := ⟨rfl, rfl, rfl, by decide +kernel, rfl, by decide +kernel, by decide +kernel⟩
abbrev s_number_read : Stmt := top 11
theorem sc_number_read : FnScope ["text", "sign"] ["text"] (defScope s_number_read) := ⟨rfl, rfl, rfl, by decide +kernel, rfl, by decide +kernel, by decide +kernel⟩
abbrev s_read_amount : Stmt := top 12
theorem sc_read_amount : FnScope ["text", "top", "stroke", "bottom"] ["text"] (defScope s_read_amount) := ⟨rfl, rfl, rfl, by decide +kernel, rfl, by decide +kernel, by decide +kernel⟩
abbrev s_shown_amount : Stmt := top 13
theorem sc_shown_amount : FnScope ["one"] ["one"] (defScope s_shown_amount) := ⟨rfl, rfl, rfl, by decide +kernel, rfl, by decide +kernel, by decide +kernel⟩
abbrev s_law_cell_at : Stmt := top 15
theorem sc_law_cell_at : FnScope ["_law_script", "_law_k"] ["_law_script", "_law_k"] (defScope s_law_cell_at) := ⟨rfl, rfl, rfl, by decide +kernel, rfl, by decide +kernel, by decide +kernel⟩
abbrev s_law_whole : Stmt := top 16
theorem sc_law_whole : FnScope ["_law_thing"] ["_law_thing"] (defScope s_law_whole) := ⟨rfl, rfl, rfl, by decide +kernel, rfl, by decide +kernel, by decide +kernel⟩
abbrev s_law_divisor : Stmt := top 17
theorem sc_law_divisor : FnScope ["_law_one", "_law_other"] ["_law_one", "_law_other"] (defScope s_law_divisor) := ⟨rfl, rfl, rfl, by decide +kernel, rfl, by decide +kernel, by decide +kernel⟩
abbrev s_law_sign : Stmt := top 18
theorem sc_law_sign : FnScope ["_law_cell", "_law_some"] ["_law_cell"] (defScope s_law_sign) := ⟨rfl, rfl, rfl, by decide +kernel, rfl, by decide +kernel, by decide +kernel⟩
abbrev s_law_figures : Stmt := top 19
theorem sc_law_figures : FnScope ["_law_cell", "_law_number_here", "_law_text_here"] ["_law_cell"] (defScope s_law_figures) := ⟨rfl, rfl, rfl, by decide +kernel, rfl, by decide +kernel, by decide +kernel⟩
abbrev s_law_text : Stmt := top 20
theorem sc_law_text : FnScope ["_law_first", "_law_second", "_law_kind", "_law_place", "_law_text_here", "_law_at"] ["_law_first", "_law_second", "_law_kind", "_law_place"] (defScope s_law_text) := ⟨rfl, rfl, rfl, by decide +kernel, rfl, by decide +kernel, by decide +kernel⟩
abbrev s_law_number : Stmt := top 21
theorem sc_law_number : FnScope ["_law_text_here", "_law_sign_here"] ["_law_text_here"] (defScope s_law_number) := ⟨rfl, rfl, rfl, by decide +kernel, rfl, by decide +kernel, by decide +kernel⟩
abbrev s_law_due : Stmt := top 22
theorem sc_law_due : FnScope ["_law_text_here", "_law_parts", "_law_top", "_law_bottom", "_law_share"] ["_law_text_here"] (defScope s_law_due) := ⟨rfl, rfl, rfl, by decide +kernel, rfl, by decide +kernel, by decide +kernel⟩
abbrev s_law_alike : Stmt := top 23
theorem sc_law_alike : FnScope ["_law_found", "_law_due_here"] ["_law_found", "_law_due_here"] (defScope s_law_alike) := ⟨rfl, rfl, rfl, by decide +kernel, rfl, by decide +kernel, by decide +kernel⟩
abbrev s_law_written : Stmt := top 24
theorem sc_law_written : FnScope ["_law_due_here", "_law_text_here", "_law_found"] ["_law_due_here"] (defScope s_law_written) := ⟨rfl, rfl, rfl, by decide +kernel, rfl, by decide +kernel, by decide +kernel⟩
abbrev s_law_refused : Stmt := top 25
theorem sc_law_refused : FnScope ["_law_text_here", "_law_caught", "e"] ["_law_text_here"] (defScope s_law_refused) := ⟨rfl, rfl, rfl, by decide +kernel, rfl, by decide +kernel, by decide +kernel⟩
abbrev s_law : Stmt := top 26
theorem sc_law : FnScope ["_law_script", "_law_kind", "_law_text_here", "_law_top", "_law_bottom", "_law_share", "_law_due_here"] ["_law_script"] (defScope s_law) := ⟨rfl, rfl, rfl, by decide +kernel, rfl, by decide +kernel, by decide +kernel⟩
structure Txt (K : PySem.W.Frag) (mg : Str → Option Value) : Prop where
  g_is_whole : mg "is_whole" = some (.ref (He.ga K "is_whole"))
  g_divisor : mg "divisor" = some (.ref (He.ga K "divisor"))
  g_amount : mg "amount" = some (.ref (He.ga K "amount"))
  g_number_read : mg "number_read" = some (.ref (He.ga K "number_read"))
  g_read_amount : mg "read_amount" = some (.ref (He.ga K "read_amount"))
  g_shown_amount : mg "shown_amount" = some (.ref (He.ga K "shown_amount"))
  g_law_cell_at : mg "_law_cell_at" = some (.ref (He.ga K "_law_cell_at"))
  g_law_whole : mg "_law_whole" = some (.ref (He.ga K "_law_whole"))
  g_law_divisor : mg "_law_divisor" = some (.ref (He.ga K "_law_divisor"))
  g_law_sign : mg "_law_sign" = some (.ref (He.ga K "_law_sign"))
  g_law_figures : mg "_law_figures" = some (.ref (He.ga K "_law_figures"))
  g_law_text : mg "_law_text" = some (.ref (He.ga K "_law_text"))
  g_law_number : mg "_law_number" = some (.ref (He.ga K "_law_number"))
  g_law_due : mg "_law_due" = some (.ref (He.ga K "_law_due"))
  g_law_alike : mg "_law_alike" = some (.ref (He.ga K "_law_alike"))
  g_law_written : mg "_law_written" = some (.ref (He.ga K "_law_written"))
  g_law_refused : mg "_law_refused" = some (.ref (He.ga K "_law_refused"))
  g_law : mg "law" = some (.ref (He.ga K "law"))
  g_TreeError : mg "TreeError" = some (.ref (He.ga K "TreeError"))
  g_NoAmount : mg "NoAmount" = some (.ref (He.ga K "NoAmount"))
  g_NoName : mg "NoName" = some (.ref (He.ga K "NoName"))
  g_NoText : mg "NoText" = some (.ref (He.ga K "NoText"))
  z_isinstance : mg "isinstance" = none
  z_int : mg "int" = none
  z_bool : mg "bool" = none
  z_abs : mg "abs" = none
  z_len : mg "len" = none
  z_str : mg "str" = none
  z_tuple : mg "tuple" = none
  c_FIGURES : ∃ t, mg "FIGURES" = some (.str "0123456789" t)
  c_LONGEST : ∃ t, mg "LONGEST" = some (.int 30 t)
  x_NoAmount : PySem.W.excIn K (He.ga K "NoAmount") He.veBase "ValueError.__new__" = true ∧ PySem.W.keepIn K (.ref (He.ga K "NoAmount")) = true ∧ PySem.W.subIn K (.ref (He.ga K "NoAmount")) (.type "BaseException") = some true ∧ PySem.W.typeIn K (.ref (He.ga K "NoAmount")) = some (.type "type")
  e_NoAmount_TreeError : PySem.W.exmOne K (.ref (He.ga K "NoAmount")) (.ref (He.ga K "TreeError")) = some true
  d_is_whole : FnP K "is_whole" s_is_whole []
  d_divisor : FnP K "divisor" s_divisor []
  d_amount : FnP K "amount" s_amount [.int 1]
  d_number_read : FnP K "number_read" s_number_read []
  d_read_amount : FnP K "read_amount" s_read_amount []
  d_shown_amount : FnP K "shown_amount" s_shown_amount []
  d_law_cell_at : FnP K "_law_cell_at" s_law_cell_at []
  d_law_whole : FnP K "_law_whole" s_law_whole []
  d_law_divisor : FnP K "_law_divisor" s_law_divisor []
  d_law_sign : FnP K "_law_sign" s_law_sign []
  d_law_figures : FnP K "_law_figures" s_law_figures []
  d_law_text : FnP K "_law_text" s_law_text []
  d_law_number : FnP K "_law_number" s_law_number []
  d_law_due : FnP K "_law_due" s_law_due []
  d_law_alike : FnP K "_law_alike" s_law_alike []
  d_law_written : FnP K "_law_written" s_law_written []
  d_law_refused : FnP K "_law_refused" s_law_refused []
  d_law : FnP K "law" s_law []
  xc_NoAmount : ExcC K (He.ga K "NoAmount")
  k1_NoAmount_NoAmount : PySem.W.kitOne K (.ref (He.ga K "NoAmount")) ((.own "NoAmount" : Cv).val K) = some true
  ka_115_NoAmount : PySem.W.kitAny K (.ref (He.ga K "NoAmount")) (([.own "NoName", .own "NoText"] : List Cv).map (Cv.val K)) = some false
section
variable {P : Program} {w : World} {K : PySem.W.Frag} {mg : Str → Option Value} {base : Heap}
/-! divisor -/
def sp_divisor : Sp := fun vs H Q _ => ∃ a b : Int, vs = [.int a, .int b] ∧ Q (.int (Int.gcd a b)) H
theorem abs_gcd (x : Int) : (if x < 0 then -x else x) = ((Int.gcd x 0 : Nat) : Int) := by
  rw [Int.gcd_zero_right]; split <;> omega
theorem ok_divisor (T : Txt K mg) : Def P w K mg base (0 + 1) "divisor" ["one", "other"] [] sp_divisor := by
  refine def_ok T.g_divisor T.d_divisor sc_divisor (fun vs H Q E h => by obtain ⟨a, b, rfl, _⟩ := h; rfl) (fun _ _ _ _ _ _ us hl => match us, hl with | [_, _], _ => rfl) (fun cdv A outer s H vs Q E hr h => ?_)
  obtain ⟨a, b, rfl, q⟩ := h
  refine ⟨_, (pss_cons (ps_wh (passes_of rfl) (pt_cmpR op_ne (pv 1) pe_int (nomark _)) (pss_one (ps_par (i := 0) (j := 1) (by rfl) sc_divisor.nd rfl rfl (by decide) rfl rfl (pa_cons (pv 1) (pa_cons (pe_op op_md (pv 0) (pv 1)) pa_nil)) (by rfl))))
      (pss_one (ps_ret (pe_callB call_abs (by rfl) T.z_abs (by decide +kernel) (pa_cons (pv 0) pa_nil))))), ?_⟩
  refine wh_by (fun σ H' => ∃ x y : Int, σ = [some (.int x), some (.int y)] ∧ H' = H ∧ Int.gcd x y = Int.gcd a b) (fun σ => match σ with | [_, some (.int y)] => y.natAbs | _ => 0) ⟨a, b, rfl, rfl, rfl⟩ ?_
  rintro σ H' ⟨x, y, rfl, rfl, e⟩
  walk_at "go"
  walk_at "if"
  · intro hy
    refine ⟨_, wn, ?_⟩
    walk_at "go"
    · exact ⟨hy⟩
    · exact fmod_lt x hy
    · exact (gcd_fmod x y).trans e
  · intro hy
    subst hy
    walk_at "go"
    show Q _ _
    rw [abs_gcd, e]; exact q
theorem ok_law_divisor (T : Txt K mg) : Def P w K mg base (0 + 1) "_law_divisor" ["_law_one", "_law_other"] [] sp_divisor := by
  refine def_ok T.g_law_divisor T.d_law_divisor sc_law_divisor (fun vs H Q E h => by obtain ⟨a, b, rfl, _⟩ := h; rfl) (fun _ _ _ _ _ _ us hl => match us, hl with | [_, _], _ => rfl) (fun cdv A outer s H vs Q E hr h => ?_)
  obtain ⟨a, b, rfl, q⟩ := h
  refine ⟨_, (pss_cons (ps_wh (passes_of rfl) (pt_cmpR op_ne (pv 1) pe_int (nomark _)) (pss_one (ps_par (i := 0) (j := 1) (by rfl) sc_law_divisor.nd rfl rfl (by decide) rfl rfl (pa_cons (pv 1) (pa_cons (pe_op op_md (pv 0) (pv 1)) pa_nil)) (by rfl))))
      (pss_one (ps_ret (pe_callB call_abs (by rfl) T.z_abs (by decide +kernel) (pa_cons (pv 0) pa_nil))))), ?_⟩
  refine wh_by (fun σ H' => ∃ x y : Int, σ = [some (.int x), some (.int y)] ∧ H' = H ∧ Int.gcd x y = Int.gcd a b) (fun σ => match σ with | [_, some (.int y)] => y.natAbs | _ => 0) ⟨a, b, rfl, rfl, rfl⟩ ?_
  rintro σ H' ⟨x, y, rfl, rfl, e⟩
  walk_at "go"
  walk_at "if"
  · intro hy
    refine ⟨_, wn, ?_⟩
    walk_at "go"
    · exact ⟨hy⟩
    · exact fmod_lt x hy
    · exact (gcd_fmod x y).trans e
  · intro hy
    subst hy
    walk_at "go"
    show Q _ _
    rw [abs_gcd, e]; exact q
/-! is_whole -/
def sp_whole : Sp := fun vs H Q _ => ∃ a : Int, vs = [.int a] ∧ Q (.bl true) H
theorem ok_is_whole (T : Txt K mg) : Def P w K mg base (0 + 1) "is_whole" ["thing"] [] sp_whole := by
  refine def_ok T.g_is_whole T.d_is_whole sc_is_whole (fun vs H Q E h => by obtain ⟨a, rfl, _⟩ := h; rfl) (fun _ _ _ _ _ _ us hl => match us, hl with | [_], _ => rfl) (fun cdv A outer s H vs Q E hr h => ?_)
  obtain ⟨a, rfl, q⟩ := h
  refine ⟨_, (pss_one (ps_ret (pe_and (pe_callB call_isi (by rfl) T.z_isinstance (by decide +kernel) (pa_cons (pv 0) (pa_cons (pe_bltn (v := .ty "int") (by rfl) T.z_int (by decide +kernel) rfl) pa_nil))) (pe_one (pe_not (pe_callB call_isi (by rfl) T.z_isinstance (by decide +kernel) (pa_cons (pv 0) (pa_cons (pe_bltn (v := .ty "bool") (by rfl) T.z_bool (by decide +kernel) rfl) pa_nil)))))))), ?_⟩
  walk_at "go"
  exact q
/-! amount -/
def sp_amount (K : PySem.W.Frag) : Sp := fun vs H Q E => ∃ t b : Int, vs = [.int t, .int b] ∧ Bit 8999 b ∧ (b = 0 → E (.ref (He.ga K "NoAmount")) none H) ∧ (b ≠ 0 → Ret K H Q (amtD (Rat.divInt t b)))
theorem amount_body (T : Txt K mg) (cdv : Value) (A : Around) (outer : List Env) (s : Shared) (H : Hp) (vs : List V) (Q : VK) (E : XK) (hr : Room 1 (A.deeper (envOfC "amount" (defScope s_amount) s.heap.objs.size (He.ga K "amount") cdv))) (h : sp_amount K vs H Q E) :
    ∃ t, PSs (cxOf (L2.CX P w) P w K mg base ["top", "bottom", "share"] "amount" (defScope s_amount) (He.ga K "amount") cdv A outer s H E) (defBody s_amount) t ∧ t { nx := fun _ H' => Q .non H', rt := Q } (start ["top", "bottom", "share"] vs) H := by
  obtain ⟨t, b, rfl, hB, h0, h1⟩ := h
  refine ⟨_, (pss_cons (ps_if (PW.pt (pw_or (pt_not (pt_val (pc0 (ok_is_whole T) (hr.mono (by decide)) (pa_cons (pv 0) pa_nil)))) (pw_or1 (pt_not (pt_val (pc0 (ok_is_whole T) (hr.mono (by decide)) (pa_cons (pv 1) pa_nil))))))) (pss_one (ps_raise rfl (takes_of rfl rfl rfl rfl) (pmk_own PySem.F.excBase_ValueError T.x_NoAmount.1 T.g_NoAmount T.x_NoAmount.2.1 (raises_own T.x_NoAmount.2.2.1 T.x_NoAmount.2.2.2) (by exact rfl)))) pss_nil)
      (pss_cons (ps_if (pt_cmpR op_eq (pv 1) pe_int (nomark _)) (pss_one (ps_raise rfl (takes_of rfl rfl rfl rfl) (pmk_own PySem.F.excBase_ValueError T.x_NoAmount.1 T.g_NoAmount T.x_NoAmount.2.1 (raises_own T.x_NoAmount.2.2.1 T.x_NoAmount.2.2.2) (by exact rfl)))) pss_nil)
      (pss_cons (ps_set (i := 2) sc_amount.nd rfl (Or.inl rfl) (pc0 (ok_divisor T) (hr.mono (by decide)) (pa_cons (pv 0) (pa_cons (pv 1) pa_nil))))
      (pss_k (ps_if (pt_cmpR op_lt (pv 1) pe_int (nomark _)) (pss_one (ps_set (i := 2) sc_amount.nd rfl (Or.inl rfl) (pe_op op_sub pe_int (pv 2)))) pss_nil)
      (pss_one (ps_ret (pe_tupN (pa_cons (pe_op op_dv (pv 0) (pv 2)) (pa_cons (pe_op op_dv (pv 1) (pv 2)) pa_nil))))))))), ?_⟩
  walk_at "go"
  walk_at "if"
  · intro hb
    exact h0 hb
  · intro hb
    have h1 := h1 hb
    walk_at "go"
    refine k_by (fun σ' H' => σ' = [some (.int t), some (.int b), some (.int (share t b))] ∧ H' = H) ?_ ?_
    · walk_at "go"
      walk_at "if"
      · intro hn
        walk_at "go"
        unfold share; rw [if_pos hn]; rfl
      · intro hn
        walk_at "go"
        unfold share; rw [if_neg hn]; rfl
    · rintro σ' H' ⟨rfl, rfl⟩
      walk_at "go"
      · exact dvok (share_ne hb) (hB.le (share_le hb)) (by decide)
      · exact dvok (share_ne hb) (hB.le (share_le hb)) (by decide)
      · rename_i p H2 s2 np hp
        exact h1 _ _ s2 (amt_mk (sqt_of hp) (amount_num hb) (amount_den hb))
theorem ok_amount (T : Txt K mg) : Def P w K mg base (1 + 1) "amount" ["top", "bottom"] [] (sp_amount K) :=
  def_dfl T.g_amount T.d_amount 2 1 (by decide) rfl sc_amount (fun vs H Q E h => by obtain ⟨a, b, rfl, _⟩ := h; rfl) (fun _ _ _ _ _ _ _ us its h1 h2 => match us, its, h1, h2 with | [_, _], [_], _, _ => ⟨_, rfl, rfl⟩) (amount_body T)
theorem okd_amount (T : Txt K mg) : Def P w K mg base (1 + 1) "amount" ["top", "bottom"] [.int 1] (sp_amount K) :=
  def_dfl T.g_amount T.d_amount 1 0 (by decide) rfl sc_amount (fun vs H Q E h => by obtain ⟨a, b, rfl, _⟩ := h; rfl) (fun _ _ _ _ _ _ _ us its h1 h2 => match us, its, h1, h2 with | [_], [_], _, _ => ⟨_, rfl, rfl⟩) (amount_body T)
end

section
variable {P : Program} {w : World} {K : PySem.W.Frag} {mg : Str → Option Value} {base : Heap}
/-- the number that figures tell -/
def numR (l : List Nat) : Option Nat := if l ≠ [] ∧ l.length ≤ 30 ∧ (∀ c ∈ l, c ∈ FG) ∧ ¬ (l.head? = some 48 ∧ 1 < l.length) then some (val l) else none
theorem numR_some {l : List Nat} (h1 : l ≠ []) (h2 : l.length ≤ 30) (h3 : ∀ c ∈ l, c ∈ FG) (h4 : ¬ (l.head? = some 48 ∧ 1 < l.length)) : numR l = some (val l) := if_pos ⟨h1, h2, h3, h4⟩
theorem numR_none {l : List Nat} (h : l = [] ∨ 30 < l.length ∨ (∃ c ∈ l, c ∉ FG) ∨ (l.head? = some 48 ∧ 1 < l.length)) : numR l = none := by
  refine if_neg fun ⟨h1, h2, h3, h4⟩ => ?_
  rcases h with h | h | ⟨c, h, g⟩ | h
  · exact h1 h
  · omega
  · exact g (h3 c h)
  · exact h4 h
theorem numR_inv {l : List Nat} {n : Nat} (h : numR l = some n) : n < 10 ^ 30 := by
  unfold numR at h
  split at h
  · rename_i g
    cases h
    exact Nat.lt_of_lt_of_le (val_lt g.2.2.1) (Nat.pow_le_pow_right (by decide) g.2.1)
  · cases h
def readR (l : List Nat) : Option Rat := if 47 ∈ l then
    (match numR (bef 47 l), numR (aft 47 l) with
    | some t, some b => if b = 0 then none else some (Rat.divInt t b)
    | _, _ => none)
  else (numR l).map fun t => Rat.divInt t 1
theorem bit30 {n : Nat} (h : n < 10 ^ 30) : Bit 8999 (n : Int) := by
  have h2 : n < 2 ^ 100 := Nat.lt_of_lt_of_le h (by decide +kernel)
  have : Bit 100 (n : Int) := by unfold Bit; rw [Int.natAbs_natCast]; exact h2
  exact this.mono (by decide)
/-- an amount written -/
def shA (q : Rat) : List Nat := if q.den = 1 then figs q.num else figs q.num ++ [47] ++ figs (q.den : Int)
theorem figs_sz {n m : Nat} (h : Bit n (m : Int)) (hn : n ≤ 1900) : (figs (m : Int)).length ≤ 700 := by
  refine figs_len (by decide) ?_
  have h1 : Bit 1900 (m : Int) := h.mono hn
  unfold Bit at h1
  rw [Int.natAbs_natCast] at h1
  exact Nat.lt_of_lt_of_le h1 (by decide +kernel)
theorem shA_sz1 {n : Nat} {q : Rat} (h : Sz n q) (h0 : 0 ≤ q.num) (hn : n ≤ 1900) : (figs q.num).length ≤ 700 := by
  obtain ⟨m, hm⟩ := Int.eq_ofNat_of_zero_le h0
  have := h.num
  rw [hm] at this ⊢
  exact figs_sz this hn
theorem shA_sz2 {n : Nat} {q : Rat} (h : Sz n q) (hn : n ≤ 1900) : (figs (q.den : Int)).length ≤ 700 := figs_sz h.den hn
def sp_number_read (K : PySem.W.Frag) : Sp := fun vs H Q E => ∃ l : List Nat, vs = [nmV l] ∧ SzT l.length ∧ (∀ n, numR l = some n → Q (.int (n : Int)) H) ∧ (numR l = none → E (.ref (He.ga K "NoAmount")) none H)
def sp_read_amount (K : PySem.W.Frag) : Sp := fun vs H Q E => ∃ l : List Nat, vs = [nmV l] ∧ SzT l.length ∧ (∀ q, readR l = some q → Ret K H Q (amtD q)) ∧ (readR l = none → ∀ H', Same H H' → E (.ref (He.ga K "NoAmount")) none H')
/-! number_read, read_amount, shown_amount -/
theorem ok_number_read (T : Txt K mg) : Def P w K mg base (0 + 1) "number_read" ["text"] [] (sp_number_read K) := by
  refine def_ok T.g_number_read T.d_number_read sc_number_read (fun vs H Q E h => by obtain ⟨_, rfl, _⟩ := h; rfl) (fun _ _ _ _ _ _ us hl => match us, hl with | [_], _ => rfl) (fun cdv A outer s H vs Q E hr h => ?_)
  obtain ⟨l, rfl, hl, k, e⟩ := h
  refine ⟨_, (pss_cons (ps_if (PW.pt (pw_or (pt_cmpR op_eq (pv 0) (pe_tx [] (by decide +kernel)) (nomark _)) (pw_or1 (pt_cmpR op_gt (pe_callB call_lenT (by rfl) T.z_len (by decide +kernel) (pa_cons (pv 0) pa_nil)) (pe_gint T.c_LONGEST) (nomark _))))) (pss_one (ps_raise rfl (takes_of rfl rfl rfl rfl) (pmk_own PySem.F.excBase_ValueError T.x_NoAmount.1 T.g_NoAmount T.x_NoAmount.2.1 (raises_own T.x_NoAmount.2.2.1 T.x_NoAmount.2.2.2) (by exact rfl)))) pss_nil)
      (pss_cons (ps_fo (passes_of rfl) rfl (pi_T (pv 0)) (pg_name (i := 1) sc_number_read.nd rfl (Or.inl rfl)) (pss_one (ps_if (pt_cmpR op_notInT (pv 1) (pe_gtx [48, 49, 50, 51, 52, 53, 54, 55, 56, 57] (by decide +kernel) T.c_FIGURES) (by rfl)) (pss_one (ps_raise rfl (takes_of rfl rfl rfl rfl) (pmk_own PySem.F.excBase_ValueError T.x_NoAmount.1 T.g_NoAmount T.x_NoAmount.2.1 (raises_own T.x_NoAmount.2.2.1 T.x_NoAmount.2.2.2) (by exact rfl)))) pss_nil)))
      (pss_cons (ps_if (PW.pt (pw_and (pt_cmpR op_eq (pe_ix ix_T (pv 0) pe_int (fun _ _ => rfl)) (pe_tx [48] (by decide +kernel)) (nomark _)) (pw_and1 (pt_cmpR op_gt (pe_callB call_lenT (by rfl) T.z_len (by decide +kernel) (pa_cons (pv 0) pa_nil)) pe_int (nomark _))))) (pss_one (ps_raise rfl (takes_of rfl rfl rfl rfl) (pmk_own PySem.F.excBase_ValueError T.x_NoAmount.1 T.g_NoAmount T.x_NoAmount.2.1 (raises_own T.x_NoAmount.2.2.1 T.x_NoAmount.2.2.2) (by exact rfl)))) pss_nil)
      (pss_one (ps_ret (pe_callTy call_intN (by rfl) T.z_int (by decide +kernel) (pa_cons (pv 0) pa_nil))))))), ?_⟩
  walk_at "go"
  walk_at "if"
  · intro h
    exact e (numR_none (.inl h))
  · intro h1
    have h1' : l ≠ [] := h1
    walk_at "go"
    walk_at "if"
    · intro h
      exact e (numR_none (.inr (.inl (by omega))))
    · intro h2
      walk_at "go"
      refine lr_T (fun i σ H' => Bx ((∃ th, σ = [some (nmV l), th]) ∧ H' = H ∧ ∀ c ∈ l.take i, c ∈ FG)) ⟨⟨_, rfl⟩, rfl, by simp⟩ ?_ ?_
      · rintro i c σ H' hc ⟨⟨th, rfl⟩, rfl, hp⟩
        have hc' : l[i]? = some c := hc
        walk_at "go"
        walk_at "if"
        · intro h4
          exact e (numR_none (.inr (.inr (.inl ⟨c, List.mem_of_getElem? hc', h4⟩))))
        · intro h4
          refine ⟨⟨_, rfl⟩, rfl, fun y hy => ?_⟩
          rw [take_succ hc'] at hy
          rcases List.mem_append.mp hy with hy | hy
          · exact hp y hy
          · rw [List.mem_singleton.mp hy]; exact h4
      · rintro σ H' ⟨⟨th, rfl⟩, rfl, hp⟩
        have hfg : ∀ c ∈ l, c ∈ FG := fun c hc => hp c (by simpa using hc)
        obtain ⟨c, r, rfl⟩ : ∃ c r, l = c :: r := by
          cases l with
          | nil => exact absurd rfl h1'
          | cons c r => exact ⟨c, r, rfl⟩
        have a0 : atI (c :: r) 0 = some c := atI_nat (j := 0) rfl
        have fin : ¬ (c = 48 ∧ 1 < (c :: r).length) → Q (.int ((val (c :: r) : Nat) : Int)) H' := fun hn =>
          k _ (numR_some h1' (by omega) hfg fun ⟨e1, e2⟩ => hn ⟨by simpa using e1, e2⟩)
        walk_at "go"
        walk_at "if"
        · intro h5
          have h5' : c = 48 := by simpa using h5
          walk_at "go"
          walk_at "if"
          · intro h6
            exact e (numR_none (.inr (.inr (.inr ⟨by rw [h5']; rfl, by omega⟩))))
          · intro h6
            walk_at "go"
            · exact h1'
            · exact hfg
            · omega
            · exact fin fun ⟨_, h⟩ => h6 (by omega)
        · intro h5
          have h5' : c ≠ 48 := fun z => h5 (by rw [z])
          walk_at "go"
          · exact h1'
          · exact hfg
          · omega
          · exact fin fun ⟨h, _⟩ => h5' h
theorem ok_read_amount (T : Txt K mg) : Def P w K mg base (2 + 1) "read_amount" ["text"] [] (sp_read_amount K) := by
  refine def_ok T.g_read_amount T.d_read_amount sc_read_amount (fun vs H Q E h => by obtain ⟨_, rfl, _⟩ := h; rfl) (fun _ _ _ _ _ _ us hl => match us, hl with | [_], _ => rfl) (fun cdv A outer s H vs Q E hr h => ?_)
  obtain ⟨l, rfl, hl, k, e⟩ := h
  refine ⟨_, (pss_cons (ps_asg (pe_m1 PySem.F.slot_str_partition PySem.F.type_str_partition mt_parN (pv 0) (pe_tx [47] (by decide +kernel))) (pg_tup rfl (pgs_cons (pg_name (i := 1) sc_read_amount.nd rfl (Or.inl rfl)) (pgs_cons (pg_name (i := 2) sc_read_amount.nd rfl (Or.inl rfl)) (pgs_cons (pg_name (i := 3) sc_read_amount.nd rfl (Or.inl rfl)) pgs_nil)))))
      (pss_cons (ps_if (pt_cmpR op_eq (pv 2) (pe_tx [] (by decide +kernel)) (nomark _)) (pss_one (ps_ret (pcl (okd_amount T) (hr.mono (by decide)) (takes_of rfl rfl rfl rfl) (pa_cons (pcl (ok_number_read T) (hr.mono (by decide)) (takes_of rfl rfl rfl rfl) (pa_cons (pv 1) pa_nil)) pa_nil)))) pss_nil)
      (pss_one (ps_ret (pcl (ok_amount T) (hr.mono (by decide)) (takes_of rfl rfl rfl rfl) (pa_cons (pcl (ok_number_read T) (hr.mono (by decide)) (takes_of rfl rfl rfl rfl) (pa_cons (pv 1) pa_nil)) (pa_cons (pcl (ok_number_read T) (hr.mono (by decide)) (takes_of rfl rfl rfl rfl) (pa_cons (pv 3) pa_nil)) pa_nil))))))), ?_⟩
  have hl1 := bef_len 47 l
  have hl2 := aft_len 47 l
  walk_at "go"
  rename_i p H1 s1 np hp
  by_cases hc : 47 ∈ l
  · rw [if_pos hc]
    have rr : readR l = (match numR (bef 47 l), numR (aft 47 l) with
      | some t, some b => if b = 0 then none else some (Rat.divInt t b)
      | _, _ => none) := if_pos hc
    walk_at "if"
    · intro h; cases h
    · intro _
      walk_at "go"
      · intro t ht
        walk_at "go"
        · intro b hb
          rw [ht, hb] at rr
          walk_at "go"
          · exact bit30 (numR_inv hb)
          · intro b0
            exact e (rr.trans (if_pos (by omega))) _ (by walk_at "same")
          · intro b0
            have rr' := rr.trans (if_neg (show ¬ b = 0 by omega))
            walk_at "go"
            rename_i v H2 s2 d2
            exact k _ rr' _ _ (by walk_at "same") d2
        · intro hb
          rw [ht, hb] at rr
          exact e rr _ (by walk_at "same")
      · intro ht
        rw [ht] at rr
        exact e rr _ (by walk_at "same")
  · rw [if_neg hc, bef_none hc]
    have rr : readR l = (numR l).map fun t => Rat.divInt t 1 := if_neg hc
    walk_at "if"
    · intro _
      walk_at "go"
      · intro t ht
        rw [ht] at rr
        walk_at "go"
        · exact bit30 (n := 1) (by decide)
        · intro b0; cases b0
        · intro b0
          walk_at "go"
          rename_i v H2 s2 d2
          exact k _ rr _ _ (by walk_at "same") d2
      · intro ht
        rw [ht] at rr
        exact e rr _ (by walk_at "same")
    · intro h; exact absurd rfl h
def sp_shown_amount (K : PySem.W.Frag) : Sp := fun vs H Q _ => ∃ (v : V) (q : Rat) (n : Nat), vs = [v] ∧ Amt K H v q ∧ Sz n q ∧ 0 ≤ q.num ∧ n ≤ 1900 ∧ Q (nmV (shA q)) H
theorem ok_shown_amount (T : Txt K mg) : Def P w K mg base (0 + 1) "shown_amount" ["one"] [] (sp_shown_amount K) := by
  refine def_ok T.g_shown_amount T.d_shown_amount sc_shown_amount (fun vs H Q E h => by obtain ⟨_, _, _, rfl, _⟩ := h; rfl) (fun _ _ _ _ _ _ us hl => match us, hl with | [_], _ => rfl) (fun cdv A outer s H vs Q E hr h => ?_)
  obtain ⟨v, q, n, rfl, hq, sz, h0, hn, k⟩ := h
  obtain ⟨ap, rfl, tp⟩ := amt_inv hq
  have l1 := bit_log sz.num (by omega)
  have l2 := bit_log sz.den (by omega)
  have z1 := shA_sz1 sz h0 hn
  have z2 := shA_sz2 sz hn
  refine ⟨_, (pss_cons (ps_if (pt_cmpR op_eq (pe_ix ix_tup (pv 0) pe_int (fun _ _ => rfl)) pe_int (nomark _)) (pss_one (ps_ret (pe_callTy call_strT (by rfl) T.z_str (by decide +kernel) (pa_cons (pe_ix ix_tup (pv 0) pe_int (fun _ _ => rfl)) pa_nil)))) pss_nil)
      (pss_one (ps_ret (pe_op op_addT (pe_op op_addT (pe_callTy call_strT (by rfl) T.z_str (by decide +kernel) (pa_cons (pe_ix ix_tup (pv 0) pe_int (fun _ _ => rfl)) pa_nil)) (pe_tx [47] (by decide +kernel))) (pe_callTy call_strT (by rfl) T.z_str (by decide +kernel) (pa_cons (pe_ix ix_tup (pv 0) pe_int (fun _ _ => rfl)) pa_nil)))))), ?_⟩
  walk_at "go"
  walk_at "if"
  · intro h
    have h' : q.den = 1 := by omega
    walk_at "go"
    unfold shA at k; rw [if_pos h'] at k; exact k
  · intro h
    have h' : ¬ q.den = 1 := by omega
    walk_at "go"
    unfold shA at k; rw [if_neg h'] at k; exact k
end

section
variable {P : Program} {w : World} {K : PySem.W.Frag} {mg : Str → Option Value} {base : Heap}
def sp_cell (K : PySem.W.Frag) : Sp := fun vs H Q _ => ∃ (a : Addr) (k : Nat) (ns : List Int), vs = [.ref a, .int k] ∧ SqL K H a (ns.map V.int) ∧ Q (.int (ns.getD k 0)) H
theorem ok_law_cell_at (T : Txt K mg) : Def P w K mg base (0 + 1) "_law_cell_at" ["_law_script", "_law_k"] [] (sp_cell K) := by
  refine def_ok T.g_law_cell_at T.d_law_cell_at sc_law_cell_at (fun vs H Q E h => by obtain ⟨_, _, _, rfl, _⟩ := h; rfl) (fun _ _ _ _ _ _ us hl => match us, hl with | [_, _], _ => rfl) (fun cdv A outer s H vs Q E hr h => ?_)
  obtain ⟨a, j, ns, rfl, hS, k⟩ := h
  refine ⟨_, (pss_cons (ps_if (pt_cmpR op_lt (pv 1) (pe_callB call_len_seq (by rfl) T.z_len (by decide +kernel) (pa_cons (pv 0) pa_nil)) (nomark _)) (pss_one (ps_ret (pe_ix ix_list (pv 0) (pv 1) (fun _ _ => rfl)))) pss_nil)
      (pss_one (ps_ret pe_int))), ?_⟩
  walk_at "go"
  walk_at "if"
  · intro h
    rw [List.length_map] at h
    walk_at "go"
    · exact at_ints (by omega)
    · exact k
  · intro h
    rw [List.length_map] at h
    walk_at "go"
    rw [List.getD_eq_getElem?_getD, List.getElem?_eq_none (by omega)] at k
    exact k
theorem ok_law_whole (T : Txt K mg) : Def P w K mg base (0 + 1) "_law_whole" ["_law_thing"] [] sp_whole := by
  refine def_ok T.g_law_whole T.d_law_whole sc_law_whole (fun vs H Q E h => by obtain ⟨a, rfl, _⟩ := h; rfl) (fun _ _ _ _ _ _ us hl => match us, hl with | [_], _ => rfl) (fun cdv A outer s H vs Q E hr h => ?_)
  obtain ⟨a, rfl, q⟩ := h
  refine ⟨_, (pss_one (ps_ret (pe_and (pe_callB call_isi (by rfl) T.z_isinstance (by decide +kernel) (pa_cons (pv 0) (pa_cons (pe_bltn (v := .ty "int") (by rfl) T.z_int (by decide +kernel) rfl) pa_nil))) (pe_one (pe_not (pe_callB call_isi (by rfl) T.z_isinstance (by decide +kernel) (pa_cons (pv 0) (pa_cons (pe_bltn (v := .ty "bool") (by rfl) T.z_bool (by decide +kernel) rfl) pa_nil)))))))), ?_⟩
  walk_at "go"
  exact q
def sp_law (K : PySem.W.Frag) : Sp := fun vs H Q _ => ∃ (a : Addr) (ns : List Int), vs = [.ref a] ∧ SqL K H a (ns.map V.int) ∧ ns.length ≤ 63 ∧ (∀ z ∈ ns, Builtin.Int.intBits z ≤ 1048576) ∧ ∀ H', Q (.bl true) H'
def sp_lsign : Sp := fun vs H Q _ => ∃ a : Int, vs = [.int a] ∧ ∀ c, Q (nmV [c]) H
theorem ok_law_sign (T : Txt K mg) : Def P w K mg base (0 + 1) "_law_sign" ["_law_cell"] [] (sp_lsign) := by
  refine def_ok T.g_law_sign T.d_law_sign sc_law_sign (fun vs H Q E h => by obtain ⟨_, rfl, _⟩ := h; rfl) (fun _ _ _ _ _ _ us hl => match us, hl with | [_], _ => rfl) (fun cdv A outer s H vs Q E hr h => ?_)
  obtain ⟨a, rfl, k⟩ := h
  refine ⟨_, (pss_cons (ps_set (i := 1) sc_law_sign.nd rfl (Or.inl rfl) (pe_tx tl_7109b (by decide +kernel)))
      (pss_cons (ps_set (i := 1) sc_law_sign.nd rfl (Or.inl rfl) (pe_op op_addT (pv 1) (pe_tx tl_b9801 (by decide +kernel))))
      (pss_one (ps_ret (pe_ix ix_T (pv 1) (pe_op op_md (pv 0) pe_int) (fun _ _ => rfl)))))), ?_⟩
  obtain ⟨m, h1, h2⟩ := fmodN a 96 (by decide)
  obtain ⟨c, hc, _⟩ := atI_lt (l := tl_7109b ++ tl_b9801) (i := a.fmod 96) (by rw [show (96 : Int) = ((96 : Nat) : Int) from rfl, h1]; omega) (by rw [show (96 : Int) = ((96 : Nat) : Int) from rfl, h1, List.length_append, tl_7109b_len, tl_b9801_len]; omega)
  have z1 := tl_7109b_len
  have z2 := tl_b9801_len
  walk_at "go"
  exact k c
def sp_lfig : Sp := fun vs H Q _ => ∃ a : Int, vs = [.int a] ∧ ∀ l : List Nat, 1 ≤ l.length → l.length ≤ 40 → Q (nmV l) H
theorem ok_law_figures (T : Txt K mg) : Def P w K mg base (0 + 1) "_law_figures" ["_law_cell"] [] (sp_lfig) := by
  refine def_ok T.g_law_figures T.d_law_figures sc_law_figures (fun vs H Q E h => by obtain ⟨_, rfl, _⟩ := h; rfl) (fun _ _ _ _ _ _ us hl => match us, hl with | [_], _ => rfl) (fun cdv A outer s H vs Q E hr h => ?_)
  obtain ⟨a, rfl, k⟩ := h
  refine ⟨_, (pss_cons (ps_set (i := 1) sc_law_figures.nd rfl (Or.inl rfl) (pe_op op_md (pe_op op_ml (pe_op op_add (pe_op op_md (pe_op op_dv (pv 0) pe_int) (pe_op op_pow pe_int pe_int)) pe_int) pe_int) (pe_op op_pow pe_int pe_int)))
      (pss_cons (ps_set (i := 2) sc_law_figures.nd rfl (Or.inl rfl) (pe_slice sl_T (pe_callTy call_strT (by rfl) T.z_str (by decide +kernel) (pa_cons (pe_op op_add (pe_op op_pow pe_int pe_int) (pv 1)) pa_nil)) (po_some pe_int) (po_some (pe_op op_add pe_int (pe_op op_md (pv 0) pe_int)))))
      (pss_k (ps_if (pt_cmpR op_eq (pe_op op_md (pe_op op_dv (pv 0) pe_int) pe_int) pe_int (nomark _)) (pss_one (ps_set (i := 2) sc_law_figures.nd rfl (Or.inl rfl) (pe_m1 PySem.F.slot_str_lstrip PySem.F.type_str_lstrip mt_lstripN (pv 2) (pe_tx [48] (by decide +kernel))))) pss_nil)
      (pss_cons (ps_if (PW.pt (pw_or (pt_cmpR op_eq (pe_op op_md (pe_op op_dv (pv 0) pe_int) pe_int) pe_int (nomark _)) (pw_or1 (pt_cmpR op_eq (pv 2) (pe_tx [] (by decide +kernel)) (nomark _))))) (pss_one (ps_ret (pe_tx [48] (by decide +kernel)))) pss_nil)
      (pss_one (ps_ret (pv 2))))))), ?_⟩
  obtain ⟨m, hm, hm2⟩ : ∃ m : Nat, 10 ^ Int.toNat 31 + (((a.fdiv 434).fmod (10 ^ Int.toNat 31) + 3) * 7182818284590452353602874713527).fmod (10 ^ Int.toNat 31) = (m : Int) ∧ m < 10 ^ 32 := by
    obtain ⟨m, h1, h2⟩ := fmodN (((a.fdiv 434).fmod (10 ^ Int.toNat 31) + 3) * 7182818284590452353602874713527) (10 ^ 31) (by decide)
    have e : (10 ^ Int.toNat 31 : Int) = ((10 ^ 31 : Nat) : Int) := by decide +kernel
    refine ⟨10 ^ 31 + m, ?_, by omega⟩
    rw [e] at h1 ⊢
    rw [h1]; omega
  have fl := figs_len (n := m) (k := 32) (by decide) hm2
  walk_at "go"
  · rw [hm]
    have : Bit 110 (m : Int) := by unfold Bit; rw [Int.natAbs_natCast]; exact Nat.lt_of_lt_of_le hm2 (by decide +kernel)
    exact bit_log this (by decide)
  · rw [hm]; unfold SzT; omega
  rw [hm]
  have cl : ∀ lo hi, (cutL (figs (m : Int)) lo hi).length ≤ 32 := fun lo hi => Nat.le_trans (cutL_len _ _ _) fl
  generalize hz : cutL (figs (m : Int)) (some 1) (some (2 + a.fmod 31)) = z
  have zl : z.length ≤ 32 := hz ▸ cl _ _
  refine k_by (fun σ H' => Bx ((∃ (l : List Nat) (x1 : Option V), l.length ≤ 32 ∧ σ = [some (.int a), x1, some (nmV l)]) ∧ H' = H)) ?_ ?_
  · walk_at "go"
    walk_at "if"
    · intro _
      walk_at "go"
      intro l hl
      exact ⟨⟨l, _, by omega, rfl⟩, rfl⟩
    · intro _
      exact ⟨⟨z, _, zl, rfl⟩, rfl⟩
  · rintro σ H' ⟨⟨l, x1, hl, rfl⟩, rfl⟩
    walk_at "go"
    walk_at "if"
    · intro _
      exact k [48] (by decide) (by decide)
    · intro _
      walk_at "go"
      walk_at "if"
      · intro _
        exact k [48] (by decide) (by decide)
      · intro h
        have h' : l ≠ [] := h
        walk_at "go"
        exact k l (List.length_pos_iff.mpr h') (by omega)
def sp_ltext : Sp := fun vs H Q _ => ∃ a b c d : Int, vs = [.int a, .int b, .int c, .int d] ∧ ∀ l : List Nat, l.length ≤ 100 → Q (nmV l) H
theorem ok_law_text (T : Txt K mg) : Def P w K mg base (1 + 1) "_law_text" ["_law_first", "_law_second", "_law_kind", "_law_place"] [] (sp_ltext) := by
  refine def_ok T.g_law_text T.d_law_text sc_law_text (fun vs H Q E h => by obtain ⟨_, _, _, _, rfl, _⟩ := h; rfl) (fun _ _ _ _ _ _ us hl => match us, hl with | [_, _, _, _], _ => rfl) (fun cdv A outer s H vs Q E hr h => ?_)
  obtain ⟨a, b, c, d, rfl, k⟩ := h
  refine ⟨_, (pss_cons (ps_set (i := 4) sc_law_text.nd rfl (Or.inl rfl) (pc0 (ok_law_figures T) (hr.mono (by decide)) (pa_cons (pv 0) pa_nil)))
      (pss_k (ps_if (pt_cmpR op_eq (pe_op op_md (pv 2) pe_int) pe_int (nomark _)) (pss_one (ps_set (i := 4) sc_law_text.nd rfl (Or.inl rfl) (pe_op op_addT (pe_op op_addT (pv 4) (pe_tx [47] (by decide +kernel))) (pc0 (ok_law_figures T) (hr.mono (by decide)) (pa_cons (pv 1) pa_nil))))) pss_nil)
      (pss_k (ps_if (pt_cmpR op_eq (pe_op op_md (pe_op op_dv (pv 2) pe_int) pe_int) pe_int (nomark _)) (pss_cons (ps_set (i := 5) sc_law_text.nd rfl (Or.inl rfl) (pe_op op_md (pv 3) (pe_op op_add (pe_callB call_lenT (by rfl) T.z_len (by decide +kernel) (pa_cons (pv 4) pa_nil)) pe_int)))
      (pss_one (ps_set (i := 4) sc_law_text.nd rfl (Or.inl rfl) (pe_op op_addT (pe_op op_addT (pe_slice sl_T (pv 4) po_none (po_some (pv 5))) (pc0 (ok_law_sign T) (hr.mono (by decide)) (pa_cons (pe_op op_dv (pv 3) pe_int) pa_nil))) (pe_slice sl_T (pv 4) (po_some (pv 5)) po_none))))) pss_nil)
      (pss_k (ps_if (pt_cmpR op_eq (pe_op op_md (pe_op op_dv (pv 2) pe_int) pe_int) pe_int (nomark _)) (pss_cons (ps_set (i := 5) sc_law_text.nd rfl (Or.inl rfl) (pe_op op_md (pe_op op_dv (pv 3) pe_int) (pe_callB call_lenT (by rfl) T.z_len (by decide +kernel) (pa_cons (pv 4) pa_nil))))
      (pss_one (ps_set (i := 4) sc_law_text.nd rfl (Or.inl rfl) (pe_op op_addT (pe_slice sl_T (pv 4) po_none (po_some (pv 5))) (pe_slice sl_T (pv 4) (po_some (pe_op op_add (pv 5) pe_int)) po_none))))) pss_nil)
      (pss_one (ps_ret (pv 4))))))), ?_⟩
  walk_at "go"
  intro l0 h0 h0'
  walk_at "go"
  refine k_by (fun σ H' => Bx ((∃ (l : List Nat), 1 ≤ l.length ∧ l.length ≤ 81 ∧ σ = [some (.int a), some (.int b), some (.int c), some (.int d), some (nmV l), none]) ∧ H' = H)) ?_ ?_
  · walk_at "go"
    walk_at "if"
    · intro _
      walk_at "go"
      intro l1 h1 h1'
      walk_at "go"
      exact ⟨⟨_, by simp only [List.length_append]; omega, by simp only [List.length_append, List.length_cons, List.length_nil]; omega, rfl⟩, rfl⟩
    · intro _
      exact ⟨⟨l0, h0, by omega, rfl⟩, rfl⟩
  rintro σ H' ⟨⟨l, h1, h2, rfl⟩, rfl⟩
  refine k_by (fun σ G => Bx ((∃ (l : List Nat) (x5 : Option V), 1 ≤ l.length ∧ l.length ≤ 82 ∧ σ = [some (.int a), some (.int b), some (.int c), some (.int d), some (nmV l), x5]) ∧ G = H')) ?_ ?_
  · walk_at "go"
    walk_at "if"
    · intro _
      obtain ⟨m, e1, e2⟩ := fmodN d (l.length + 1) (by omega)
      have e1' : d.fmod ((l.length : Int) + 1) = (m : Int) := e1
      walk_at "go"
      · exact ⟨by omega⟩
      intro c1
      walk_at "go"
      · unfold SzT; simp only [List.length_append, List.length_cons, List.length_nil]; have := cutL_len l none (some (d.fmod ((l.length : Int) + 1))); omega
      · unfold SzT; simp only [List.length_append, List.length_cons, List.length_nil]; have := cutL_len l none (some (d.fmod ((l.length : Int) + 1))); have := cutL_len l (some (d.fmod ((l.length : Int) + 1))) none; omega
      refine ⟨⟨_, _, ?_, ?_, rfl⟩, rfl⟩
      · simp only [List.length_append, List.length_cons, List.length_nil]; omega
      · rw [e1', cutL_to, cutL_from]; simp only [List.length_append, List.length_cons, List.length_nil, List.length_take, List.length_drop]; omega
    · intro _
      exact ⟨⟨l, _, h1, by omega, rfl⟩, rfl⟩
  rintro σ G ⟨⟨l2, x5, h3, h4, rfl⟩, rfl⟩
  refine k_by (fun σ G' => Bx ((∃ (l : List Nat) (x5 : Option V), l.length ≤ 82 ∧ σ = [some (.int a), some (.int b), some (.int c), some (.int d), some (nmV l), x5]) ∧ G' = G)) ?_ ?_
  · walk_at "go"
    walk_at "if"
    · intro _
      obtain ⟨m, e1, e2⟩ := fmodN (d.fdiv 7) l2.length (by omega)
      walk_at "go"
      · exact ⟨by omega⟩
      · unfold SzT; have := cutL_len l2 none (some ((d.fdiv 7).fmod (l2.length : Int))); have := cutL_len l2 (some ((d.fdiv 7).fmod (l2.length : Int) + 1)) none; omega
      refine ⟨⟨_, _, ?_, rfl⟩, rfl⟩
      rw [e1, cutL_to, show ((m : Int) + 1) = ((m + 1 : Nat) : Int) by omega, cutL_from]; simp only [List.length_append, List.length_take, List.length_drop]; omega
    · intro _
      exact ⟨⟨l2, _, by omega, rfl⟩, rfl⟩
  rintro σ G' ⟨⟨l3, x5, h5, rfl⟩, rfl⟩
  walk_at "go"
  exact k l3 (by omega)
end

section
variable {P : Program} {w : World} {K : PySem.W.Frag} {mg : Str → Option Value} {base : Heap}
/-- .. or -1 -/
def numI (l : List Nat) : Int := match numR l with
  | some n => (n : Int)
  | none => -1
theorem numI_none {l : List Nat} (h : numR l = none) : numI l = -1 := by unfold numI; rw [h]
theorem numI_some {l : List Nat} {n : Nat} (h : numR l = some n) : numI l = (n : Int) := by unfold numI; rw [h]
def sp_lnumber : Sp := fun vs H Q _ => ∃ l : List Nat, vs = [nmV l] ∧ SzT l.length ∧ Q (.int (numI l)) H
theorem ok_law_number (T : Txt K mg) : Def P w K mg base (0 + 1) "_law_number" ["_law_text_here"] [] (sp_lnumber) := by
  refine def_ok T.g_law_number T.d_law_number sc_law_number (fun vs H Q E h => by obtain ⟨_, rfl, _⟩ := h; rfl) (fun _ _ _ _ _ _ us hl => match us, hl with | [_], _ => rfl) (fun cdv A outer s H vs Q E hr h => ?_)
  obtain ⟨l, rfl, hl, k⟩ := h
  refine ⟨_, (pss_k (ps_if (PW.pt (pw_or (pt_cmpR op_eq (pv 0) (pe_tx [] (by decide +kernel)) (nomark _)) (pw_or (pt_cmpR op_gt (pe_callB call_lenT (by rfl) T.z_len (by decide +kernel) (pa_cons (pv 0) pa_nil)) pe_int (nomark _)) (pw_or1 (PW.pt (pw_and (pt_cmpR op_eq (pe_ix ix_T (pv 0) pe_int (fun _ _ => rfl)) (pe_tx [48] (by decide +kernel)) (nomark _)) (pw_and1 (pt_cmpR op_gt (pe_callB call_lenT (by rfl) T.z_len (by decide +kernel) (pa_cons (pv 0) pa_nil)) pe_int (nomark _))))))))) (pss_one (ps_ret (pe_un un_neg pe_int))) pss_nil)
      (pss_cons (ps_fo (passes_of rfl) rfl (pi_T (pv 0)) (pg_name (i := 1) sc_law_number.nd rfl (Or.inl rfl)) (pss_one (ps_if (pt_cmpR op_notInT (pv 1) (pe_tx [48, 49, 50, 51, 52, 53, 54, 55, 56, 57] (by decide +kernel)) (by rfl)) (pss_one (ps_ret (pe_un un_neg pe_int))) pss_nil)))
      (pss_one (ps_ret (pe_callTy call_intN (by rfl) T.z_int (by decide +kernel) (pa_cons (pv 0) pa_nil)))))), ?_⟩
  have bad : (l = [] ∨ 30 < l.length ∨ (∃ c ∈ l, c ∉ FG) ∨ (l.head? = some 48 ∧ 1 < l.length)) → Q (.int (-1)) H := fun h => by rw [numI_none (numR_none h)] at k; exact k
  refine k_by (fun σ H' => Bx (σ = [some (nmV l), none] ∧ H' = H ∧ l ≠ [] ∧ l.length ≤ 30 ∧ ¬ (l.head? = some 48 ∧ 1 < l.length))) ?_ ?_
  · walk_at "go"
    walk_at "if"
    · intro h
      walk_at "go"
      exact bad (.inl h)
    · intro h1
      have h1' : l ≠ [] := h1
      obtain ⟨c, r, e⟩ : ∃ c r, l = c :: r := by
        cases l with
        | nil => exact absurd rfl h1'
        | cons c r => exact ⟨c, r, rfl⟩
      have a0 : atI l 0 = some c := e ▸ atI_nat (j := 0) rfl
      have hd : l.head? = some c := e ▸ rfl
      walk_at "go"
      walk_at "if"
      · intro h
        walk_at "go"
        exact bad (.inr (.inl (by omega)))
      · intro h2
        walk_at "go"
        walk_at "if"
        · intro h5
          have h5' : c = 48 := by simpa using h5
          walk_at "go"
          walk_at "if"
          · intro h6
            walk_at "go"
            exact bad (.inr (.inr (.inr ⟨by rw [hd, h5'], by omega⟩)))
          · intro h6
            exact ⟨rfl, rfl, h1', by omega, fun ⟨_, h⟩ => h6 (by omega)⟩
        · intro h5
          exact ⟨rfl, rfl, h1', by omega, fun ⟨h, _⟩ => by rw [hd] at h; cases h; exact h5 rfl⟩
  rintro σ H' ⟨rfl, rfl, h1, h2, h3⟩
  walk_at "go"
  refine lr_T (fun i σ G => Bx ((∃ th, σ = [some (nmV l), th]) ∧ G = H' ∧ ∀ c ∈ l.take i, c ∈ FG)) ⟨⟨_, rfl⟩, rfl, by simp⟩ ?_ ?_
  · rintro i c σ G hc ⟨⟨th, rfl⟩, rfl, hp⟩
    have hc' : l[i]? = some c := hc
    walk_at "go"
    walk_at "if"
    · intro h4
      walk_at "go"
      exact bad (.inr (.inr (.inl ⟨c, List.mem_of_getElem? hc', h4⟩)))
    · intro h4
      refine ⟨⟨_, rfl⟩, rfl, fun y hy => ?_⟩
      rw [take_succ hc'] at hy
      rcases List.mem_append.mp hy with hy | hy
      · exact hp y hy
      · rw [List.mem_singleton.mp hy]; exact h4
  · rintro σ G ⟨⟨th, rfl⟩, rfl, hp⟩
    have hfg : ∀ c ∈ l, c ∈ FG := fun c hc => hp c (by simpa using hc)
    walk_at "go"
    · exact h1
    · exact hfg
    · omega
    · rw [numI_some (numR_some h1 h2 hfg h3)] at k; exact k
end

section
variable {P : Program} {w : World} {K : PySem.W.Frag} {mg : Str → Option Value} {base : Heap}
def sp_ldue (K : PySem.W.Frag) : Sp := fun vs H Q _ => ∃ l : List Nat, vs = [nmV l] ∧ SzT l.length ∧ (∀ q, readR l = some q → Ret K H Q (amtD q)) ∧ (readR l = none → ∀ H', Same H H' → Q .non H')
theorem ok_law_due (T : Txt K mg) : Def P w K mg base (1 + 1) "_law_due" ["_law_text_here"] [] (sp_ldue K) := by
  refine def_ok T.g_law_due T.d_law_due sc_law_due (fun vs H Q E h => by obtain ⟨_, rfl, _⟩ := h; rfl) (fun _ _ _ _ _ _ us hl => match us, hl with | [_], _ => rfl) (fun cdv A outer s H vs Q E hr h => ?_)
  obtain ⟨l, rfl, hl, k, e⟩ := h
  refine ⟨_, (pss_cons (ps_set (i := 1) sc_law_due.nd rfl (Or.inl rfl) (pe_m1 PySem.F.slot_str_split PySem.F.type_str_split mt_splN (pv 0) (pe_tx [47] (by decide +kernel))))
      (pss_cons (ps_if (pt_cmpR op_gt (pe_callB call_len_seq (by rfl) T.z_len (by decide +kernel) (pa_cons (pv 1) pa_nil)) pe_int (nomark _)) (pss_one (ps_ret pe_non)) pss_nil)
      (pss_cons (ps_set (i := 2) sc_law_due.nd rfl (Or.inl rfl) (pc0 (ok_law_number T) (hr.mono (by decide)) (pa_cons (pe_ix ix_list (pv 1) pe_int (fun _ _ => rfl)) pa_nil)))
      (pss_cons (ps_set (i := 3) sc_law_due.nd rfl (Or.inl rfl) pe_int)
      (pss_k (ps_if (pt_cmpR op_eq (pe_callB call_len_seq (by rfl) T.z_len (by decide +kernel) (pa_cons (pv 1) pa_nil)) pe_int (nomark _)) (pss_one (ps_set (i := 3) sc_law_due.nd rfl (Or.inl rfl) (pc0 (ok_law_number T) (hr.mono (by decide)) (pa_cons (pe_ix ix_list (pv 1) pe_int (fun _ _ => rfl)) pa_nil)))) pss_nil)
      (pss_cons (ps_if (PW.pt (pw_or (pt_cmpR op_lt (pv 2) pe_int (nomark _)) (pw_or1 (pt_cmpR op_lt (pv 3) pe_int (nomark _))))) (pss_one (ps_ret pe_non)) pss_nil)
      (pss_cons (ps_set (i := 4) sc_law_due.nd rfl (Or.inl rfl) (pc0 (ok_law_divisor T) (hr.mono (by decide)) (pa_cons (pv 2) (pa_cons (pv 3) pa_nil))))
      (pss_one (ps_ret (pe_tupN (pa_cons (pe_op op_dv (pv 2) (pv 4)) (pa_cons (pe_op op_dv (pv 3) (pv 4)) pa_nil)))))))))))), ?_⟩
  walk_at "go"
  rename_i p H1 s1 np hp
  by_cases hc : 47 ∈ l
  · have rr : readR l = (match numR (bef 47 l), numR (aft 47 l) with
      | some t, some b => if b = 0 then none else some (Rat.divInt t b)
      | _, _ => none) := if_pos hc
    have l1 := bef_len 47 l
    have l2 := aft_len 47 l
    rw [splt_some hc] at hp ⊢
    by_cases hc2 : 47 ∈ aft 47 l
    · rw [splt_some hc2] at hp ⊢
      have lp := splt_ne 47 (aft 47 (aft 47 l))
      refine ifT (by simp; omega) ?_
      have : numR (aft 47 l) = none := numR_none (.inr (.inr (.inl ⟨47, hc2, by decide⟩)))
      rw [this] at rr
      walk_at "go"
      refine e (rr.trans ?_) _ s1
      cases numR (bef 47 l) <;> rfl
    · rw [splt_none hc2] at hp ⊢
      refine ifF rfl ?_
      walk_at "go"
      refine k_by (fun σ G => Bx (σ = [some (nmV l), some (.ref p), some (.int (numI (bef 47 l))), some (.int (numI (aft 47 l))), none] ∧ G = H1)) ?_ ?_
      · walk_at "go"
        exact ⟨rfl, rfl⟩
      rintro σ G ⟨rfl, rfl⟩
      walk_at "go"
      walk_at "if"
      · intro h
        walk_at "go"
        cases ht : numR (bef 47 l) with
        | none => rw [ht] at rr; exact e rr _ s1
        | some t => rw [numI_some ht] at h; omega
      · intro h
        walk_at "go"
        walk_at "if"
        · intro h2
          walk_at "go"
          cases ht : numR (bef 47 l) with
          | none => rw [ht] at rr; exact e rr _ s1
          | some t =>
            cases hb : numR (aft 47 l) with
            | none => rw [ht, hb] at rr; exact e rr _ s1
            | some b =>
              rw [ht, hb] at rr
              rw [numI_some hb] at h2
              exact e (rr.trans (if_pos (by omega))) _ s1
        · intro h2
          cases ht : numR (bef 47 l) with
          | none => rw [numI_none ht] at h; omega
          | some t =>
            cases hb : numR (aft 47 l) with
            | none => rw [numI_none hb] at h2; omega
            | some b =>
              rw [numI_some hb] at h2
              rw [ht, hb] at rr
              have k := k _ (rr.trans (if_neg (by omega)))
              rw [numI_some ht, numI_some hb]
              have hb0 : (b : Int) ≠ 0 := by omega
              have se : share (t : Int) (b : Int) = (Int.gcd (t : Int) (b : Int) : Int) := by unfold share; rw [if_neg (by omega)]
              have B := bit30 (numR_inv hb)
              walk_at "go"
              · rw [← se]; exact dvok (share_ne hb0) (B.le (share_le hb0)) (by decide)
              · rw [← se]; exact dvok (share_ne hb0) (B.le (share_le hb0)) (by decide)
              · rename_i p2 H2 s2 np2 hp2
                rw [← se] at hp2
                exact k _ _ (by walk_at "same") (amt_mk (sqt_of hp2) (amount_num hb0) (amount_den hb0))
  · have rr : readR l = (numR l).map fun t => Rat.divInt t 1 := if_neg hc
    rw [splt_none hc] at hp ⊢
    refine ifF rfl ?_
    walk_at "go"
    refine k_by (fun σ G => Bx (σ = [some (nmV l), some (.ref p), some (.int (numI l)), some (.int 1), none] ∧ G = H1)) ?_ ?_
    · walk_at "go"
      refine ifF rfl ?_
      exact ⟨rfl, rfl⟩
    rintro σ G ⟨rfl, rfl⟩
    walk_at "go"
    walk_at "if"
    · intro h
      walk_at "go"
      cases ht : numR l with
      | none => rw [ht] at rr; exact e rr _ s1
      | some t => rw [numI_some ht] at h; omega
    · intro h
      cases ht : numR l with
      | none => rw [numI_none ht] at h; omega
      | some t =>
        rw [ht] at rr
        have k := k _ rr
        rw [numI_some ht]
        have hb0 : (1 : Int) ≠ 0 := by omega
        have se : share (t : Int) 1 = (Int.gcd (t : Int) 1 : Int) := by unfold share; rw [if_neg (by omega)]
        have B := bit30 (n := 1) (by decide)
        walk_at "go"
        · rw [← se]; exact dvok (share_ne hb0) (B.le (share_le hb0)) (by decide)
        · rw [← se]; exact dvok (share_ne hb0) (B.le (share_le hb0)) (by decide)
        · rename_i p2 H2 s2 np2 hp2
          rw [← se] at hp2
          exact k _ _ (by walk_at "same") (amt_mk (sqt_of hp2) (amount_num hb0) (amount_den hb0))
end

section
variable {P : Program} {w : World} {K : PySem.W.Frag} {mg : Str → Option Value} {base : Heap}
def sp_alike (K : PySem.W.Frag) : Sp := fun vs H Q _ => ∃ (v u : V) (q : Rat), vs = [v, u] ∧ Amt K H v q ∧ Amt K H u q ∧ Q (.bl true) H
theorem ok_law_alike (T : Txt K mg) : Def P w K mg base (1 + 1) "_law_alike" ["_law_found", "_law_due_here"] [] (sp_alike K) := by
  refine def_ok T.g_law_alike T.d_law_alike sc_law_alike (fun vs H Q E h => by obtain ⟨_, _, _, rfl, _⟩ := h; rfl) (fun _ _ _ _ _ _ us hl => match us, hl with | [_, _], _ => rfl) (fun cdv A outer s H vs Q E hr h => ?_)
  obtain ⟨v, u, q, rfl, hv, hu, k⟩ := h
  obtain ⟨a, rfl, ta⟩ := amt_inv hv
  obtain ⟨b, rfl, tb⟩ := amt_inv hu
  refine ⟨_, (pss_cons (ps_if (PW.pt (pw_or (pt_not (pt_val (pe_callB call_isi (by rfl) T.z_isinstance (by decide +kernel) (pa_cons (pv 0) (pa_cons (pe_bltn (v := .ty "tuple") (by rfl) T.z_tuple (by decide +kernel) rfl) pa_nil))))) (pw_or1 (pt_cmpR op_ne (pe_callB call_len_seq (by rfl) T.z_len (by decide +kernel) (pa_cons (pv 0) pa_nil)) pe_int (nomark _))))) (pss_one (ps_ret pe_bl)) pss_nil)
      (pss_one (ps_ret (pe_and (pc0 (ok_law_whole T) (hr.mono (by decide)) (pa_cons (pe_ix ix_tup (pv 0) pe_int (fun _ _ => rfl)) pa_nil)) (pe_and (pc0 (ok_law_whole T) (hr.mono (by decide)) (pa_cons (pe_ix ix_tup (pv 0) pe_int (fun _ _ => rfl)) pa_nil)) (pe_and (pe_cmpR op_eq (pe_ix ix_tup (pv 0) pe_int (fun _ _ => rfl)) (pe_ix ix_tup (pv 1) pe_int (fun _ _ => rfl)) (nomark _)) (pe_one (pe_cmpR op_eq (pe_ix ix_tup (pv 0) pe_int (fun _ _ => rfl)) (pe_ix ix_tup (pv 1) pe_int (fun _ _ => rfl)) (nomark _))))))))), ?_⟩
  walk_at "go"
  refine ifT (by simp) ?_
  walk_at "go"
  refine qb (by simp) k
def sp_written (K : PySem.W.Frag) : Sp := fun vs H Q _ => ∃ (v : V) (q : Rat) (n : Nat), vs = [v] ∧ Amt K H v q ∧ Sz n q ∧ 0 ≤ q.num ∧ n ≤ 1900 ∧ Q (.bl true) H
theorem ok_law_written (T : Txt K mg) : Def P w K mg base (1 + 1) "_law_written" ["_law_due_here"] [] (sp_written K) := by
  refine def_ok T.g_law_written T.d_law_written sc_law_written (fun vs H Q E h => by obtain ⟨_, _, _, rfl, _⟩ := h; rfl) (fun _ _ _ _ _ _ us hl => match us, hl with | [_], _ => rfl) (fun cdv A outer s H vs Q E hr h => ?_)
  obtain ⟨v, q, n, rfl, hv, sz, h0, hn, k⟩ := h
  obtain ⟨a, rfl, ta⟩ := amt_inv hv
  have l1 := bit_log sz.num (by omega)
  have l2 := bit_log sz.den (by omega)
  have z1 := shA_sz1 sz h0 hn
  have z2 := shA_sz2 sz hn
  refine ⟨_, (pss_cons (ps_set (i := 1) sc_law_written.nd rfl (Or.inl rfl) (pe_callTy call_strT (by rfl) T.z_str (by decide +kernel) (pa_cons (pe_ix ix_tup (pv 0) pe_int (fun _ _ => rfl)) pa_nil)))
      (pss_k (ps_if (pt_cmpR op_gt (pe_ix ix_tup (pv 0) pe_int (fun _ _ => rfl)) pe_int (nomark _)) (pss_one (ps_set (i := 1) sc_law_written.nd rfl (Or.inl rfl) (pe_op op_addT (pe_op op_addT (pv 1) (pe_tx [47] (by decide +kernel))) (pe_callTy call_strT (by rfl) T.z_str (by decide +kernel) (pa_cons (pe_ix ix_tup (pv 0) pe_int (fun _ _ => rfl)) pa_nil))))) pss_nil)
      (pss_cons (ps_set (i := 2) sc_law_written.nd rfl (Or.inl rfl) (pc0 (ok_shown_amount T) (hr.mono (by decide)) (pa_cons (pv 0) pa_nil)))
      (pss_one (ps_ret (pe_and (pe_callB call_isi (by rfl) T.z_isinstance (by decide +kernel) (pa_cons (pv 2) (pa_cons (pe_bltn (v := .ty "str") (by rfl) T.z_str (by decide +kernel) rfl) pa_nil))) (pe_one (pe_cmpR op_eq (pv 2) (pv 1) (nomark _))))))))), ?_⟩
  walk_at "go"
  refine k_by (fun σ G => Bx (σ = [some (.ref a), some (nmV (shA q)), none] ∧ G = H)) ?_ ?_
  · walk_at "go"
    walk_at "if"
    · intro h
      walk_at "go"
      refine ⟨?_, rfl⟩
      unfold shA; rw [if_neg (by omega)]; rfl
    · intro h
      have := den_ge q
      refine ⟨?_, rfl⟩
      unfold shA; rw [if_pos (by omega)]; rfl
  rintro σ G ⟨rfl, rfl⟩
  walk_at "go"
  refine qb ?_ k
  simp
end

section
variable {P : Program} {w : World} {K : PySem.W.Frag} {mg : Str → Option Value} {base : Heap}
def sp_lrefused : Sp := fun vs H Q _ => ∃ l : List Nat, vs = [nmV l] ∧ SzT l.length ∧ readR l = none ∧ ∀ H', Q (.bl true) H'
theorem ok_law_refused (T : Txt K mg) : Def P w K mg base (3 + 1) "_law_refused" ["_law_text_here"] [] (sp_lrefused) := by
  refine def_ok T.g_law_refused T.d_law_refused sc_law_refused (fun vs H Q E h => by obtain ⟨_, rfl, _⟩ := h; rfl) (fun _ _ _ _ _ _ us hl => match us, hl with | [_], _ => rfl) (fun cdv A outer s H vs Q E hr h => ?_)
  obtain ⟨l, rfl, hl, hn, k⟩ := h
  refine ⟨_, (pss_cons (ps_set (i := 1) sc_law_refused.nd rfl (Or.inl rfl) pe_non)
      (pss_cons (ps_try_keep (i := 2) rfl rfl rfl sc_law_refused.nd rfl rfl ⟨rfl, by decide, Or.inl T.g_TreeError⟩ (takes_of rfl rfl rfl rfl) (fun W pn xe tk po => (pss_one (ps_expr (pcl (ok_read_amount T) (hr.mono (by decide)) tk (pa_cons (pv 0) pa_nil))))) (fun a pn => (pss_one (ps_set (i := 1) sc_law_refused.nd rfl (Or.inl rfl) (pv 2)))))
      (pss_one (ps_ret (pe_and (pe_callB call_isX (by rfl) T.z_isinstance (by decide +kernel) (pa_cons (pv 1) (pa_cons (pe_gref T.g_NoAmount) pa_nil))) (pe_one (pe_not (pe_callB call_isXT (by rfl) T.z_isinstance (by decide +kernel) (pa_cons (pv 1) (pa_cons (pe_tupN (pa_cons (pe_gref T.g_NoName) (pa_cons (pe_gref T.g_NoText) pa_nil))) pa_nil)))))))))), ?_⟩
  walk_at "go"
  · intro q hq; rw [hn] at hq; cases hq
  · intro _ H1 s1
    refine ⟨true, T.e_NoAmount_TreeError, fun _ a na => ?_, fun q => nomatch q⟩
    walk_at "go"
    (first | refine isx (.own "NoAmount") T.k1_NoAmount_NoAmount T.xc_NoAmount (by walk_at "get") ?_ | refine isxtN [.own "NoName", .own "NoText"] T.ka_115_NoAmount T.xc_NoAmount (by walk_at "get") (by walk_at "get") ?_)
    walk_at "go"
    (first | refine isx (.own "NoAmount") T.k1_NoAmount_NoAmount T.xc_NoAmount (by walk_at "get") ?_ | refine isxtN [.own "NoName", .own "NoText"] T.ka_115_NoAmount T.xc_NoAmount (by walk_at "get") (by walk_at "get") ?_)
    walk_at "go"
    exact k _
end

section
variable {P : Program} {w : World} {K : PySem.W.Frag} {mg : Str → Option Value} {base : Heap}
theorem num_le {t b : Int} (hb : b ≠ 0) : (Rat.divInt t b).num.natAbs ≤ t.natAbs := by
  rw [← amount_num hb, fdiv_of_dvd (share_dvd_left t b)]; exact natAbs_ediv_le _ _
theorem den_le {t b : Int} (hb : b ≠ 0) : (Rat.divInt t b).den ≤ b.natAbs := by
  have : (((Rat.divInt t b).den : Nat) : Int).natAbs ≤ b.natAbs := by
    rw [← amount_den hb, fdiv_of_dvd (share_dvd_right t b)]; exact natAbs_ediv_le _ _
  omega
/-- an amount of texts -/
structure Txa (q : Rat) : Prop where
  pos : 0 ≤ q.num
  num : q.num.natAbs < 10 ^ 30
  den : q.den < 10 ^ 30
theorem txa_of {t b : Nat} (hb : b ≠ 0) (h1 : t < 10 ^ 30) (h2 : b < 10 ^ 30) : Txa (Rat.divInt t b) := by
  have hb' : (b : Int) ≠ 0 := by omega
  refine ⟨?_, ?_, ?_⟩
  · rw [← amount_num hb', fdiv_of_dvd (share_dvd_left _ _)]
    unfold share
    rw [if_neg (by omega)]
    exact Int.ediv_nonneg (by omega) (by omega)
  · have := num_le (t := (t : Int)) hb'; omega
  · have := den_le (t := (t : Int)) hb'; omega
theorem readR_txa {l : List Nat} {q : Rat} (h : readR l = some q) : Txa q := by
  unfold readR at h
  split at h
  · split at h
    · rename_i t b ht hb
      split at h
      · cases h
      · rename_i b0
        cases h
        exact txa_of b0 (numR_inv ht) (numR_inv hb)
    · cases h
  · cases e : numR l with
    | none => rw [e] at h; cases h
    | some t =>
      rw [e] at h
      cases h
      exact txa_of (t := t) (b := 1) (by decide) (numR_inv e) (by decide)
theorem numR_figs {n : Nat} (h : n < 10 ^ 30) : numR (figs (n : Int)) = some n := by
  have e := numR_some (figs_ne n) (figs_len (k := 30) (by decide) h) (figs_fg n) (fun ⟨h1, h2⟩ => by
    by_cases h0 : n < 10
    · rw [figs_numL, TL.numL_lt h0] at h2; simp at h2
    · obtain ⟨c, r, e, hc⟩ := figs_head (n := n) (by omega)
      rw [e] at h1
      exact hc (by simpa using h1))
  rw [val_figs] at e; exact e
theorem fg47 : (47 : Nat) ∉ FG := by decide
theorem readR_shA {q : Rat} (h : Txa q) : readR (shA q) = some q := by
  obtain ⟨m, hm⟩ := Int.eq_ofNat_of_zero_le h.pos
  have h1 := h.num
  have n1 : (47 : Nat) ∉ figs (m : Int) := fun z => fg47 (figs_fg m 47 z)
  have n2 : (47 : Nat) ∉ figs ((q.den : Nat) : Int) := fun z => fg47 (figs_fg q.den 47 z)
  rw [hm, Int.natAbs_natCast] at h1
  unfold shA
  rw [hm]
  split
  · rename_i hd
    unfold readR
    rw [if_neg n1, numR_figs h1]
    show some (Rat.divInt (m : Int) 1) = some q
    rw [← hm, show (1 : Int) = (q.den : Int) by omega, Rat.num_divInt_den]
  · rename_i hd
    have e : figs (m : Int) ++ [47] ++ figs ((q.den : Nat) : Int) = figs (m : Int) ++ 47 :: figs ((q.den : Nat) : Int) := by simp
    unfold readR
    rw [e, if_pos (by simp), bef_app n1, aft_app n1, numR_figs h1, numR_figs h.den]
    show (if q.den = 0 then none else some (Rat.divInt (m : Int) (q.den : Int))) = some q
    rw [if_neg q.den_nz, ← hm, Rat.num_divInt_den]
theorem sz_lt {n : Nat} {i : Int} (h : i.natAbs < 10 ^ 60) : Bit 200 i := Nat.lt_of_lt_of_le h (by decide +kernel)
theorem Txa.sz {q : Rat} (h : Txa q) : Sz 200 q := ⟨sz_lt (n := 0) (by have := h.num; omega), sz_lt (n := 0) (by have := h.den; omega)⟩
theorem shA_len {q : Rat} (h : Txa q) : SzT (shA q).length := by
  have z1 := shA_sz1 h.sz h.pos (by decide)
  have z2 := shA_sz2 h.sz (by decide)
  unfold SzT shA
  split
  · omega
  · simp only [List.length_append, List.length_cons, List.length_nil]; omega
theorem law_fn {fd : FuncData} (T : Txt K mg) (F : FunD K "law" "law" (defArgs s_law) (defBody s_law) (defScope s_law) [] [] (He.ga K "law") fd) : FnOk P w K mg base (L2.CX P w) (4 + 1) (He.ga K "law") fd ["_law_script"] (sp_law K) := by
  refine F.ok sc_law (fun vs H Q E h => by obtain ⟨_, _, rfl, _⟩ := h; rfl) (fun cdv A outer s H vs Q E hr h => ?_)
  obtain ⟨a, ns, rfl, hS, hl, hbt, k⟩ := h
  refine ⟨_, (pss_cons (ps_set (i := 1) sc_law.nd rfl (Or.inl rfl) (pc0 (ok_law_cell_at T) (hr.mono (by decide)) (pa_cons (pv 0) (pa_cons pe_int pa_nil))))
      (pss_cons (ps_set (i := 2) sc_law.nd rfl (Or.inl rfl) (pc0 (ok_law_text T) (hr.mono (by decide)) (pa_cons (pc0 (ok_law_cell_at T) (hr.mono (by decide)) (pa_cons (pv 0) (pa_cons pe_int pa_nil))) (pa_cons (pc0 (ok_law_cell_at T) (hr.mono (by decide)) (pa_cons (pv 0) (pa_cons pe_int pa_nil))) (pa_cons (pv 1) (pa_cons (pc0 (ok_law_cell_at T) (hr.mono (by decide)) (pa_cons (pv 0) (pa_cons pe_int pa_nil))) pa_nil))))))
      (pss_cons (ps_set (i := 3) sc_law.nd rfl (Or.inl rfl) (pe_op op_md (pc0 (ok_law_cell_at T) (hr.mono (by decide)) (pa_cons (pv 0) (pa_cons pe_int pa_nil))) (pe_op op_pow pe_int pe_int)))
      (pss_cons (ps_set (i := 4) sc_law.nd rfl (Or.inl rfl) (pe_op op_add pe_int (pe_op op_md (pc0 (ok_law_cell_at T) (hr.mono (by decide)) (pa_cons (pv 0) (pa_cons pe_int pa_nil))) (pe_op op_sub (pe_op op_pow pe_int pe_int) pe_int))))
      (pss_cons (ps_set (i := 5) sc_law.nd rfl (Or.inl rfl) (pc0 (ok_law_divisor T) (hr.mono (by decide)) (pa_cons (pv 3) (pa_cons (pv 4) pa_nil))))
      (pss_cons (ps_if (pt_not (pt_val (pc0 (ok_law_written T) (hr.mono (by decide)) (pa_cons (pe_tupN (pa_cons (pe_op op_dv (pv 3) (pv 5)) (pa_cons (pe_op op_dv (pv 4) (pv 5)) pa_nil))) pa_nil)))) (pss_one (ps_ret pe_bl)) pss_nil)
      (pss_cons (ps_set (i := 6) sc_law.nd rfl (Or.inl rfl) (pc0 (ok_law_due T) (hr.mono (by decide)) (pa_cons (pv 2) pa_nil)))
      (pss_cons (ps_if (pt_cmpR op_isN (pv 6) pe_non (nomark _)) (pss_one (ps_ret (pc0 (ok_law_refused T) (hr.mono (by decide)) (pa_cons (pv 2) pa_nil)))) pss_nil)
      (pss_cons (ps_if (PW.pt (pw_or (pt_not (pt_val (pc0 (ok_law_alike T) (hr.mono (by decide)) (pa_cons (pcl (ok_read_amount T) (hr.mono (by decide)) (takes_of rfl rfl rfl rfl) (pa_cons (pv 2) pa_nil)) (pa_cons (pv 6) pa_nil))))) (pw_or1 (pt_not (pt_val (pc0 (ok_law_written T) (hr.mono (by decide)) (pa_cons (pv 6) pa_nil))))))) (pss_one (ps_ret pe_bl)) pss_nil)
      (pss_one (ps_ret (pc0 (ok_law_alike T) (hr.mono (by decide)) (pa_cons (pcl (ok_read_amount T) (hr.mono (by decide)) (takes_of rfl rfl rfl rfl) (pa_cons (pc0 (ok_shown_amount T) (hr.mono (by decide)) (pa_cons (pv 6) pa_nil)) pa_nil)) (pa_cons (pv 6) pa_nil)))))))))))))), ?_⟩
  obtain ⟨t, ht, tl⟩ := fmodN (ns.getD 4 0) (10 ^ 60) (by decide)
  obtain ⟨b0, hb, bl⟩ := fmodN (ns.getD 5 0) (10 ^ 60 - 1) (by decide)
  have ht' : (ns.getD 4 0).fmod (10 ^ Int.toNat 60) = (t : Int) := ht
  have hb' : 1 + (ns.getD 5 0).fmod (10 ^ Int.toNat 60 - 1) = ((1 + b0 : Nat) : Int) := by
    rw [show (10 ^ Int.toNat 60 - 1 : Int) = ((10 ^ 60 - 1 : Nat) : Int) by decide +kernel, hb]; omega
  have nz : ((1 + b0 : Nat) : Int) ≠ 0 := by omega
  have se : share (t : Int) ((1 + b0 : Nat) : Int) = (Int.gcd (t : Int) ((1 + b0 : Nat) : Int) : Int) := by unfold share; rw [if_neg (by omega)]
  have B : Bit 200 ((1 + b0 : Nat) : Int) := sz_lt (n := 0) (by rw [Int.natAbs_natCast]; omega)
  have B2 : Bit 200 (t : Int) := sz_lt (n := 0) (by rw [Int.natAbs_natCast]; omega)
  have S := Sz.divInt nz B2 B
  have p0 : 0 ≤ (Rat.divInt (t : Int) ((1 + b0 : Nat) : Int)).num := by
    rw [← amount_num nz, fdiv_of_dvd (share_dvd_left _ _), se]
    exact Int.ediv_nonneg (by omega) (by omega)
  walk_at "go"
  intro l hl
  walk_at "go"
  · rw [ht', hb', ← se]; exact dvok (share_ne nz) (B.le (share_le nz)) (by decide)
  · rw [ht', hb', ← se]; exact dvok (share_ne nz) (B.le (share_le nz)) (by decide)
  · rename_i p H1 s1 np hp
    rw [ht', hb', ← se] at hp
    exact amt_mk (sqt_of hp) (amount_num nz) (amount_den nz)
  · rename_i p H1 s1 np hp
    intro q hq
    have X := readR_txa hq
    have Xs := X.sz
    have Xp := X.pos
    walk_at "go"
    rename_i v H2 s2 d2
    obtain ⟨av, rfl, tv⟩ := amt_inv d2
    walk_at "go"
    · intro q2 hq2
      rw [hq] at hq2
      cases hq2
      walk_at "go"
      · exact shA_len X
      · intro q2 hq2
        rw [readR_shA X] at hq2
        cases hq2
        walk_at "go"
        exact k _
      · intro e; rw [readR_shA X] at e; cases e
    · intro e; rw [hq] at e; cases e
  · intro hn H1 s1
    walk_at "go"
    · exact hn
    · exact k
end

def dd_is_whole : He.DefD := ⟨("is_whole", none), "is_whole", "is_whole", defArgs s_is_whole, defBody s_is_whole, defScope s_is_whole, [], []⟩
def dd_divisor : He.DefD := ⟨("divisor", none), "divisor", "divisor", defArgs s_divisor, defBody s_divisor, defScope s_divisor, [], []⟩
def dd_amount : He.DefD := ⟨("amount", none), "amount", "amount", defArgs s_amount, defBody s_amount, defScope s_amount, [.int 1], []⟩
def dd_number_read : He.DefD := ⟨("number_read", none), "number_read", "number_read", defArgs s_number_read, defBody s_number_read, defScope s_number_read, [], []⟩
def dd_read_amount : He.DefD := ⟨("read_amount", none), "read_amount", "read_amount", defArgs s_read_amount, defBody s_read_amount, defScope s_read_amount, [], []⟩
def dd_shown_amount : He.DefD := ⟨("shown_amount", none), "shown_amount", "shown_amount", defArgs s_shown_amount, defBody s_shown_amount, defScope s_shown_amount, [], []⟩
def dd_law_cell_at : He.DefD := ⟨("_law_cell_at", none), "_law_cell_at", "_law_cell_at", defArgs s_law_cell_at, defBody s_law_cell_at, defScope s_law_cell_at, [], []⟩
def dd_law_whole : He.DefD := ⟨("_law_whole", none), "_law_whole", "_law_whole", defArgs s_law_whole, defBody s_law_whole, defScope s_law_whole, [], []⟩
def dd_law_divisor : He.DefD := ⟨("_law_divisor", none), "_law_divisor", "_law_divisor", defArgs s_law_divisor, defBody s_law_divisor, defScope s_law_divisor, [], []⟩
def dd_law_sign : He.DefD := ⟨("_law_sign", none), "_law_sign", "_law_sign", defArgs s_law_sign, defBody s_law_sign, defScope s_law_sign, [], []⟩
def dd_law_figures : He.DefD := ⟨("_law_figures", none), "_law_figures", "_law_figures", defArgs s_law_figures, defBody s_law_figures, defScope s_law_figures, [], []⟩
def dd_law_text : He.DefD := ⟨("_law_text", none), "_law_text", "_law_text", defArgs s_law_text, defBody s_law_text, defScope s_law_text, [], []⟩
def dd_law_number : He.DefD := ⟨("_law_number", none), "_law_number", "_law_number", defArgs s_law_number, defBody s_law_number, defScope s_law_number, [], []⟩
def dd_law_due : He.DefD := ⟨("_law_due", none), "_law_due", "_law_due", defArgs s_law_due, defBody s_law_due, defScope s_law_due, [], []⟩
def dd_law_alike : He.DefD := ⟨("_law_alike", none), "_law_alike", "_law_alike", defArgs s_law_alike, defBody s_law_alike, defScope s_law_alike, [], []⟩
def dd_law_written : He.DefD := ⟨("_law_written", none), "_law_written", "_law_written", defArgs s_law_written, defBody s_law_written, defScope s_law_written, [], []⟩
def dd_law_refused : He.DefD := ⟨("_law_refused", none), "_law_refused", "_law_refused", defArgs s_law_refused, defBody s_law_refused, defScope s_law_refused, [], []⟩
def dd_law : He.DefD := ⟨("law", none), "law", "law", defArgs s_law, defBody s_law, defScope s_law, [], []⟩
def hfa : List He.Fa := [.glo "is_whole", .glo "divisor", .glo "amount", .glo "number_read", .glo "read_amount", .glo "shown_amount", .glo "_law_cell_at", .glo "_law_whole", .glo "_law_divisor", .glo "_law_sign", .glo "_law_figures", .glo "_law_text", .glo "_law_number", .glo "_law_due", .glo "_law_alike", .glo "_law_written", .glo "_law_refused", .glo "law", .glo "TreeError", .glo "NoAmount", .glo "NoName", .glo "NoText", .free "isinstance", .free "int", .free "bool", .free "abs", .free "len", .free "str", .free "tuple", .str "FIGURES" "0123456789", .int "LONGEST" 30, .exc "NoAmount", .exm "NoAmount" "TreeError" true]
def hfn : List He.DefD := [dd_is_whole, dd_divisor, dd_amount, dd_number_read, dd_read_amount, dd_shown_amount, dd_law_cell_at, dd_law_whole, dd_law_divisor, dd_law_sign, dd_law_figures, dd_law_text, dd_law_number, dd_law_due, dd_law_alike, dd_law_written, dd_law_refused, dd_law]
def loose : List PySem.Str := (["TreeError", "NoAmount", "NoName", "NoText", "is_whole", "divisor", "amount", "number_read", "read_amount", "shown_amount", "_law_cell_at", "_law_whole", "_law_divisor", "_law_sign", "_law_figures", "_law_text", "_law_number", "_law_due", "_law_alike", "_law_written", "_law_refused", "FIGURES", "LONGEST"] : List PySem.Str)
abbrev R : PySem.W.OpenRow := PySem.W.OpenLaw.row PySem.Challenge.rw_limbmap_k03_amounts_as_texts
def hfx : List Fx := [fxExc "NoAmount", fxKit "NoAmount" (.own "NoAmount") true, fxAny "NoAmount" [.own "NoName", .own "NoText"] false]
abbrev hk : PySem.W.Hook := hookP 4 hfa hfn hfx
def ob (s : PySem.W.SharedT) : He.AlD × Bool := obsP 4 hfa hfn hfx (HandSHeadRun.getT s)
theorem ob_eq (s : PySem.W.SharedT) : ob s = hk.obs s.abs := obsP_eq (HandSHeadRun.getT_eq s)
theorem run (w : World) : HandSHeadRun.RunEq R (PySem.W.view R.prog [26]) hk ob 6000 loose w := by
  intro os
  kernel_rfl
theorem txt_of {K : PySem.W.Frag} {h : Heap} {mg : Str → Option Value} (X : K.In h) (G : h.Ns mainGlobals mg) (c : SaysP hfa hfn hfx K) : Txt K mg :=
  { g_is_whole := He.glo_ok X G (c.d.fact 0 (f := .glo "is_whole") rfl),
    g_divisor := He.glo_ok X G (c.d.fact 1 (f := .glo "divisor") rfl),
    g_amount := He.glo_ok X G (c.d.fact 2 (f := .glo "amount") rfl),
    g_number_read := He.glo_ok X G (c.d.fact 3 (f := .glo "number_read") rfl),
    g_read_amount := He.glo_ok X G (c.d.fact 4 (f := .glo "read_amount") rfl),
    g_shown_amount := He.glo_ok X G (c.d.fact 5 (f := .glo "shown_amount") rfl),
    g_law_cell_at := He.glo_ok X G (c.d.fact 6 (f := .glo "_law_cell_at") rfl),
    g_law_whole := He.glo_ok X G (c.d.fact 7 (f := .glo "_law_whole") rfl),
    g_law_divisor := He.glo_ok X G (c.d.fact 8 (f := .glo "_law_divisor") rfl),
    g_law_sign := He.glo_ok X G (c.d.fact 9 (f := .glo "_law_sign") rfl),
    g_law_figures := He.glo_ok X G (c.d.fact 10 (f := .glo "_law_figures") rfl),
    g_law_text := He.glo_ok X G (c.d.fact 11 (f := .glo "_law_text") rfl),
    g_law_number := He.glo_ok X G (c.d.fact 12 (f := .glo "_law_number") rfl),
    g_law_due := He.glo_ok X G (c.d.fact 13 (f := .glo "_law_due") rfl),
    g_law_alike := He.glo_ok X G (c.d.fact 14 (f := .glo "_law_alike") rfl),
    g_law_written := He.glo_ok X G (c.d.fact 15 (f := .glo "_law_written") rfl),
    g_law_refused := He.glo_ok X G (c.d.fact 16 (f := .glo "_law_refused") rfl),
    g_law := He.glo_ok X G (c.d.fact 17 (f := .glo "law") rfl),
    g_TreeError := He.glo_ok X G (c.d.fact 18 (f := .glo "TreeError") rfl),
    g_NoAmount := He.glo_ok X G (c.d.fact 19 (f := .glo "NoAmount") rfl),
    g_NoName := He.glo_ok X G (c.d.fact 20 (f := .glo "NoName") rfl),
    g_NoText := He.glo_ok X G (c.d.fact 21 (f := .glo "NoText") rfl),
    z_isinstance := He.free_ok X G (c.d.fact 22 (f := .free "isinstance") rfl),
    z_int := He.free_ok X G (c.d.fact 23 (f := .free "int") rfl),
    z_bool := He.free_ok X G (c.d.fact 24 (f := .free "bool") rfl),
    z_abs := He.free_ok X G (c.d.fact 25 (f := .free "abs") rfl),
    z_len := He.free_ok X G (c.d.fact 26 (f := .free "len") rfl),
    z_str := He.free_ok X G (c.d.fact 27 (f := .free "str") rfl),
    z_tuple := He.free_ok X G (c.d.fact 28 (f := .free "tuple") rfl),
    c_FIGURES := He.str_ok X G (c.d.fact 29 (f := .str "FIGURES" "0123456789") rfl),
    c_LONGEST := He.int_ok X G (c.d.fact 30 (f := .int "LONGEST" 30) rfl),
    x_NoAmount := He.exc_ok (c.d.fact 31 (f := .exc "NoAmount") rfl),
    e_NoAmount_TreeError := He.exm_ok (c.d.fact 32 (f := .exm "NoAmount" "TreeError" true) rfl),
    d_is_whole := c.d.def_ 0 (d := dd_is_whole) rfl,
    d_divisor := c.d.def_ 1 (d := dd_divisor) rfl,
    d_amount := c.d.def_ 2 (d := dd_amount) rfl,
    d_number_read := c.d.def_ 3 (d := dd_number_read) rfl,
    d_read_amount := c.d.def_ 4 (d := dd_read_amount) rfl,
    d_shown_amount := c.d.def_ 5 (d := dd_shown_amount) rfl,
    d_law_cell_at := c.d.def_ 6 (d := dd_law_cell_at) rfl,
    d_law_whole := c.d.def_ 7 (d := dd_law_whole) rfl,
    d_law_divisor := c.d.def_ 8 (d := dd_law_divisor) rfl,
    d_law_sign := c.d.def_ 9 (d := dd_law_sign) rfl,
    d_law_figures := c.d.def_ 10 (d := dd_law_figures) rfl,
    d_law_text := c.d.def_ 11 (d := dd_law_text) rfl,
    d_law_number := c.d.def_ 12 (d := dd_law_number) rfl,
    d_law_due := c.d.def_ 13 (d := dd_law_due) rfl,
    d_law_alike := c.d.def_ 14 (d := dd_law_alike) rfl,
    d_law_written := c.d.def_ 15 (d := dd_law_written) rfl,
    d_law_refused := c.d.def_ 16 (d := dd_law_refused) rfl,
    d_law := c.d.def_ 17 (d := dd_law) rfl,
    xc_NoAmount := fxExc_ok (c.get 0 (f := fxExc "NoAmount") rfl),
    k1_NoAmount_NoAmount := fxKit_ok (c.get 1 (f := fxKit "NoAmount" (.own "NoAmount") true) rfl),
    ka_115_NoAmount := fxAny_ok (c.get 2 (f := fxAny "NoAmount" [.own "NoName", .own "NoText"] false) rfl) }
theorem facts {P : Program} {w : World} {K : PySem.W.Frag} {h : Heap} {mg : Str → Option Value} {f : Addr} (X : K.In h) (G : h.Ns mainGlobals mg) (hmg : mg ("law" : Str) = some (.ref f)) (c : SaysP hfa hfn hfx K) :
    ∃ fd : FuncData, (∀ (s : Shared) (v : Value), BindsTo s fd ⟨[v], []⟩ [("_law_script", v)]) ∧ ∀ base : Heap, K.In base → base.Ns mainGlobals mg → FnOk P w K mg base (L2.CX P w) 5 f fd ["_law_script"] (sp_law K) := by
  have T := txt_of X G c
  have e := hmg.symm.trans T.g_law
  cases e
  obtain ⟨fd, F⟩ := T.d_law
  have b := FunD.bindsA (ps := ["_law_script"]) F fun _ _ _ _ _ _ us hl => match us, hl with | [_], _ => rfl
  exact ⟨fd, fun s v => b s [v] rfl, fun base _ _ => law_fn T F⟩
end Lim
open PySem PySem.W PySem.Calls PyProof.Rows
theorem PySem.Challenge.cw_limbmap_k03_amounts_as_texts_holds : PySem.Challenge.rw_limbmap_k03_amounts_as_texts.Holds := by
  w_on; o_law
  refine HandSHeadRun.head_any (r := OpenLaw.row PySem.Challenge.rw_limbmap_k03_amounts_as_texts) (q := view (OpenLaw.row PySem.Challenge.rw_limbmap_k03_amounts_as_texts).prog [26]) (H := Lim.hk) (ob := Lim.ob) (M := 6000) (loose := Lim.loose) (d := HandSHeadRun.topDef (OpenLaw.row PySem.Challenge.rw_limbmap_k03_amounts_as_texts).prog 26) (kwd := []) Lim.ob_eq
    (by kernel_rfl) (fun s => by kernel_rfl) Lim.run (by kernel_rfl) (by kernel_rfl) (by kernel_rfl) (by rfl) (by first | assumption | decide +kernel) (by decide +kernel) ⟨rfl, rfl, rfl, rfl, rfl, by decide +kernel⟩ ?hw ?hc
  case hw => w_witness2
  case hc =>
    refine Lim.walk_ofEB (l := PySem.Challenge.rw_limbmap_k03_amounts_as_texts) (n := 63) (k := 5) (x := "_law_script") rfl (by decide) (by kernel_rfl) ⟨rfl, by decide, by decide⟩ ?F
    intro w mg fa h Y G hmg0
    obtain ⟨K, KX, c⟩ := Y
    have hmg : mg ("law" : PySem.Str) = some (.ref fa) := by
      have e : (HandSHeadRun.topDef (OpenLaw.row PySem.Challenge.rw_limbmap_k03_amounts_as_texts).prog 26).name = ("law" : PySem.Str) := by kernel_rfl
      rw [← e]
      exact hmg0
    obtain ⟨fd, hb, hF⟩ := Lim.facts (P := (PySem.Challenge.rw_limbmap_k03_amounts_as_texts).prog) (w := w) KX G hmg c
    exact ⟨K, fd, Lim.sp_law K, KX, hb, fun H a ns hl hbt hO hS => ⟨a, ns, rfl, hS, hl, hbt, fun _ => rfl⟩, hF⟩


