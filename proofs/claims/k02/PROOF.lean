import PyProof.Rows.All
import Wide.All
import OpenK.AllK
import Wide.FinOn
import KE.KStateDown
import HandS.ForMost
import HandS.Exc
import HandS.TryOnly
import HandS.ExcOwn
import HandS.WordsExc
import HandS.IsInst
import HandS.ExcIs
import HandS.Wide
import HandS.WideBits
import HandS.Defaults
import HandS.Flow
import HandS.Style
import HandS.SortInts
import HandS.EndBits
import HandS.HeadEnd
import HandS.Head0
import HandS.Head1
import HandS.Head2
import HandS.HeadHook1
import HandS.HeadHook2
import PySem.Challenge.RW_limbmap_k02_sums_and_order
set_option Elab.async false
set_option linter.all false
set_option maxRecDepth 100000
set_option maxHeartbeats 4000000
namespace Lim
/-! amounts: fractions in lowest terms are Rat -/
theorem gcd_fmod (a b : Int) : Int.gcd b (a.fmod b) = Int.gcd a b := by
  have h : a.fmod b = a + b * (-(a.fdiv b)) := by
    have := Int.fmod_add_mul_fdiv a b
    rw [Int.mul_neg]; omega
  rw [h, Int.gcd_add_mul_left_right, Int.gcd_comm]
theorem fmod_lt (a : Int) {b : Int} (h : b ≠ 0) : (a.fmod b).natAbs < b.natAbs := by
  rcases Int.lt_or_gt_of_ne h with hb | hb
  · have e := Int.neg_fmod_neg (-a) (-b)
    have h1 := Int.fmod_nonneg_of_pos (-a) (b := -b) (by omega)
    have h2 := Int.fmod_lt_of_pos (-a) (b := -b) (by omega)
    simp only [Int.neg_neg] at e
    omega
  · have h1 := Int.fmod_nonneg_of_pos a hb
    have h2 := Int.fmod_lt_of_pos a hb
    omega
theorem fdiv_of_dvd {a g : Int} (h : g ∣ a) : a.fdiv g = a / g := by
  exact Int.fdiv_eq_ediv_of_dvd h
/-- the greatest divisor with the lower one's sign -/
def share (t b : Int) : Int := if b < 0 then 0 - (Int.gcd t b : Int) else (Int.gcd t b : Int)
theorem share_dvd_left (t b : Int) : share t b ∣ t := by
  unfold share
  have := Int.gcd_dvd_left t b
  split
  · rw [Int.zero_sub]; exact Int.neg_dvd.mpr this
  · exact this
theorem share_dvd_right (t b : Int) : share t b ∣ b := by
  unfold share
  have := Int.gcd_dvd_right t b
  split
  · rw [Int.zero_sub]; exact Int.neg_dvd.mpr this
  · exact this
theorem share_ne {t b : Int} (h : b ≠ 0) : share t b ≠ 0 := by
  have : Int.gcd t b ≠ 0 := by
    rw [Ne, Int.gcd_eq_zero_iff]; omega
  unfold share; split <;> omega
theorem amount_num {t b : Int} (h : b ≠ 0) : t.fdiv (share t b) = (Rat.divInt t b).num := by
  rw [fdiv_of_dvd (share_dvd_left t b), Rat.num_divInt, Int.gcd_comm b t]
  unfold share
  rcases Int.lt_or_gt_of_ne h with hb | hb
  · rw [if_pos hb, Int.sign_eq_neg_one_of_neg hb, Int.zero_sub, Int.ediv_neg]
    rw [show (-1 : Int) * t = -t by omega, Int.neg_ediv_of_dvd (Int.gcd_dvd_left _ _)]
  · rw [if_neg (by omega), Int.sign_eq_one_of_pos hb, Int.one_mul]
theorem amount_den {t b : Int} (h : b ≠ 0) : b.fdiv (share t b) = ((Rat.divInt t b).den : Int) := by
  rw [fdiv_of_dvd (share_dvd_right t b), Rat.den_divInt, if_neg h, Int.gcd_comm b t]
  unfold share
  rcases Int.lt_or_gt_of_ne h with hb | hb
  · rw [if_pos hb, Int.zero_sub, Int.ediv_neg, Int.natCast_ediv, ← Int.neg_ediv_of_dvd (Int.gcd_dvd_right _ _)]
    congr 1; omega
  · rw [if_neg (by omega), Int.natCast_ediv]
    congr 1; omega
theorem divInt_add (p q : Rat) : Rat.divInt (p.num * (q.den : Int) + q.num * (p.den : Int)) ((p.den : Int) * (q.den : Int)) = p + q := by
  have h1 : (p.den : Int) ≠ 0 := by have := p.den_nz; omega
  have h2 : (q.den : Int) ≠ 0 := by have := q.den_nz; omega
  rw [← Rat.divInt_add_divInt _ _ h1 h2, Rat.num_divInt_den, Rat.num_divInt_den]
theorem divInt_sub (p q : Rat) : Rat.divInt (p.num * (q.den : Int) - q.num * (p.den : Int)) ((p.den : Int) * (q.den : Int)) = p - q := by
  have h1 : (p.den : Int) ≠ 0 := by have := p.den_nz; omega
  have h2 : (q.den : Int) ≠ 0 := by have := q.den_nz; omega
  rw [← Rat.divInt_sub_divInt _ _ h1 h2, Rat.num_divInt_den, Rat.num_divInt_den]
theorem divInt_half (p : Rat) : Rat.divInt p.num (2 * (p.den : Int)) = p / 2 := by
  have h1 : (p.den : Int) ≠ 0 := by have := p.den_nz; omega
  have e : p / 2 = Rat.divInt p.num p.den * Rat.divInt 1 2 := by
    rw [Rat.num_divInt_den, Rat.div_def, show Rat.divInt 1 2 = (2 : Rat)⁻¹ by rw [Rat.divInt_eq_div]; grind]
  rw [e, Rat.divInt_mul_divInt, Int.mul_one, Int.mul_comm]
theorem rat_lt (p q : Rat) : decide (p.num * (q.den : Int) < q.num * (p.den : Int)) = decide (p < q) := by
  rw [decide_eq_decide]; exact (Rat.lt_iff p q).symm
theorem den_ge (p : Rat) : (1 : Int) ≤ p.den := by have := p.den_pos; omega
theorem den_ne (p : Rat) : (p.den : Int) ≠ 0 := by have := p.den_pos; omega
theorem red (p : Rat) : Int.gcd p.num (p.den : Int) = 1 := by
  have := p.reduced
  rw [Int.gcd_eq_natAbs_gcd_natAbs, Int.natAbs_natCast]; exact this
/-- n over d, in lowest terms, is worth t over b -/
theorem worth {t b : Int} (hb : b ≠ 0) : (Rat.divInt t b).num * b = t * ((Rat.divInt t b).den : Int) := by
  have e := Rat.num_divInt_den (Rat.divInt t b)
  exact (Rat.divInt_eq_divInt_iff (den_ne _) hb).mp e
/-- lowest terms are told by their worth -/
theorem rat_of {n d : Int} (h1 : 1 ≤ d) (hg : Int.gcd n d = 1) : (Rat.divInt n d).num = n ∧ ((Rat.divInt n d).den : Int) = d := by
  rw [Rat.num_divInt, Rat.den_divInt, if_neg (by omega), Int.gcd_comm d n, hg, Int.sign_eq_one_of_pos (by omega)]
  constructor <;> simp <;> omega
end Lim
namespace Lim
/-! sizes -/
def Bit (n : Nat) (i : Int) : Prop := i.natAbs < 2 ^ n
theorem Bit.mono {n m : Nat} {i : Int} (h : Bit n i) (l : n ≤ m) : Bit m i := Nat.lt_of_lt_of_le h (Nat.pow_le_pow_right (by decide) l)
theorem Bit.le {n : Nat} {i j : Int} (h : Bit n j) (l : i.natAbs ≤ j.natAbs) : Bit n i := Nat.lt_of_le_of_lt l h
theorem Bit.mul {a b : Nat} {i j : Int} (ha : Bit a i) (hb : Bit b j) : Bit (a + b) (i * j) := by
  unfold Bit at *
  rw [Int.natAbs_mul, Nat.pow_add]
  exact Nat.mul_lt_mul'' ha hb
theorem Bit.add {a : Nat} {i j : Int} (ha : Bit a i) (hb : Bit a j) : Bit (a + 1) (i + j) := by
  unfold Bit at *
  rw [Nat.pow_succ]; omega
theorem Bit.sub {a : Nat} {i j : Int} (ha : Bit a i) (hb : Bit a j) : Bit (a + 1) (i - j) := by
  unfold Bit at *
  rw [Nat.pow_succ]; omega
theorem Bit.neg {a : Nat} {i : Int} (ha : Bit a i) : Bit a (0 - i) := by
  unfold Bit at *; omega
/-- by a decidable bound -/
theorem Bit.of {n : Nat} {i : Int} (B : Nat) (h : i.natAbs ≤ B) (hB : B < 2 ^ n) : Bit n i := Nat.lt_of_le_of_lt h hB
structure Sz (n : Nat) (q : Rat) : Prop where
  num : Bit n q.num
  den : Bit n (q.den : Int)
theorem Sz.mono {n m : Nat} {q : Rat} (h : Sz n q) (l : n ≤ m) : Sz m q := ⟨h.num.mono l, h.den.mono l⟩
theorem natAbs_ediv_le (a b : Int) : (a / b).natAbs ≤ a.natAbs := Int.natAbs_ediv_le_natAbs a b
theorem Sz.divInt {n : Nat} {t b : Int} (hb : b ≠ 0) (h1 : Bit n t) (h2 : Bit n b) : Sz n (Rat.divInt t b) := by
  constructor
  · rw [← amount_num hb, fdiv_of_dvd (share_dvd_left t b)]
    exact h1.le (natAbs_ediv_le _ _)
  · rw [← amount_den hb, fdiv_of_dvd (share_dvd_right t b)]
    exact h2.le (natAbs_ediv_le _ _)
theorem den_mul_ne (p q : Rat) : (p.den : Int) * (q.den : Int) ≠ 0 := Int.mul_ne_zero (den_ne p) (den_ne q)
theorem Sz.add {a b : Nat} {p q : Rat} (h1 : Sz a p) (h2 : Sz b q) : Sz (a + b + 1) (p + q) := by
  rw [← divInt_add p q]
  refine Sz.divInt (den_mul_ne p q) ?_ ?_
  · have e := (h2.num.mul h1.den); rw [Nat.add_comm] at e
    exact (h1.num.mul h2.den).add e
  · exact (h1.den.mul h2.den).mono (by omega)
theorem Sz.sub {a b : Nat} {p q : Rat} (h1 : Sz a p) (h2 : Sz b q) : Sz (a + b + 1) (p - q) := by
  rw [← divInt_sub p q]
  refine Sz.divInt (den_mul_ne p q) ?_ ?_
  · have e := (h2.num.mul h1.den); rw [Nat.add_comm] at e
    exact (h1.num.mul h2.den).sub e
  · exact (h1.den.mul h2.den).mono (by omega)
theorem Sz.zero : Sz 1 0 := ⟨by show (0:Int).natAbs < 2 ^ 1; decide, by show (1:Int).natAbs < 2 ^ 1; decide⟩
theorem share_le {t b : Int} (h : b ≠ 0) : (share t b).natAbs ≤ b.natAbs := by
  have := Int.natAbs_dvd_natAbs.mpr (share_dvd_right t b)
  exact Nat.le_of_dvd (by omega) this
theorem Sz.half {a : Nat} {p : Rat} (h : Sz a p) : Sz (a + 2) (p / 2) := by
  rw [← divInt_half p]
  refine Sz.divInt (by have := den_ne p; omega) (h.num.mono (by omega)) ?_
  have : Bit 2 2 := by unfold Bit; decide
  exact ((this.mul h.den).mono (by omega))
end Lim
namespace Lim
open PySem PySem.Spec PyProof.Rows L2
/-! defs as they stand, bundled -/
abbrev FnP (K : PySem.W.Frag) (x : Str) (st : Stmt) (dvs : List V) : Prop := ∃ fd, FunD K x x (defArgs st) (defBody st) (defScope st) dvs [] (He.ga K x) fd
/-- a def called by its name keeps its promise; dvs: what the defaults fill in behind the written arguments -/
structure Def (P : Program) (w : World) (K : PySem.W.Frag) (mg : Str → Option Value) (base : Heap) (k : Nat) (x : Str) (ps : List Str) (dvs : List V) (sp : Sp) : Prop where
  ex : ∃ fd ds, FnOk P w K mg base (L2.CX P w) k (He.ga K x) fd ps sp ∧ Vals dvs ds ∧ Binds K fd ps ds
  m : mg x = some (.ref (He.ga K x))
  kp : PySem.W.keepIn K (.ref (He.ga K x)) = true
section
variable {X : Cx} {k : Nat} {ps : List Str} {sp : Sp} {dvs : List V} {x : Str} {p pos : Pos} {e : Expr} {es : List Expr} {t : TA} {W : WX}
/-- f(e, ..), what it raises is wished for at the slots as they stand -/
def tCl (sp : Sp) (dvs : List V) (W : WX) (t : TA) : TE := fun σ H Q => t σ H fun vs H1 => sp (vs ++ dvs) H1 Q fun c d H' => W c d σ H'
/-- .. that raises nothing -/
def tC0 (sp : Sp) (dvs : List V) (t : TA) : TE := fun σ H Q => t σ H fun vs H1 => sp (vs ++ dvs) H1 Q E0
theorem pcl (D : Def X.prog X.w X.K X.mg X.base k x ps dvs sp) (hr : Room k X.A) (tk : Takes X W) (ha : PA X (e :: es) t) (hg : Gl X x := by rfl) (hdb : (x == ("__debug__" : Str)) = false := by decide)
    (he : starEach (e :: es) X.env = (false, eval e X.env) :: starEach es X.env := by rfl) (hpl : (backTo pos (starEach es X.env)).any (·.1) = false := by rfl) :
    PE X (.Call (.Name x p) (e :: es) [] pos) (tCl sp dvs W t) := by
  obtain ⟨⟨fd, ds, F, rd, hb⟩, hm, hk⟩ := D
  refine ⟨fun pins s σ H Q I h => wpAny_Call_Name_kw (ld_glob I hg hm ?_ hdb)⟩
  refine PySem.W.callWith_K (h₀ := X.base) I.ok.mod.kin hk (thn (ha.run pos pins s σ H _ I h) fun us s1 ⟨vs, H1, I1, r, q⟩ => ⟨I1.kIn, ?_⟩) he hpl
  have r2 : Vals (vs ++ dvs) (us ++ ds) := r.append rd
  have hl : (us ++ ds).length = ps.length := r2.length.symm.trans (F.len _ _ _ _ q)
  refine wpAny_call (codeAny_mono (F.run X.A X.stack s1 H1 ⟨us, []⟩ (us ++ ds) (vs ++ dvs) Q _ hr I1.env0 (hb s1 us I1.kIn hl) r2 q) fun z s' hq => ?_)
  cases z with
  | error u => exact passAt tk σ pins H1 s1 u s' I1 hq
  | ok fl =>
    cases fl with
    | ret u => exact I1.after hq
    | next => exact hq.elim
    | brk => exact hq.elim
    | cont => exact hq.elim
theorem pc0 (D : Def X.prog X.w X.K X.mg X.base k x ps dvs sp) (hr : Room k X.A) (ha : PA X (e :: es) t) (hg : Gl X x := by rfl) (hdb : (x == ("__debug__" : Str)) = false := by decide)
    (he : starEach (e :: es) X.env = (false, eval e X.env) :: starEach es X.env := by rfl) (hpl : (backTo pos (starEach es X.env)).any (·.1) = false := by rfl) :
    PE X (.Call (.Name x p) (e :: es) [] pos) (tC0 sp dvs t) := by
  obtain ⟨⟨fd, ds, F, rd, hb⟩, hm, hk⟩ := D
  exact pe_call F hr hg hm hk hb rd passL ha hdb he hpl
end
section
variable {P : Program} {w : World} {K : PySem.W.Frag} {mg : Str → Option Value} {base : Heap}
/-- a def without defaults -/
theorem def_ok {x : Str} {st : Stmt} {N ps : List Str} {k : Nat} {sp : Sp} (g : mg x = some (.ref (He.ga K x))) (F : FnP K x st []) (S : FnScope N ps (defScope st)) (len : ∀ vs H Q E, sp vs H Q E → vs.length = ps.length)
    (hb : ∀ (kV doc pm : Value) (an : Option Addr) (cdv ct : Value) (us : List Value), us.length = ps.length → bindArgs (PySem.W.fnOf x x (defArgs st) (defBody st) (defScope st) .none kV doc pm an cdv ct) ⟨us, []⟩ = pure (ps.zip us))
    (body : ∀ (cdv : Value) (A : Around) (outer : List Env) (s : Shared) (H : Hp) (vs : List V) (Q : VK) (E : XK), Room k (A.deeper (envOfC x (defScope st) s.heap.objs.size (He.ga K x) cdv)) → sp vs H Q E →
      ∃ t, PSs (cxOf (L2.CX P w) P w K mg base N x (defScope st) (He.ga K x) cdv A outer s H E) (defBody st) t ∧ t { nx := fun _ H' => Q .non H', rt := Q } (start N vs) H) :
    Def P w K mg base (k + 1) x ps [] sp := by
  obtain ⟨fd, F⟩ := F
  exact ⟨⟨fd, [], F.ok S len body, .nil, F.bindsN hb⟩, g, F.kp⟩
/-- the same def, called with a default left out: n arguments are written -/
theorem def_dfl {x : Str} {st : Stmt} {N ps : List Str} {k : Nat} {dvs : List V} {sp : Sp} (g : mg x = some (.ref (He.ga K x))) (F : FnP K x st dvs) (n j : Nat) (hd : dvs ≠ []) (hn : n + (dvs.length - j) = ps.length) (S : FnScope N ps (defScope st)) (len : ∀ vs H Q E, sp vs H Q E → vs.length = ps.length)
    (hb : ∀ (T : Addr) (kV doc pm : Value) (an : Option Addr) (cdv ct : Value) (us its : List Value), us.length = n → its.length = dvs.length →
      ∃ k, bindArgs (PySem.W.fnOf x x (defArgs st) (defBody st) (defScope st) (.ref T) kV doc pm an cdv ct) ⟨us, []⟩ = seqItems? (.ref T) >>= k ∧ k (some its.toArray) = pure (ps.zip (us ++ its.drop j)))
    (body : ∀ (cdv : Value) (A : Around) (outer : List Env) (s : Shared) (H : Hp) (vs : List V) (Q : VK) (E : XK), Room k (A.deeper (envOfC x (defScope st) s.heap.objs.size (He.ga K x) cdv)) → sp vs H Q E →
      ∃ t, PSs (cxOf (L2.CX P w) P w K mg base N x (defScope st) (He.ga K x) cdv A outer s H E) (defBody st) t ∧ t { nx := fun _ H' => Q .non H', rt := Q } (start N vs) H) :
    Def P w K mg base (k + 1) x ps (dvs.drop j) sp := by
  obtain ⟨fd, F⟩ := F
  obtain ⟨ds, r, b⟩ := F.binds1 n j hd hn hb
  exact ⟨⟨fd, ds, F.ok S len body, r, b⟩, g, F.kp⟩
end
/-! operations -/
structure CDv (i j : Int) : Prop where
  nz : j ≠ 0
  lt : j.natAbs.log2 < 9000
structure CNz (i j : Int) : Prop where
  nz : j ≠ 0
section
variable {X : Cx}
theorem op_dv : OpR X (binaryOp .FloorDiv) (rI CDv fun i j => .int (i.fdiv j)) := opI fun i j _ _ _ _ _ hc q => floordiv_int hc.nz q (.inl (PyProof.noPylong_of_log2 hc.lt))
theorem op_md : OpR X (binaryOp .Mod) (rI CNz fun i j => .int (i.fmod j)) := opI fun i j _ _ _ _ _ hc q => PyProof.Rows.mod_int hc.nz q
end
/-! ifs -/
theorem ifd {p : Prop} [Decidable p] {A B : Prop} (h1 : p → A) (h2 : ¬ p → B) : if decide p = true then A else B := by
  by_cases h : p
  · rw [if_pos (decide_eq_true h)]; exact h1 h
  · rw [if_neg (by simpa using h)]; exact h2 h
theorem ifn {p : Prop} [Decidable p] {A B : Prop} (h1 : ¬ p → A) (h2 : p → B) : if (!decide p) = true then A else B := by
  by_cases h : p
  · rw [if_neg (by simpa using h)]; exact h2 h
  · rw [if_pos (by simpa using h)]; exact h1 h
theorem ifb {b : Bool} {A B : Prop} (h1 : b = true → A) (h2 : b = false → B) : if b = true then A else B := by
  cases b
  · exact h2 rfl
  · exact h1 rfl
theorem ifv {p : V → V → Prop} {i j : Int} {A B : Prop} (h1 : i = j → A) (h2 : i ≠ j → B) : if decide (V.int i = V.int j) = true then A else B := by
  by_cases h : i = j
  · rw [if_pos (by rw [h]; simp)]; exact h1 h
  · rw [if_neg (by simpa using h)]; exact h2 h
/-! heaps -/
theorem Same.tup {K : PySem.W.Frag} {H H' : Hp} {a : Addr} {xs : List V} (e : Same H H') (h : SqT K H a xs) : SqT K H' a xs := by
  rcases h with (h | ⟨o, h⟩) | h
  · exact .inl (.inl (e _ _ h))
  · exact .inl (.inr ⟨o, e _ _ h⟩)
  · exact .inr h
theorem Same.new {H : Hp} {p : Addr} {o : HO} (h : H p = none) : Same H (upd H p o) := fun b x e => by rw [upd_ne (ne_of_none e h)]; exact e
end Lim
namespace Lim
open PySem PySem.Spec PyProof.Rows L2
section
variable {X : Cx}
theorem op_ml : OpR X (binaryOp .Mult) (rI IntMulOk fun i j => .int (i * j)) := opI fun _ _ _ _ _ _ _ hc q => PyProof.Rows.mul_int q hc
theorem pe_gint {x : Str} {i : Int} {pos : Pos} (h : ∃ t, X.mg x = some (.int i t)) (hg : Gl X x := by rfl) (hdb : (x == ("__debug__" : Str)) = false := by decide) : PE X (.Name x pos) (tC (.int i)) := by
  obtain ⟨t, h⟩ := h
  exact pe_glob hg h ⟨t, rfl⟩ hdb
theorem pe_gstr {x z : Str} {pos : Pos} (h : ∃ t, X.mg x = some (.str z t)) (hg : Gl X x := by rfl) (hdb : (x == ("__debug__" : Str)) = false := by decide) : PE X (.Name x pos) (tC (.str z)) := by
  obtain ⟨t, h⟩ := h
  exact pe_glob hg h ⟨t, rfl⟩ hdb
/-! loops, closed up: the walk stops there -/
@[irreducible] def LoopR (J : It) (g : TG) (tb : TS) (D : Ends) (σ : L2.St) (H1 : Hp) : Prop := ∃ W : Nat → Nat → L2.St → Hp → Prop, (∃ m, W 0 m σ H1) ∧ ∀ i m σ H, W i m σ H →
  (J.stop i H ∧ D.nx σ H) ∨ (J.go i H ∧ ∃ N : L2.St → Hp → Prop, (∀ σ' H', N σ' H' → ∃ m', m' < m ∧ W (i + 1) m' σ' H') ∧ ∀ x H', J.yld i H x H' → g x σ H' fun σ2 H2 => tb { D with nx := N, ct := N, bk := D.nx } σ2 H2)
def tF (wi : TI) (g : TG) (tb : TS) : TS := fun D σ H => wi σ H fun J H1 => LoopR J g tb D σ H1
theorem tF_eq : @tF = @tFor := by funext a b c D σ H; unfold tF tFor LoopR; rfl
@[irreducible] def tW (c : TT) (tb : TS) : TS := tWhile c tb
theorem tW_eq : @tW = @tWhile := by funext a b; unfold tW; rfl
theorem ps_fo {tg iter : Expr} {body : List Stmt} {wi : TI} {g : TG} {tb : TS} {pos : Pos} (hp : PassesOwn (model X.prog X.w) X.A X.env X.xe) (hc : X.calm = true) (hi : PI X tg iter wi) (hg : PG X tg g) (hb : PSs X body tb)
    (hs : ∀ x, foldedSetIterable iter X.env x = pure x := by intro _; rfl) : PS X (.For tg iter body [] pos) (tF wi g tb) := by
  rw [tF_eq]; exact ps_for hp hc hi hg hb hs
theorem ps_wh {c : Expr} {body : List Stmt} {tc : TT} {tb : TS} {pos : Pos} (hp : PassesOwn (model X.prog X.w) X.A X.env X.xe) (hc : PT X c tc) (hb : PSs X body tb) : PS X (.While c body [] pos) (tW tc tb) := by
  rw [tW_eq]; exact ps_while hp hc hb
/-- the ways behind a statement joined -/
@[irreducible] def tK (t u : TS) : TS := fun D σ H => ∃ Mid : L2.St → Hp → Prop, t { D with nx := Mid } σ H ∧ ∀ σ' H', Mid σ' H' → u D σ' H'
theorem pss_k {st : Stmt} {rest : List Stmt} {t u : TS} (h1 : PS X st t) (h2 : PSs X rest u) : PSs X (st :: rest) (tK t u) := by
  refine ⟨fun pins s σ H D I h => ?_⟩
  unfold tK at h
  obtain ⟨Mid, hm, hu⟩ := h
  refine wpAny_execs_cons (thn (h1.run pins s σ H { D with nx := Mid } I hm) fun f s1 q => ?_)
  cases f with
  | next =>
    obtain ⟨σ', H', I', q⟩ := q
    exact h2.run pins s1 σ' H' D I' (hu σ' H' q)
  | ret v => exact q
  | brk => exact q
  | cont => exact q
@[irreducible] def LcR (J : It) (g : TG) (tt : TT) (te : TE) (vs : List Nat) (σ : L2.St) (D : Addr) (H1 : Hp) (Q : VK) : Prop := ∃ W : Nat → Nat → Hp → Prop, (∃ m, W 0 m (upd H1 D (.lst []))) ∧ ∀ i m H, W i m H →
  (J.stop i H ∧ Q (.ref D) H) ∨ (J.go i H ∧ ∃ Nx : Hp → Prop, (∀ H', Nx H' → ∃ m', m' < m ∧ W (i + 1) m' H') ∧ ∀ x H', J.yld i H x H' → g x (wipe σ vs) H' fun σ2 H2 => wipe σ2 vs = wipe σ vs ∧ tt σ2 H2 fun b H3 =>
    if b = true then te σ2 H3 fun y H4 => ∃ acc, H4 D = some (.lst acc) ∧ acc.length < sizeLine ∧ Nx (upd H4 D (.lst (acc ++ [y]))) else Nx H3)
def tL (wi : TI) (g : TG) (tt : TT) (te : TE) (vs : List Nat) : TE := fun σ H Q => wi σ H fun J H1 => ∀ D, H1 D = none → LcR J g tt te vs σ D H1 Q
theorem tL_eq : @tL = @tLc := by funext a b c d e σ H Q; unfold tL tLc LcR; rfl
theorem pe_l {elt tg iter : Expr} {ifs : List Expr} {scope : Scope} {own : List (Str × Nat)} {pos : Pos} {wi : TI} {g : TG} {tt : TT} {te : TE} (hc : X.calm = true) (hN : X.N.Nodup) (hi : PI X tg iter wi) (ok : BlkOk X.N X.env.scope scope own)
    (hg : ∀ (s : Shared) (H : Hp) (C : Addr) (cl : List (Str × Addr)) (fp : List Addr), PG (X.blk s H scope (compEnvC scope cl C X.env) fp) tg g) (ht : ∀ (s : Shared) (H : Hp) (C : Addr) (cl : List (Str × Addr)) (fp : List Addr), PTs (X.blk s H scope (compEnvC scope cl C X.env) fp) ifs tt)
    (he : ∀ (s : Shared) (H : Hp) (C : Addr) (cl : List (Str × Addr)) (fp : List Addr), PE (X.blk s H scope (compEnvC scope cl C X.env) fp) elt te) (hs : ∀ x, foldedSetIterable iter X.env x = pure x := by intro _; rfl) :
    PE X (.ListComp elt [⟨tg, iter, ifs, 0⟩] scope pos) (tL wi g tt te (own.map (·.2))) := by
  rw [tL_eq]; exact pe_lc hc hN hi ok hg ht he hs
end
section
variable {K : PySem.W.Frag} {g : TG} {tb : TS} {D : Ends} {σ : L2.St} {H : Hp}
theorem k_by {t u : TS} (Mid : L2.St → Hp → Prop) (h1 : t { D with nx := Mid } σ H) (h2 : ∀ σ' H', Mid σ' H' → u D σ' H') : tK t u D σ H := by
  unfold tK; exact ⟨Mid, h1, h2⟩
/-- Pv i holds ahead of turn i -/
theorem lr_list {a : Addr} {xs : List V} (Pv : Nat → L2.St → Hp → Prop) (p0 : Pv 0 σ H) (hl : ∀ i σ H, i ≤ xs.length → Pv i σ H → SqL K H a xs)
    (hs : ∀ i x σ H, xs[i]? = some x → Pv i σ H → g x σ H fun σ2 H2 => tb { D with nx := Pv (i + 1), ct := Pv (i + 1), bk := D.nx } σ2 H2) (hd : ∀ σ H, Pv xs.length σ H → D.nx σ H) : LoopR (Itl K a) g tb D σ H := by
  unfold LoopR; exact for_list Pv p0 hl hs hd
theorem lr_tup {a : Addr} {xs : List V} (Pv : Nat → L2.St → Hp → Prop) (p0 : Pv 0 σ H) (hl : ∀ i σ H, i ≤ xs.length → Pv i σ H → SqT K H a xs)
    (hs : ∀ i x σ H, xs[i]? = some x → Pv i σ H → g x σ H fun σ2 H2 => tb { D with nx := Pv (i + 1), ct := Pv (i + 1), bk := D.nx } σ2 H2) (hd : ∀ σ H, Pv xs.length σ H → D.nx σ H) : LoopR (Itt K a) g tb D σ H := by
  unfold LoopR; exact for_tup Pv p0 hl hs hd
theorem lr_range {lo : Int} {n : Nat} (Pv : Nat → L2.St → Hp → Prop) (p0 : Pv 0 σ H)
    (hs : ∀ i σ H, i < n → Pv i σ H → g (.int (lo + i)) σ H fun σ2 H2 => tb { D with nx := Pv (i + 1), ct := Pv (i + 1), bk := D.nx } σ2 H2) (hd : ∀ σ H, Pv n σ H → D.nx σ H) : LoopR (Itr lo n) g tb D σ H := by
  unfold LoopR; exact for_range Pv p0 hs hd
/-- what is held ahead of a while's next turn -/
def WN (Pv : L2.St → Hp → Prop) (m : L2.St → Nat) (k : Nat) : L2.St → Hp → Prop := fun σ H => m σ < k ∧ Pv σ H
theorem wn {Pv : L2.St → Hp → Prop} {m : L2.St → Nat} {k : Nat} : ∀ σ' H', WN Pv m k σ' H' → ∃ m', m' < k ∧ (m' = m σ' ∧ Pv σ' H') := fun _ _ h => ⟨_, h.1, rfl, h.2⟩
theorem wh_by {c : TT} (Pv : L2.St → Hp → Prop) (m : L2.St → Nat) (h0 : Pv σ H)
    (hs : ∀ σ H, Pv σ H → c σ H fun b H1 => if b = true then ∃ N : L2.St → Hp → Prop, (∀ σ' H', N σ' H' → ∃ m', m' < m σ ∧ (m' = m σ' ∧ Pv σ' H')) ∧ tb { D with nx := N, ct := N, bk := D.nx } σ H1 else D.nx σ H1) : tW c tb D σ H := by
  rw [tW_eq]
  refine ⟨fun n σ H => n = m σ ∧ Pv σ H, ⟨_, rfl, h0⟩, ?_⟩
  rintro n σ H ⟨rfl, p⟩
  exact hs σ H p
end
/-! the end of a law -/
theorem walk_ofEB {l : PySem.W.OpenLaw} {n k : Nat} {q : Program} {loose : List Str} {XP : (Str → Option Value) → Heap → Prop} {YP : World → Heap → Prop} {d : DefRec} {x : Str}
    (hn : l.most = some n) (hn2 : n ≤ sizeLine) (hdf : d.params.defaults = []) (hr : Room k callerA)
    (F : ∀ (w : World) (mg : Str → Option Value) (fa : Addr) (h : Heap), YP w h → h.Ns mainGlobals mg → mg d.name = some (.ref fa) →
      ∃ (K : PySem.W.Frag) (fd : FuncData) (sp : Sp), K.In h ∧ (∀ (s : Shared) (u : Value), BindsTo s fd ⟨[u], []⟩ [(x, u)]) ∧
        (∀ (H : Hp) (a : Addr) (ns : List Int), ns.length ≤ n → (∀ z ∈ ns, Builtin.Int.intBits z ≤ 1048576) → Only H → SqL K H a (ns.map V.int) → sp [.ref a] H (fun v _ => v = .bl true) fun _ _ _ => False) ∧
        ∀ base : Heap, K.In base → base.Ns mainGlobals mg → FnOk l.prog w K mg base (L2.CX l.prog w) k fa fd [x] sp) :
    PySem.W.WalkO q loose XP YP l.row.toRowW d [] (fun f vs => PySem.call f vs) := by
  refine Att.attach_callB hn hdf fun w s0 s1 mg mb fa o pm cd doc a vs ns G Y ho hd hcd hmg hobj hints hlen hbits hg => ?_
  obtain ⟨K, fd, sp, KX, hb, hsp, hF⟩ := F w mg fa _ Y G.T.g hmg
  refine law_call KX G.T.g G.T.b G.T.builtins G.T.nolimit hg hobj hints (Nat.le_trans hlen hn2) hr hF hb (fun H hO hS => hsp H a ns hlen hbits hO hS) fun H e s' z => ?_
  obtain ⟨_, _, _, _, _, _, _, _, _, _, _, _, z⟩ := z
  exact z
/-! what isinstance asks -/
theorem ty_tup {K : PySem.W.Frag} {H : Hp} {a : Addr} {xs : List V} (h : SqT K H a xs) : TyX K H (.ref a) (.type "tuple") := by
  rcases h with (h | ⟨o, h⟩) | ⟨o, its, n, h1, h2, _⟩
  · exact .base (.tup h)
  · exact .fTuple h
  · exact .kTuple h1 h2
theorem ty_lst {K : PySem.W.Frag} {H : Hp} {a : Addr} {xs : List V} (h : SqL K H a xs) : TyX K H (.ref a) (.type "list") := by
  rcases h with (h | ⟨o, h⟩) | ⟨o, its, n, h1, h2, _⟩
  · exact .base (.lst h)
  · exact .base (.frz h)
  · exact .kList h1 h2
section
variable {K : PySem.W.Frag}
theorem kt_ii : PySem.W.kitOne K (.type "int") (.type "int") = some true := kit_ty (by decide +kernel)
theorem kt_ib : PySem.W.kitOne K (.type "int") (.type "bool") = some false := kit_ty (by decide +kernel)
theorem kt_bi : PySem.W.kitOne K (.type "bool") (.type "int") = some true := kit_ty (by decide +kernel)
theorem kt_bb : PySem.W.kitOne K (.type "bool") (.type "bool") = some true := kit_ty (by decide +kernel)
theorem kt_tt : PySem.W.kitOne K (.type "tuple") (.type "tuple") = some true := kit_ty (by decide +kernel)
theorem kt_ss : PySem.W.kitOne K (.type "str") (.type "str") = some true := kit_ty (by decide +kernel)
theorem kt_ll : PySem.W.kitOne K (.type "list") (.type "list") = some true := kit_ty (by decide +kernel)
theorem kt_ni : PySem.W.kitOne K (.type "NoneType") (.type "int") = some false := kit_ty (by decide +kernel)
theorem kt_si : PySem.W.kitOne K (.type "str") (.type "int") = some false := kit_ty (by decide +kernel)
theorem kt_ti : PySem.W.kitOne K (.type "tuple") (.type "int") = some false := kit_ty (by decide +kernel)
theorem kt_li : PySem.W.kitOne K (.type "list") (.type "int") = some false := kit_ty (by decide +kernel)
theorem kt_di : PySem.W.kitOne K (.type "dict") (.type "int") = some false := kit_ty (by decide +kernel)
end
end Lim
namespace Lim
open PySem PySem.Spec PyProof.Rows L2
/-! data in the heap -/
mutual
theorem dp_same {K : PySem.W.Frag} {H H' : Hp} (e : Same H H') : ∀ {d : PyData} {v : V}, Dp K H v d → Dp K H' v d
  | .none, _, h => by cases h; exact .non
  | .bool b, _, h => by cases h; exact .bl b
  | .int i, _, h => by cases h; exact .int i
  | .str x, _, h => by cases h; exact .str x
  | .list ds, _, h => by
    cases h with
    | lst s a => exact .lst (e.seq s) (dps_same e a)
  | .tuple ds, _, h => by
    cases h with
    | tup s a => exact .tup (Same.tup e s) (dps_same e a)
  | .dict _, _, h => by cases h
theorem dps_same {K : PySem.W.Frag} {H H' : Hp} (e : Same H H') : ∀ {ds : List PyData} {vs : List V}, DpAll K H vs ds → DpAll K H' vs ds
  | [], _, h => by cases h; exact .nil
  | d :: ds, _, h => by
    cases h with
    | cons a b => exact .cons (dp_same e a) (dps_same e b)
end
section
variable {K : PySem.W.Frag} {H H' : Hp} {v : V}
theorem dp_tup {ds : List PyData} (h : Dp K H v (.tuple ds)) : ∃ a xs, v = .ref a ∧ SqT K H a xs ∧ DpAll K H xs ds := by
  cases h with
  | tup s a => exact ⟨_, _, rfl, s, a⟩
theorem dp_lst {ds : List PyData} (h : Dp K H v (.list ds)) : ∃ a xs, v = .ref a ∧ SqL K H a xs ∧ DpAll K H xs ds := by
  cases h with
  | lst s a => exact ⟨_, _, rfl, s, a⟩
theorem dp_int {i : Int} (h : Dp K H v (.int i)) : v = .int i := by cases h; rfl
theorem dp_str {x : Str} (h : Dp K H v (.str x)) : v = .str x := by cases h; rfl
theorem dps_len {xs : List V} : ∀ {ds : List PyData}, DpAll K H xs ds → xs.length = ds.length := by
  intro ds
  induction ds generalizing xs with
  | nil => intro h; cases h; rfl
  | cons d ds ih =>
    intro h
    cases h with
    | cons a b => simp [ih b]
theorem dps_get : ∀ {ds : List PyData} {xs : List V} {i : Nat} {d : PyData}, DpAll K H xs ds → ds[i]? = some d → ∃ v, xs[i]? = some v ∧ Dp K H v d
  | [], _, _, _, _, e => by simp at e
  | d' :: ds, _, 0, d, .cons a b, e => by simp at e; subst e; exact ⟨_, rfl, a⟩
  | d' :: ds, _, i + 1, d, .cons a b, e => by
    obtain ⟨v, h1, h2⟩ := dps_get (i := i) b (by simpa using e)
    exact ⟨v, by simpa using h1, h2⟩
theorem dps_at {xs : List V} {i : Nat} {v : V} : ∀ {ds : List PyData}, DpAll K H xs ds → xs[i]? = some v → ∃ d, ds[i]? = some d ∧ Dp K H v d := by
  intro ds
  induction ds generalizing xs i with
  | nil => intro h e; cases h; simp at e
  | cons d' ds ih =>
    intro h e
    cases h with
    | cons a b =>
      cases i with
      | zero => simp at e; subst e; exact ⟨_, rfl, a⟩
      | succ i => exact ih b (by simpa using e)
theorem dps_map_at {α : Type} {f : α → PyData} {l : List α} {xs : List V} {i : Nat} {x : V} (hA : DpAll K H xs (l.map f)) (hx : xs[i]? = some x) : ∃ q, l[i]? = some q ∧ Dp K H x (f q) := by
  obtain ⟨d, h1, h2⟩ := dps_at hA hx
  rw [List.getElem?_map] at h1
  cases e : l[i]? with
  | none => rw [e] at h1; cases h1
  | some q =>
    rw [e] at h1
    cases (Option.some.inj h1 : f q = d)
    exact ⟨q, rfl, h2⟩
theorem dps_sub {f : List V → List V} {g : List PyData → List PyData} (hf : ∀ {xs : List V} {ds : List PyData}, DpAll K H xs ds → DpAll K H (f xs) (g ds)) {xs : List V} {ds : List PyData} (h : DpAll K H xs ds) : DpAll K H (f xs) (g ds) := hf h
theorem dps_dropLast : ∀ {ds : List PyData} {xs : List V}, DpAll K H xs ds → DpAll K H xs.dropLast ds.dropLast
  | [], _, .nil => .nil
  | [_], _, .cons _ .nil => .nil
  | _ :: _ :: _, _, .cons a (.cons b c) => .cons a (dps_dropLast (.cons b c))
theorem dps_rev : ∀ {ds : List PyData} {xs : List V}, DpAll K H xs ds → DpAll K H xs.reverse ds.reverse
  | [], _, .nil => .nil
  | d :: ds, _, .cons (v := v) (vs := vs) a b => by
    rw [List.reverse_cons, List.reverse_cons]
    have ih := dps_rev b
    have one : DpAll K H [v] [d] := .cons a .nil
    revert ih
    generalize vs.reverse = as
    generalize ds.reverse = bs
    intro ih
    clear b
    induction bs generalizing as with
    | nil => cases ih; exact one
    | cons c bs ih2 =>
      cases ih with
      | cons p q => exact .cons p (ih2 _ q)
theorem dps_app {xs ys : List V} : ∀ {ds es : List PyData}, DpAll K H xs ds → DpAll K H ys es → DpAll K H (xs ++ ys) (ds ++ es) := by
  intro ds
  induction ds generalizing xs with
  | nil => intro es h g; cases h; exact g
  | cons d' ds ih =>
    intro es h g
    cases h with
    | cons a b => exact .cons a (ih b g)
end
/-- an amount -/
def amtD (q : Rat) : PyData := .tuple [.int q.num, .int (q.den : Int)]
abbrev Amt (K : PySem.W.Frag) (H : Hp) (v : V) (q : Rat) : Prop := Dp K H v (amtD q)
theorem amt_inv {K : PySem.W.Frag} {H : Hp} {v : V} {q : Rat} (h : Amt K H v q) : ∃ a, v = .ref a ∧ SqT K H a [.int q.num, .int (q.den : Int)] := by
  obtain ⟨a, xs, rfl, s, d⟩ := dp_tup h
  cases d with
  | cons h1 d => cases d with
    | cons h2 d =>
      cases d
      rw [dp_int h1, dp_int h2] at s
      exact ⟨a, rfl, s⟩
theorem amt_mk {K : PySem.W.Frag} {H : Hp} {a : Addr} {q : Rat} {n d : Int} (h : SqT K H a [.int n, .int d]) (h1 : n = q.num) (h2 : d = (q.den : Int)) : Amt K H (.ref a) q := by
  subst h1 h2
  exact .tup h (.cons (.int _) (.cons (.int _) .nil))
/-- the result is a new thing that reads as d; what stood stands -/
def Ret (K : PySem.W.Frag) (H : Hp) (Q : VK) (d : PyData) : Prop := ∀ v H', Same H H' → Dp K H' v d → Q v H'
/-- closed up: the walk does not look in -/
structure Bx (p : Prop) : Prop where
  o : p
/-! sizes -/
theorem mulok {a b : Nat} {i j : Int} (ha : Bit a i) (hb : Bit b j) (h : a + b ≤ 999000) : IntMulOk i j :=
  (wide_mul (a := a + 1) (b := b + 1) (ha.mono (by omega)) (hb.mono (by omega)) (by omega) (by omega) (by omega)).ok
theorem dvok {b : Nat} {i j : Int} (h : j ≠ 0) (hb : Bit b j) (h9 : b ≤ 8999) : CDv i j := by
  refine ⟨h, ?_⟩
  have := PySem.Flt.log2_lt_of (n := j.natAbs) (k := b + 1) (by omega) (hb.mono (by omega : b ≤ b + 1))
  omega
theorem dv_lit {i j : Int} (h : (decide (j ≠ 0) && decide (j.natAbs.log2 < 9000)) = true) : CDv i j := by
  simp only [Bool.and_eq_true, decide_eq_true_eq] at h
  exact ⟨h.1, h.2⟩
theorem nz_lit {i j : Int} (h : decide (j ≠ 0) = true) : CNz i j := ⟨of_decide_eq_true h⟩
theorem ml_lit {i j : Int} (h : decide (i.natAbs.log2 + j.natAbs.log2 < 1000000) = true) : IntMulOk i j := CMulW.ok (show i.natAbs.log2 + j.natAbs.log2 < 1000000 from of_decide_eq_true h)
theorem sz0 : 0 ≤ sizeLine := by decide
theorem sz1 : 1 ≤ sizeLine := by decide
theorem sz2 : 2 ≤ sizeLine := by decide
theorem sz3 : 3 ≤ sizeLine := by decide
theorem sz4 : 4 ≤ sizeLine := by decide
theorem sz5 : 5 ≤ sizeLine := by decide
/-! items -/
theorem cut_last (xs : List V) : cutV xs none (some (-1)) = xs.dropLast := by
  unfold cutV
  rw [HT.sIx_none, List.drop_zero, List.dropLast_eq_take]
  congr 1
  show (if (-1 : Int) < 0 then ((-1 : Int) + (xs.length : Int)).toNat else min (-1 : Int).toNat xs.length) - 0 = xs.length - 1
  rw [if_pos (by decide)]; omega
theorem cut_nat (xs : List V) (a b : Nat) (h : a ≤ b) : cutV xs (some (a : Int)) (some (b : Int)) = (xs.drop a).take (b - a) := by
  unfold cutV
  rw [HT.sIx_nat, HT.sIx_nat]
  by_cases h1 : a ≤ xs.length
  · rw [Nat.min_eq_left h1]
    by_cases h2 : b ≤ xs.length
    · rw [Nat.min_eq_left h2]
    · rw [Nat.min_eq_right (by omega), List.take_of_length_le (by rw [List.length_drop]; omega), List.take_of_length_le (by rw [List.length_drop]; omega)]
  · rw [Nat.min_eq_right (by omega), Nat.min_eq_right (by omega), List.drop_of_length_le (Nat.le_refl _), List.drop_of_length_le (by omega)]
    simp
theorem cut_to (xs : List V) (b : Nat) : cutV xs none (some (b : Int)) = xs.take b := by
  unfold cutV
  rw [HT.sIx_none, HT.sIx_nat, List.drop_zero, Nat.sub_zero]
  by_cases h2 : b ≤ xs.length
  · rw [Nat.min_eq_left h2]
  · rw [Nat.min_eq_right (by omega), List.take_length, List.take_of_length_le (by omega)]
theorem cut_from (xs : List V) (a : Nat) : cutV xs (some (a : Int)) none = xs.drop a := by
  unfold cutV
  rw [HT.sIx_none, HT.sIx_nat]
  by_cases h1 : a ≤ xs.length
  · rw [Nat.min_eq_left h1, List.take_of_length_le (by rw [List.length_drop]; omega)]
  · rw [Nat.min_eq_right (by omega), List.drop_of_length_le (Nat.le_refl _), List.drop_of_length_le (by omega)]
    simp
theorem at0 {x : V} {r : List V} : atI (x :: r) 0 = some x := atI_nat (j := 0) rfl
theorem at1 {x y : V} {r : List V} : atI (x :: y :: r) 1 = some y := atI_nat (j := 1) rfl
theorem at_ints {ns : List Int} {j : Nat} (h : j < ns.length) : atI (ns.map V.int) (j : Int) = some (.int (ns.getD j 0)) := by
  refine atI_nat (j := j) ?_
  rw [List.getElem?_map, List.getD_eq_getElem?_getD, List.getElem?_eq_getElem h]; rfl
theorem sqt_new {K : PySem.W.Frag} {H : Hp} {p : Addr} {xs : List V} : SqT K (upd H p (.tup xs)) p xs := .inl (.inl upd_same)
theorem sql_new {K : PySem.W.Frag} {H : Hp} {p : Addr} {xs : List V} : SqL K (upd H p (.lst xs)) p xs := .inl (.inl upd_same)
theorem qb {Q : VK} {H : Hp} {b c : Bool} (h : b = c) (k : Q (.bl c) H) : Q (.bl b) H := h ▸ k
theorem qv {Q : VK} {H : Hp} {v u : V} (h : v = u) (k : Q u H) : Q v H := h ▸ k
/-! ifs over values -/
theorem vint {i j : Int} : (V.int i = V.int j) = (i = j) := by simp
theorem vstr {i j : Str} : (V.str i = V.str j) = (i = j) := by simp
theorem ifI {i j : Int} {A B : Prop} (h1 : i = j → A) (h2 : i ≠ j → B) : if decide (V.int i = V.int j) = true then A else B := ifd (fun h => h1 (by simpa using h)) (fun h => h2 (by simpa using h))
theorem ifnI {i j : Int} {A B : Prop} (h1 : i ≠ j → A) (h2 : i = j → B) : if (!decide (V.int i = V.int j)) = true then A else B := ifn (fun h => h1 (by simpa using h)) (fun h => h2 (by simpa using h))
theorem ifS {i j : Str} {A B : Prop} (h1 : i = j → A) (h2 : i ≠ j → B) : if decide (V.str i = V.str j) = true then A else B := ifd (fun h => h1 (by simpa using h)) (fun h => h2 (by simpa using h))
theorem ifnS {i j : Str} {A B : Prop} (h1 : i ≠ j → A) (h2 : i = j → B) : if (!decide (V.str i = V.str j)) = true then A else B := ifn (fun h => h1 (by simpa using h)) (fun h => h2 (by simpa using h))
theorem ifT {b : Bool} {A B : Prop} (hb : b = true) (h : A) : if b = true then A else B := by rw [if_pos hb]; exact h
theorem ifF {b : Bool} {A B : Prop} (hb : b = false) (h : B) : if b = true then A else B := by rw [if_neg (by simp [hb])]; exact h
end Lim
namespace Lim
open PySem PySem.Spec PyProof.Rows L2
/-! shapes of data that == asks for -/
structure Shp (k : Nat) (d : PyData) : Prop where
  lay : d.canLay0 = true
  dep : d.depth ≤ k
theorem Shp.mono {j k : Nat} {d : PyData} (h : Shp j d) (l : j ≤ k) : Shp k d := ⟨h.lay, Nat.le_trans h.dep l⟩
theorem Shp.ok {k : Nat} {d : PyData} (h : Shp k d) (l : k ≤ 64) : SeqAt.shaped d = true := by
  show (d.canLay0 && decide (d.depth ≤ 64)) = true
  rw [h.lay, decide_eq_true (Nat.le_trans h.dep l)]; rfl
theorem shp_int {k : Nat} (i : Int) : Shp k (.int i) := ⟨by simp [PyData.canLay0], by simp [PyData.depth]⟩
theorem shp_bool {k : Nat} (b : Bool) : Shp k (.bool b) := ⟨by simp [PyData.canLay0], by simp [PyData.depth]⟩
theorem shp_none {k : Nat} : Shp k .none := ⟨by simp [PyData.canLay0], by simp [PyData.depth]⟩
theorem shp_str {k : Nat} {x : Str} (h : PyData.strOk x = true) : Shp k (.str x) := ⟨by simpa [PyData.canLay0] using h, by simp [PyData.depth]⟩
theorem shp_all {k : Nat} : ∀ {ds : List PyData}, (∀ d ∈ ds, Shp k d) → PyData.canLayAll0 ds = true ∧ PyData.depthAll ds ≤ k
  | [], _ => ⟨by simp [PyData.canLayAll0], by simp [PyData.depthAll]⟩
  | d :: ds, h => by
    have h1 := h d (List.mem_cons_self ..)
    have h2 := shp_all fun x hx => h x (List.mem_cons_of_mem _ hx)
    refine ⟨?_, ?_⟩
    · rw [PyData.canLayAll0, h1.lay, h2.1]; rfl
    · rw [PyData.depthAll]; exact Nat.max_le.mpr ⟨h1.dep, h2.2⟩
theorem shp_list {k : Nat} {ds : List PyData} (h : ∀ d ∈ ds, Shp k d) : Shp (k + 1) (.list ds) := by
  have := shp_all h
  exact ⟨by rw [PyData.canLay0]; exact this.1, by rw [PyData.depth]; omega⟩
theorem shp_tup {k : Nat} {ds : List PyData} (h : ∀ d ∈ ds, Shp k d) : Shp (k + 1) (.tuple ds) := by
  have := shp_all h
  exact ⟨by rw [PyData.canLay0]; exact this.1, by rw [PyData.depth]; omega⟩
theorem shp_amt {k : Nat} (q : Rat) : Shp (k + 1) (amtD q) := shp_tup fun d hd => by
  rcases List.mem_cons.mp hd with rfl | hd
  · exact shp_int _
  · rcases List.mem_cons.mp hd with rfl | hd
    · exact shp_int _
    · cases hd
theorem Shp.refl {k : Nat} {d : PyData} (h : Shp k d) : PyData.eqv d d = true := PySem.SeqAt.eqv_refl d h.lay
theorem eqv_nil (ds : List PyData) : PyData.eqv (.list ds) (.list []) = ds.isEmpty := by
  cases ds <;> rfl
/-! a list of one's own is changed: what else stands -/
theorem Same.mut {H H' : Hp} {p : Addr} {o : HO} (e : Same H H') (h : H p = none) : Same H (upd H' p o) := fun b x q => by rw [upd_ne (ne_of_none q h)]; exact e b x q
theorem sqt_mut {K : PySem.W.Frag} {H : Hp} {p a : Addr} {o : HO} {xs ys : List V} (hp : H p = some (.lst ys)) (h : SqT K H a xs) : SqT K (upd H p o) a xs := by
  rcases h with (h | ⟨u, h⟩) | h
  · exact .inl (.inl (by rw [upd_ne (ne_of h hp (fun z => nomatch z))]; exact h))
  · exact .inl (.inr ⟨u, by rw [upd_ne (ne_of h hp (fun z => nomatch z))]; exact h⟩)
  · exact .inr h
theorem sql_mut {K : PySem.W.Frag} {H : Hp} {p a : Addr} {o : HO} {xs : List V} (hn : a ≠ p) (h : SqL K H a xs) : SqL K (upd H p o) a xs := by
  rcases h with (h | ⟨u, h⟩) | h
  · exact .inl (.inl (by rw [upd_ne hn]; exact h))
  · exact .inl (.inr ⟨u, by rw [upd_ne hn]; exact h⟩)
  · exact .inr h
mutual
/-- no list within -/
def noL : PyData → Bool
  | .list _ => false
  | .dict _ => false
  | .tuple ds => noLs ds
  | _ => true
def noLs : List PyData → Bool
  | [] => true
  | d :: ds => noL d && noLs ds
end
mutual
theorem dp_mut {K : PySem.W.Frag} {H : Hp} {p : Addr} {o : HO} {ys : List V} (hp : H p = some (.lst ys)) : ∀ {d : PyData} {v : V}, noL d = true → Dp K H v d → Dp K (upd H p o) v d
  | .none, _, _, h => by cases h; exact .non
  | .bool b, _, _, h => by cases h; exact .bl b
  | .int i, _, _, h => by cases h; exact .int i
  | .str x, _, _, h => by cases h; exact .str x
  | .list ds, _, n, h => by simp [noL] at n
  | .tuple ds, _, n, h => by
    cases h with
    | tup s a => exact .tup (sqt_mut hp s) (dps_mut hp (by simpa [noL] using n) a)
  | .dict _, _, _, h => by cases h
theorem dps_mut {K : PySem.W.Frag} {H : Hp} {p : Addr} {o : HO} {ys : List V} (hp : H p = some (.lst ys)) : ∀ {ds : List PyData} {vs : List V}, noLs ds = true → DpAll K H vs ds → DpAll K (upd H p o) vs ds
  | [], _, _, h => by cases h; exact .nil
  | d :: ds, _, n, h => by
    have n' : noL d = true ∧ noLs ds = true := by simpa [noLs] using n
    cases h with
    | cons a b => exact .cons (dp_mut hp n'.1 a) (dps_mut hp n'.2 b)
end
theorem noL_amt (q : Rat) : noL (amtD q) = true := by simp [amtD, noL, noLs]
theorem noLs_map {α : Type} {f : α → PyData} (h : ∀ x, noL (f x) = true) : ∀ l : List α, noLs (l.map f) = true
  | [] => by simp [noLs]
  | x :: r => by rw [List.map_cons, noLs, h x, noLs_map h r]; rfl
theorem cut_ints (ns : List Int) (a b : Nat) (h : a ≤ b) : cutV (ns.map V.int) (some (a : Int)) (some (b : Int)) = ((ns.drop a).take (b - a)).map V.int := by
  rw [cut_nat _ _ _ h, List.map_take, List.map_drop]
theorem ints_at {ns : List Int} {i : Nat} {x : V} (h : (ns.map V.int)[i]? = some x) : ∃ z, ns[i]? = some z ∧ x = .int z := by
  rw [List.getElem?_map] at h
  cases e : ns[i]? with
  | none => rw [e] at h; cases h
  | some z => rw [e] at h; exact ⟨z, rfl, (Option.some.inj h).symm⟩
theorem take_succ {α : Type} {l : List α} {i : Nat} {x : α} (h : l[i]? = some x) : l.take (i + 1) = l.take i ++ [x] := by
  rw [List.take_add_one, h]; rfl
theorem lt_size {n : Nat} (h : n ≤ 1000) : n < sizeLine := small1000 h
end Lim
namespace Lim
open PySem PySem.Spec PyProof.Rows L2
local macro_rules | `(tactic| walk_at "same") => `(tactic| first | assumption | (refine Same.new ?_; assumption) | exact Same.refl _)
local macro_rules | `(tactic| walk_at "sqt") => `(tactic| first | exact sqt_new | (first | assumption | (apply Same.tup; (first | assumption | (apply Same.new; assumption)); (first | assumption | (apply Same.tup; (first | assumption | (apply Same.new; assumption)); (first | assumption | (apply Same.tup; (first | assumption | (apply Same.new; assumption)); (first | assumption | (apply Same.tup; (first | assumption | (apply Same.new; assumption)); (first | assumption | (apply Same.tup; (first | assumption | (apply Same.new; assumption)); (assumption))))))))))))
local macro_rules | `(tactic| walk_at "sql") => `(tactic| first | exact sql_new | (first | assumption | (apply Same.seq; (first | assumption | (apply Same.new; assumption)); (first | assumption | (apply Same.seq; (first | assumption | (apply Same.new; assumption)); (first | assumption | (apply Same.seq; (first | assumption | (apply Same.new; assumption)); (first | assumption | (apply Same.seq; (first | assumption | (apply Same.new; assumption)); (first | assumption | (apply Same.seq; (first | assumption | (apply Same.new; assumption)); (assumption))))))))))))
local macro_rules | `(tactic| walk_at "dp") => `(tactic| (first | assumption | (apply dp_same; (first | assumption | (apply Same.new; assumption)); (first | assumption | (apply dp_same; (first | assumption | (apply Same.new; assumption)); (first | assumption | (apply dp_same; (first | assumption | (apply Same.new; assumption)); (first | assumption | (apply dp_same; (first | assumption | (apply Same.new; assumption)); (first | assumption | (apply dp_same; (first | assumption | (apply Same.new; assumption)); (assumption))))))))))))
local macro_rules | `(tactic| walk_at "go") => `(tactic| repeat' (first | exact kt_ii | exact kt_ib | exact kt_bb | exact kt_tt | exact kt_bi | exact kt_ss | exact rfl | ((with_reducible show SqT _ _ _ _); walk_at "sqt") | ((with_reducible show SqL _ _ _ _); walk_at "sql") | ((with_reducible show Dp _ _ _ _); walk_at "dp") | ((with_reducible show Sz _ _); assumption) | ((with_reducible show tyV _ _ _ _); exact Or.inl ⟨rfl, _, Or.inl (Or.inl (by first | assumption | exact upd_same))⟩) | ((with_reducible show _ = some (HO.lst _)); first | assumption | exact upd_same) | ((with_reducible show SqL _ _ _ _ ∨ SqT _ _ _ _); first | (refine Or.inl ?_; walk_at "sql") | (refine Or.inr ?_; walk_at "sqt")) | apply And.intro | apply Exists.intro | exact True.intro | exact ClsV.ty _ | exact ClsV.own _ | exact TyX.base (TyOf.int _) | exact TyX.base (TyOf.bl _) | exact TyX.base (TyOf.str _) | ((with_reducible show TyX _ _ _ _); apply ty_tup; walk_at "sqt") | exact at0 | exact at1 | exact sz2 | exact sz0 | exact sz1 | exact sz3 | exact dv_lit (by decide +kernel) | exact nz_lit (by decide +kernel) | exact ml_lit (by decide +kernel) | decide))
local macro_rules | `(tactic| walk_at "if") => `(tactic| first | refine ifI ?_ ?_ | refine ifnI ?_ ?_ | refine ifS ?_ ?_ | refine ifnS ?_ ?_ | refine ifd ?_ ?_ | refine ifn ?_ ?_ | refine ifb ?_ ?_)
def top (i : Nat) : Stmt := PySem.Challenge.pw_limbmap_k02_sums_and_order.main.body.getD i (.Pass ⟨0, 0, 0, 0⟩)
abbrev s_is_whole : Stmt := top 4
theorem sc_is_whole : FnScope ["thing"] ["thing"] (defScope s_is_whole) := ⟨rfl, rfl, rfl, by decide +kernel, rfl, by decide +kernel, by decide +kernel⟩
abbrev s_divisor : Stmt := top 5
theorem sc_divisor : FnScope ["one", "other"] ["one", "other"] (defScope s_divisor) := ⟨rfl, rfl, rfl, by decide +kernel, rfl, by decide +kernel, by decide +kernel⟩
abbrev s_amount : Stmt := top 6
theorem sc_amount : FnScope ["top", "bottom", "share"] ["top", "bottom"] (defScope s_amount) := ⟨rfl, rfl, rfl, by decide +kernel, rfl, by decide +kernel, by decide +kernel⟩
abbrev s_plus : Stmt := top 7
theorem sc_plus : FnScope ["one", "other"] ["one", "other"] (defScope s_plus) := ⟨rfl, rfl, rfl, by decide +kernel, rfl, by decide +kernel, by decide +kernel⟩
abbrev s_minus : Stmt := top 8
theorem sc_minus : FnScope ["one", "other"] ["one", "other"] (defScope s_minus) := ⟨rfl, rfl, rfl, by decide +kernel, rfl, by decide +kernel, by decide +kernel⟩
abbrev s_half : Stmt := top 9
theorem sc_half : FnScope ["one"] ["one"] (defScope s_half) := ⟨rfl, rfl, rfl, by decide +kernel, rfl, by decide +kernel, by decide +kernel⟩
abbrev s_less : Stmt := top 10
theorem sc_less : FnScope ["one", "other"] ["one", "other"] (defScope s_less) := ⟨rfl, rfl, rfl, by decide +kernel, rfl, by decide +kernel, by decide +kernel⟩
abbrev s_law_cell_at : Stmt := top 12
theorem sc_law_cell_at : FnScope ["_law_script", "_law_k"] ["_law_script", "_law_k"] (defScope s_law_cell_at) := ⟨rfl, rfl, rfl, by decide +kernel, rfl, by decide +kernel, by decide +kernel⟩
abbrev s_law_whole : Stmt := top 13
theorem sc_law_whole : FnScope ["_law_thing"] ["_law_thing"] (defScope s_law_whole) := ⟨rfl, rfl, rfl, by decide +kernel, rfl, by decide +kernel, by decide +kernel⟩
abbrev s_law_divisor : Stmt := top 14
theorem sc_law_divisor : FnScope ["_law_one", "_law_other"] ["_law_one", "_law_other"] (defScope s_law_divisor) := ⟨rfl, rfl, rfl, by decide +kernel, rfl, by decide +kernel, by decide +kernel⟩
abbrev s_law_lowest : Stmt := top 15
theorem sc_law_lowest : FnScope ["_law_top", "_law_bottom", "_law_share"] ["_law_top", "_law_bottom"] (defScope s_law_lowest) := ⟨rfl, rfl, rfl, by decide +kernel, rfl, by decide +kernel, by decide +kernel⟩
abbrev s_law_amount : Stmt := top 16
theorem sc_law_amount : FnScope ["_law_first", "_law_second", "_law_top", "_law_bottom"] ["_law_first", "_law_second"] (defScope s_law_amount) := ⟨rfl, rfl, rfl, by decide +kernel, rfl, by decide +kernel, by decide +kernel⟩
abbrev s_law_right : Stmt := top 17
theorem sc_law_right : FnScope ["_law_found", "_law_top", "_law_bottom"] ["_law_found", "_law_top", "_law_bottom"] (defScope s_law_right) := ⟨rfl, rfl, rfl, by decide +kernel, rfl, by decide +kernel, by decide +kernel⟩
abbrev s_law_two : Stmt := top 18
theorem sc_law_two : FnScope ["_law_one", "_law_other", "_law_found", "_law_a", "_law_b", "_law_c", "_law_d"] ["_law_one", "_law_other"] (defScope s_law_two) := ⟨rfl, rfl, rfl, by decide +kernel, rfl, by decide +kernel, by decide +kernel⟩
abbrev s_law_row : Stmt := top 19
theorem sc_law_row : FnScope ["_law_row_here", "_law_turned", "_law_come", "_law_worth", "_law_one", "_law_gone"] ["_law_row_here", "_law_turned"] (defScope s_law_row) := ⟨rfl, rfl, rfl, by decide +kernel, rfl, by decide +kernel, by decide +kernel⟩
abbrev s_law : Stmt := top 20
theorem sc_law : FnScope ["_law_script", "_law_one", "_law_other", "_law_row_here", "_law_cell"] ["_law_script"] (defScope s_law) := ⟨rfl, rfl, rfl, by decide +kernel, rfl, by decide +kernel, by decide +kernel⟩
structure Txt (K : PySem.W.Frag) (mg : Str → Option Value) : Prop where
  g_is_whole : mg "is_whole" = some (.ref (He.ga K "is_whole"))
  g_divisor : mg "divisor" = some (.ref (He.ga K "divisor"))
  g_amount : mg "amount" = some (.ref (He.ga K "amount"))
  g_plus : mg "plus" = some (.ref (He.ga K "plus"))
  g_minus : mg "minus" = some (.ref (He.ga K "minus"))
  g_half : mg "half" = some (.ref (He.ga K "half"))
  g_less : mg "less" = some (.ref (He.ga K "less"))
  g_law_cell_at : mg "_law_cell_at" = some (.ref (He.ga K "_law_cell_at"))
  g_law_whole : mg "_law_whole" = some (.ref (He.ga K "_law_whole"))
  g_law_divisor : mg "_law_divisor" = some (.ref (He.ga K "_law_divisor"))
  g_law_lowest : mg "_law_lowest" = some (.ref (He.ga K "_law_lowest"))
  g_law_amount : mg "_law_amount" = some (.ref (He.ga K "_law_amount"))
  g_law_right : mg "_law_right" = some (.ref (He.ga K "_law_right"))
  g_law_two : mg "_law_two" = some (.ref (He.ga K "_law_two"))
  g_law_row : mg "_law_row" = some (.ref (He.ga K "_law_row"))
  g_law : mg "law" = some (.ref (He.ga K "law"))
  g_TreeError : mg "TreeError" = some (.ref (He.ga K "TreeError"))
  g_NoAmount : mg "NoAmount" = some (.ref (He.ga K "NoAmount"))
  z_isinstance : mg "isinstance" = none
  z_int : mg "int" = none
  z_bool : mg "bool" = none
  z_abs : mg "abs" = none
  z_len : mg "len" = none
  z_tuple : mg "tuple" = none
  x_NoAmount : PySem.W.excIn K (He.ga K "NoAmount") He.veBase "ValueError.__new__" = true ∧ PySem.W.keepIn K (.ref (He.ga K "NoAmount")) = true ∧ PySem.W.subIn K (.ref (He.ga K "NoAmount")) (.type "BaseException") = some true ∧ PySem.W.typeIn K (.ref (He.ga K "NoAmount")) = some (.type "type")
  d_is_whole : FnP K "is_whole" s_is_whole []
  d_divisor : FnP K "divisor" s_divisor []
  d_amount : FnP K "amount" s_amount [.int 1]
  d_plus : FnP K "plus" s_plus []
  d_minus : FnP K "minus" s_minus []
  d_half : FnP K "half" s_half []
  d_less : FnP K "less" s_less []
  d_law_cell_at : FnP K "_law_cell_at" s_law_cell_at []
  d_law_whole : FnP K "_law_whole" s_law_whole []
  d_law_divisor : FnP K "_law_divisor" s_law_divisor []
  d_law_lowest : FnP K "_law_lowest" s_law_lowest []
  d_law_amount : FnP K "_law_amount" s_law_amount []
  d_law_right : FnP K "_law_right" s_law_right []
  d_law_two : FnP K "_law_two" s_law_two []
  d_law_row : FnP K "_law_row" s_law_row []
  d_law : FnP K "law" s_law []
section
variable {P : Program} {w : World} {K : PySem.W.Frag} {mg : Str → Option Value} {base : Heap}
/-! divisor -/
def sp_divisor : Sp := fun vs H Q _ => ∃ a b : Int, vs = [.int a, .int b] ∧ Q (.int (Int.gcd a b)) H
theorem abs_gcd (x : Int) : (if x < 0 then -x else x) = ((Int.gcd x 0 : Nat) : Int) := by
  rw [Int.gcd_zero_right]; split <;> omega
theorem ok_divisor (T : Txt K mg) : Def P w K mg base (0 + 1) "divisor" ["one", "other"] [] sp_divisor := by
  refine def_ok T.g_divisor T.d_divisor sc_divisor (fun vs H Q E h => by obtain ⟨a, b, rfl, _⟩ := h; rfl) (fun _ _ _ _ _ _ us hl => match us, hl with | [_, _], _ => rfl) (fun cdv A outer s H vs Q E hr h => ?_)
  obtain ⟨a, b, rfl, q⟩ := h
  refine ⟨_, (pss_cons (ps_wh (passes_of rfl) (pt_cmpR op_ne (pv 1) pe_int (nomark _)) (pss_one (ps_par (i := 0) (j := 1) (by rfl) sc_divisor.nd rfl rfl (by decide) rfl rfl (pa_cons (pv 1) (pa_cons (pe_op op_md (pv 0) (pv 1)) pa_nil)) (by rfl))))
      (pss_one (ps_ret (pe_callB call_abs (by rfl) T.z_abs (by decide +kernel) (pa_cons (pv 0) pa_nil))))), ?_⟩
  refine wh_by (fun σ H' => ∃ x y : Int, σ = [some (.int x), some (.int y)] ∧ H' = H ∧ Int.gcd x y = Int.gcd a b) (fun σ => match σ with | [_, some (.int y)] => y.natAbs | _ => 0) ⟨a, b, rfl, rfl, rfl⟩ ?_
  rintro σ H' ⟨x, y, rfl, rfl, e⟩
  walk_at "go"
  walk_at "if"
  · intro hy
    refine ⟨_, wn, ?_⟩
    walk_at "go"
    · exact ⟨hy⟩
    · exact fmod_lt x hy
    · exact (gcd_fmod x y).trans e
  · intro hy
    subst hy
    walk_at "go"
    show Q _ _
    rw [abs_gcd, e]; exact q
theorem ok_law_divisor (T : Txt K mg) : Def P w K mg base (0 + 1) "_law_divisor" ["_law_one", "_law_other"] [] sp_divisor := by
  refine def_ok T.g_law_divisor T.d_law_divisor sc_law_divisor (fun vs H Q E h => by obtain ⟨a, b, rfl, _⟩ := h; rfl) (fun _ _ _ _ _ _ us hl => match us, hl with | [_, _], _ => rfl) (fun cdv A outer s H vs Q E hr h => ?_)
  obtain ⟨a, b, rfl, q⟩ := h
  refine ⟨_, (pss_cons (ps_wh (passes_of rfl) (pt_cmpR op_ne (pv 1) pe_int (nomark _)) (pss_one (ps_par (i := 0) (j := 1) (by rfl) sc_law_divisor.nd rfl rfl (by decide) rfl rfl (pa_cons (pv 1) (pa_cons (pe_op op_md (pv 0) (pv 1)) pa_nil)) (by rfl))))
      (pss_one (ps_ret (pe_callB call_abs (by rfl) T.z_abs (by decide +kernel) (pa_cons (pv 0) pa_nil))))), ?_⟩
  refine wh_by (fun σ H' => ∃ x y : Int, σ = [some (.int x), some (.int y)] ∧ H' = H ∧ Int.gcd x y = Int.gcd a b) (fun σ => match σ with | [_, some (.int y)] => y.natAbs | _ => 0) ⟨a, b, rfl, rfl, rfl⟩ ?_
  rintro σ H' ⟨x, y, rfl, rfl, e⟩
  walk_at "go"
  walk_at "if"
  · intro hy
    refine ⟨_, wn, ?_⟩
    walk_at "go"
    · exact ⟨hy⟩
    · exact fmod_lt x hy
    · exact (gcd_fmod x y).trans e
  · intro hy
    subst hy
    walk_at "go"
    show Q _ _
    rw [abs_gcd, e]; exact q
/-! is_whole -/
def sp_whole : Sp := fun vs H Q _ => ∃ a : Int, vs = [.int a] ∧ Q (.bl true) H
theorem ok_is_whole (T : Txt K mg) : Def P w K mg base (0 + 1) "is_whole" ["thing"] [] sp_whole := by
  refine def_ok T.g_is_whole T.d_is_whole sc_is_whole (fun vs H Q E h => by obtain ⟨a, rfl, _⟩ := h; rfl) (fun _ _ _ _ _ _ us hl => match us, hl with | [_], _ => rfl) (fun cdv A outer s H vs Q E hr h => ?_)
  obtain ⟨a, rfl, q⟩ := h
  refine ⟨_, (pss_one (ps_ret (pe_and (pe_callB call_isi (by rfl) T.z_isinstance (by decide +kernel) (pa_cons (pv 0) (pa_cons (pe_bltn (v := .ty "int") (by rfl) T.z_int (by decide +kernel) rfl) pa_nil))) (pe_one (pe_not (pe_callB call_isi (by rfl) T.z_isinstance (by decide +kernel) (pa_cons (pv 0) (pa_cons (pe_bltn (v := .ty "bool") (by rfl) T.z_bool (by decide +kernel) rfl) pa_nil)))))))), ?_⟩
  walk_at "go"
  exact q
theorem ok_law_whole (T : Txt K mg) : Def P w K mg base (0 + 1) "_law_whole" ["_law_thing"] [] sp_whole := by
  refine def_ok T.g_law_whole T.d_law_whole sc_law_whole (fun vs H Q E h => by obtain ⟨a, rfl, _⟩ := h; rfl) (fun _ _ _ _ _ _ us hl => match us, hl with | [_], _ => rfl) (fun cdv A outer s H vs Q E hr h => ?_)
  obtain ⟨a, rfl, q⟩ := h
  refine ⟨_, (pss_one (ps_ret (pe_and (pe_callB call_isi (by rfl) T.z_isinstance (by decide +kernel) (pa_cons (pv 0) (pa_cons (pe_bltn (v := .ty "int") (by rfl) T.z_int (by decide +kernel) rfl) pa_nil))) (pe_one (pe_not (pe_callB call_isi (by rfl) T.z_isinstance (by decide +kernel) (pa_cons (pv 0) (pa_cons (pe_bltn (v := .ty "bool") (by rfl) T.z_bool (by decide +kernel) rfl) pa_nil)))))))), ?_⟩
  walk_at "go"
  exact q
/-! amount -/
def sp_amount (K : PySem.W.Frag) : Sp := fun vs H Q E => ∃ t b : Int, vs = [.int t, .int b] ∧ Bit 8999 b ∧ (b = 0 → E (.ref (He.ga K "NoAmount")) none H) ∧ (b ≠ 0 → Ret K H Q (amtD (Rat.divInt t b)))
theorem ok_amount (T : Txt K mg) : Def P w K mg base (1 + 1) "amount" ["top", "bottom"] [] (sp_amount K) := by
  refine def_dfl T.g_amount T.d_amount 2 1 (by decide) rfl sc_amount (fun vs H Q E h => by obtain ⟨a, b, rfl, _⟩ := h; rfl) (fun _ _ _ _ _ _ _ us its h1 h2 => match us, its, h1, h2 with | [_, _], [_], _, _ => ⟨_, rfl, rfl⟩) (fun cdv A outer s H vs Q E hr h => ?_)
  obtain ⟨t, b, rfl, hB, h0, h1⟩ := h
  refine ⟨_, (pss_cons (ps_if (PW.pt (pw_or (pt_not (pt_val (pc0 (ok_is_whole T) (hr.mono (by decide)) (pa_cons (pv 0) pa_nil)))) (pw_or1 (pt_not (pt_val (pc0 (ok_is_whole T) (hr.mono (by decide)) (pa_cons (pv 1) pa_nil))))))) (pss_one (ps_raise rfl (takes_of rfl rfl rfl rfl) (pmk_own PySem.F.excBase_ValueError T.x_NoAmount.1 T.g_NoAmount T.x_NoAmount.2.1 (raises_own T.x_NoAmount.2.2.1 T.x_NoAmount.2.2.2) (by exact rfl)))) pss_nil)
      (pss_cons (ps_if (pt_cmpR op_eq (pv 1) pe_int (nomark _)) (pss_one (ps_raise rfl (takes_of rfl rfl rfl rfl) (pmk_own PySem.F.excBase_ValueError T.x_NoAmount.1 T.g_NoAmount T.x_NoAmount.2.1 (raises_own T.x_NoAmount.2.2.1 T.x_NoAmount.2.2.2) (by exact rfl)))) pss_nil)
      (pss_cons (ps_set (i := 2) sc_amount.nd rfl (Or.inl rfl) (pc0 (ok_divisor T) (hr.mono (by decide)) (pa_cons (pv 0) (pa_cons (pv 1) pa_nil))))
      (pss_k (ps_if (pt_cmpR op_lt (pv 1) pe_int (nomark _)) (pss_one (ps_set (i := 2) sc_amount.nd rfl (Or.inl rfl) (pe_op op_sub pe_int (pv 2)))) pss_nil)
      (pss_one (ps_ret (pe_tup (pa_cons (pe_op op_dv (pv 0) (pv 2)) (pa_cons (pe_op op_dv (pv 1) (pv 2)) pa_nil))))))))), ?_⟩
  walk_at "go"
  walk_at "if"
  · intro hb
    exact h0 hb
  · intro hb
    have h1 := h1 hb
    walk_at "go"
    refine k_by (fun σ' H' => σ' = [some (.int t), some (.int b), some (.int (share t b))] ∧ H' = H) ?_ ?_
    · walk_at "go"
      walk_at "if"
      · intro hn
        walk_at "go"
        unfold share; rw [if_pos hn]; rfl
      · intro hn
        walk_at "go"
        unfold share; rw [if_neg hn]; rfl
    · rintro σ' H' ⟨rfl, rfl⟩
      walk_at "go"
      · exact dvok (share_ne hb) (hB.le (share_le hb)) (by decide)
      · exact dvok (share_ne hb) (hB.le (share_le hb)) (by decide)
      · intro p np
        exact h1 _ _ (Same.new np) (amt_mk sqt_new (amount_num hb) (amount_den hb))
end

section
variable {P : Program} {w : World} {K : PySem.W.Frag} {mg : Str → Option Value} {base : Heap}
/-! plus, minus, half, less -/
def sp_plus (K : PySem.W.Frag) : Sp := fun vs H Q _ => ∃ (v u : V) (p q : Rat) (a b : Nat), vs = [v, u] ∧ Amt K H v p ∧ Amt K H u q ∧ Sz a p ∧ Sz b q ∧ a + b ≤ 8000 ∧ Ret K H Q (amtD (p + q))
def sp_minus (K : PySem.W.Frag) : Sp := fun vs H Q _ => ∃ (v u : V) (p q : Rat) (a b : Nat), vs = [v, u] ∧ Amt K H v p ∧ Amt K H u q ∧ Sz a p ∧ Sz b q ∧ a + b ≤ 8000 ∧ Ret K H Q (amtD (p - q))
theorem ok_plus (T : Txt K mg) : Def P w K mg base (2 + 1) "plus" ["one", "other"] [] (sp_plus K) := by
  refine def_ok T.g_plus T.d_plus sc_plus (fun vs H Q E h => by obtain ⟨_, _, _, _, _, _, rfl, _⟩ := h; rfl) (fun _ _ _ _ _ _ us hl => match us, hl with | [_, _], _ => rfl) (fun cdv A outer s H vs Q E hr h => ?_)
  obtain ⟨v, u, p, q, a, b, rfl, hp, hq, sp, sq, hab, k⟩ := h
  obtain ⟨ap, rfl, tp⟩ := amt_inv hp
  obtain ⟨aq, rfl, tq⟩ := amt_inv hq
  refine ⟨_, (pss_one (ps_ret (pcl (ok_amount T) (hr.mono (by decide)) (takes_of rfl rfl rfl rfl) (pa_cons (pe_op op_add (pe_op op_ml (pe_ix ix_tup (pv 0) pe_int (fun _ _ => rfl)) (pe_ix ix_tup (pv 1) pe_int (fun _ _ => rfl))) (pe_op op_ml (pe_ix ix_tup (pv 1) pe_int (fun _ _ => rfl)) (pe_ix ix_tup (pv 0) pe_int (fun _ _ => rfl)))) (pa_cons (pe_op op_ml (pe_ix ix_tup (pv 0) pe_int (fun _ _ => rfl)) (pe_ix ix_tup (pv 1) pe_int (fun _ _ => rfl))) pa_nil))))), ?_⟩
  walk_at "go"
  · exact mulok sp.num sq.den (by omega)
  · exact mulok sq.num sp.den (by omega)
  · exact mulok sp.den sq.den (by omega)
  · exact (sp.den.mul sq.den).mono (by omega)
  · exact fun e => absurd e (den_mul_ne p q)
  · intro _
    rw [divInt_add]; exact k
theorem ok_minus (T : Txt K mg) : Def P w K mg base (2 + 1) "minus" ["one", "other"] [] (sp_minus K) := by
  refine def_ok T.g_minus T.d_minus sc_minus (fun vs H Q E h => by obtain ⟨_, _, _, _, _, _, rfl, _⟩ := h; rfl) (fun _ _ _ _ _ _ us hl => match us, hl with | [_, _], _ => rfl) (fun cdv A outer s H vs Q E hr h => ?_)
  obtain ⟨v, u, p, q, a, b, rfl, hp, hq, sp, sq, hab, k⟩ := h
  obtain ⟨ap, rfl, tp⟩ := amt_inv hp
  obtain ⟨aq, rfl, tq⟩ := amt_inv hq
  refine ⟨_, (pss_one (ps_ret (pcl (ok_amount T) (hr.mono (by decide)) (takes_of rfl rfl rfl rfl) (pa_cons (pe_op op_sub (pe_op op_ml (pe_ix ix_tup (pv 0) pe_int (fun _ _ => rfl)) (pe_ix ix_tup (pv 1) pe_int (fun _ _ => rfl))) (pe_op op_ml (pe_ix ix_tup (pv 1) pe_int (fun _ _ => rfl)) (pe_ix ix_tup (pv 0) pe_int (fun _ _ => rfl)))) (pa_cons (pe_op op_ml (pe_ix ix_tup (pv 0) pe_int (fun _ _ => rfl)) (pe_ix ix_tup (pv 1) pe_int (fun _ _ => rfl))) pa_nil))))), ?_⟩
  walk_at "go"
  · exact mulok sp.num sq.den (by omega)
  · exact mulok sq.num sp.den (by omega)
  · exact mulok sp.den sq.den (by omega)
  · exact (sp.den.mul sq.den).mono (by omega)
  · exact fun e => absurd e (den_mul_ne p q)
  · intro _
    rw [divInt_sub]; exact k
def sp_half (K : PySem.W.Frag) : Sp := fun vs H Q _ => ∃ (v : V) (p : Rat) (a : Nat), vs = [v] ∧ Amt K H v p ∧ Sz a p ∧ a ≤ 8000 ∧ Ret K H Q (amtD (p / 2))
theorem bit2 : Bit 2 2 := by unfold Bit; decide
theorem ok_half (T : Txt K mg) : Def P w K mg base (2 + 1) "half" ["one"] [] (sp_half K) := by
  refine def_ok T.g_half T.d_half sc_half (fun vs H Q E h => by obtain ⟨_, _, _, rfl, _⟩ := h; rfl) (fun _ _ _ _ _ _ us hl => match us, hl with | [_], _ => rfl) (fun cdv A outer s H vs Q E hr h => ?_)
  obtain ⟨v, p, a, rfl, hp, sp, ha, k⟩ := h
  obtain ⟨ap, rfl, tp⟩ := amt_inv hp
  refine ⟨_, (pss_one (ps_ret (pcl (ok_amount T) (hr.mono (by decide)) (takes_of rfl rfl rfl rfl) (pa_cons (pe_ix ix_tup (pv 0) pe_int (fun _ _ => rfl)) (pa_cons (pe_op op_ml pe_int (pe_ix ix_tup (pv 0) pe_int (fun _ _ => rfl))) pa_nil))))), ?_⟩
  walk_at "go"
  · exact mulok bit2 sp.den (by omega)
  · exact (bit2.mul sp.den).mono (by omega)
  · exact fun e => absurd e (by have := den_ne p; omega)
  · intro _
    rw [divInt_half]; exact k
def sp_less (K : PySem.W.Frag) : Sp := fun vs H Q _ => ∃ (v u : V) (p q : Rat) (a b : Nat), vs = [v, u] ∧ Amt K H v p ∧ Amt K H u q ∧ Sz a p ∧ Sz b q ∧ a + b ≤ 8000 ∧ Q (.bl (decide (p < q))) H
theorem ok_less (T : Txt K mg) : Def P w K mg base (0 + 1) "less" ["one", "other"] [] (sp_less K) := by
  refine def_ok T.g_less T.d_less sc_less (fun vs H Q E h => by obtain ⟨_, _, _, _, _, _, rfl, _⟩ := h; rfl) (fun _ _ _ _ _ _ us hl => match us, hl with | [_, _], _ => rfl) (fun cdv A outer s H vs Q E hr h => ?_)
  obtain ⟨v, u, p, q, a, b, rfl, hp, hq, sp, sq, hab, k⟩ := h
  obtain ⟨ap, rfl, tp⟩ := amt_inv hp
  obtain ⟨aq, rfl, tq⟩ := amt_inv hq
  refine ⟨_, (pss_one (ps_ret (pe_cmpR op_lt (pe_op op_ml (pe_ix ix_tup (pv 0) pe_int (fun _ _ => rfl)) (pe_ix ix_tup (pv 1) pe_int (fun _ _ => rfl))) (pe_op op_ml (pe_ix ix_tup (pv 1) pe_int (fun _ _ => rfl)) (pe_ix ix_tup (pv 0) pe_int (fun _ _ => rfl))) (nomark _)))), ?_⟩
  walk_at "go"
  · exact mulok sp.num sq.den (by omega)
  · exact mulok sq.num sp.den (by omega)
  · show Q (.bl (decide (p.num * (q.den : Int) < q.num * (p.den : Int)))) H
    rw [rat_lt]; exact k
end

section
variable {P : Program} {w : World} {K : PySem.W.Frag} {mg : Str → Option Value} {base : Heap}
/-! the law's own -/
def sp_cell (K : PySem.W.Frag) : Sp := fun vs H Q _ => ∃ (a : Addr) (k : Nat) (ns : List Int), vs = [.ref a, .int k] ∧ SqL K H a (ns.map V.int) ∧ Q (.int (ns.getD k 0)) H
theorem ok_law_cell_at (T : Txt K mg) : Def P w K mg base (0 + 1) "_law_cell_at" ["_law_script", "_law_k"] [] (sp_cell K) := by
  refine def_ok T.g_law_cell_at T.d_law_cell_at sc_law_cell_at (fun vs H Q E h => by obtain ⟨_, _, _, rfl, _⟩ := h; rfl) (fun _ _ _ _ _ _ us hl => match us, hl with | [_, _], _ => rfl) (fun cdv A outer s H vs Q E hr h => ?_)
  obtain ⟨a, j, ns, rfl, hS, k⟩ := h
  refine ⟨_, (pss_cons (ps_if (pt_cmpR op_lt (pv 1) (pe_callB call_len_seq (by rfl) T.z_len (by decide +kernel) (pa_cons (pv 0) pa_nil)) (nomark _)) (pss_one (ps_ret (pe_ix ix_list (pv 0) (pv 1) (fun _ _ => rfl)))) pss_nil)
      (pss_one (ps_ret pe_int))), ?_⟩
  walk_at "go"
  walk_at "if"
  · intro h
    rw [List.length_map] at h
    walk_at "go"
    · exact at_ints (by omega)
    · exact k
  · intro h
    rw [List.length_map] at h
    walk_at "go"
    rw [List.getD_eq_getElem?_getD, List.getElem?_eq_none (by omega)] at k
    exact k
def sp_lowest (K : PySem.W.Frag) : Sp := fun vs H Q _ => ∃ t b : Int, vs = [.int t, .int b] ∧ Bit 8999 b ∧ 0 < b ∧ Ret K H Q (amtD (Rat.divInt t b))
theorem ok_law_lowest (T : Txt K mg) : Def P w K mg base (1 + 1) "_law_lowest" ["_law_top", "_law_bottom"] [] (sp_lowest K) := by
  refine def_ok T.g_law_lowest T.d_law_lowest sc_law_lowest (fun vs H Q E h => by obtain ⟨_, _, rfl, _⟩ := h; rfl) (fun _ _ _ _ _ _ us hl => match us, hl with | [_, _], _ => rfl) (fun cdv A outer s H vs Q E hr h => ?_)
  obtain ⟨t, b, rfl, hB, hb, k⟩ := h
  refine ⟨_, (pss_cons (ps_set (i := 2) sc_law_lowest.nd rfl (Or.inl rfl) (pc0 (ok_law_divisor T) (hr.mono (by decide)) (pa_cons (pv 0) (pa_cons (pv 1) pa_nil))))
      (pss_one (ps_ret (pe_tup (pa_cons (pe_op op_dv (pv 0) (pv 2)) (pa_cons (pe_op op_dv (pv 1) (pv 2)) pa_nil)))))), ?_⟩
  have hb' : b ≠ 0 := by omega
  have e : share t b = (Int.gcd t b : Int) := by unfold share; rw [if_neg (by omega)]
  walk_at "go"
  · rw [← e]; exact dvok (share_ne hb') (hB.le (share_le hb')) (by decide)
  · rw [← e]; exact dvok (share_ne hb') (hB.le (share_le hb')) (by decide)
  · intro p np
    rw [← e]
    exact k _ _ (Same.new np) (amt_mk sqt_new (amount_num hb') (amount_den hb'))
end

section
variable {P : Program} {w : World} {K : PySem.W.Frag} {mg : Str → Option Value} {base : Heap}
def sp_right (K : PySem.W.Frag) : Sp := fun vs H Q _ => ∃ (v : V) (q : Rat) (t b : Int) (m : Nat), vs = [v, .int t, .int b] ∧ Amt K H v q ∧ Sz m q ∧ Bit m t ∧ Bit m b ∧ m ≤ 100000 ∧ q.num * b = t * (q.den : Int) ∧ Q (.bl true) H
theorem ok_law_right (T : Txt K mg) : Def P w K mg base (1 + 1) "_law_right" ["_law_found", "_law_top", "_law_bottom"] [] (sp_right K) := by
  refine def_ok T.g_law_right T.d_law_right sc_law_right (fun vs H Q E h => by obtain ⟨_, _, _, _, _, rfl, _⟩ := h; rfl) (fun _ _ _ _ _ _ us hl => match us, hl with | [_, _, _], _ => rfl) (fun cdv A outer s H vs Q E hr h => ?_)
  obtain ⟨v, q, t, b, m, rfl, hq, sq, ht, hb, hm, e, k⟩ := h
  obtain ⟨aq, rfl, tq⟩ := amt_inv hq
  refine ⟨_, (pss_cons (ps_if (PW.pt (pw_or (pt_not (pt_val (pe_callB call_isi (by rfl) T.z_isinstance (by decide +kernel) (pa_cons (pv 0) (pa_cons (pe_bltn (v := .ty "tuple") (by rfl) T.z_tuple (by decide +kernel) rfl) pa_nil))))) (pw_or1 (pt_cmpR op_ne (pe_callB call_len_seq (by rfl) T.z_len (by decide +kernel) (pa_cons (pv 0) pa_nil)) pe_int (nomark _))))) (pss_one (ps_ret pe_bl)) pss_nil)
      (pss_cons (ps_if (PW.pt (pw_or (pt_not (pt_val (pc0 (ok_law_whole T) (hr.mono (by decide)) (pa_cons (pe_ix ix_tup (pv 0) pe_int (fun _ _ => rfl)) pa_nil)))) (pw_or (pt_not (pt_val (pc0 (ok_law_whole T) (hr.mono (by decide)) (pa_cons (pe_ix ix_tup (pv 0) pe_int (fun _ _ => rfl)) pa_nil)))) (pw_or1 (pt_cmpR op_lt (pe_ix ix_tup (pv 0) pe_int (fun _ _ => rfl)) pe_int (nomark _)))))) (pss_one (ps_ret pe_bl)) pss_nil)
      (pss_one (ps_ret (pe_and (pe_cmpR op_eq (pc0 (ok_law_divisor T) (hr.mono (by decide)) (pa_cons (pe_ix ix_tup (pv 0) pe_int (fun _ _ => rfl)) (pa_cons (pe_ix ix_tup (pv 0) pe_int (fun _ _ => rfl)) pa_nil))) pe_int (nomark _)) (pe_one (pe_cmpR op_eq (pe_op op_ml (pe_ix ix_tup (pv 0) pe_int (fun _ _ => rfl)) (pv 2)) (pe_op op_ml (pv 1) (pe_ix ix_tup (pv 0) pe_int (fun _ _ => rfl))) (nomark _)))))))), ?_⟩
  walk_at "go"
  refine ifF (decide_eq_false (by have := den_ge q; omega)) ?_
  walk_at "go"
  refine ifT (by rw [red]; rfl) ?_
  walk_at "go"
  · exact mulok sq.num hb (by omega)
  · exact mulok ht sq.den (by omega)
  · exact qb (decide_eq_true (congrArg V.int e)) k
/-- a drawn amount's top, bottom -/
def top1 (f : Int) : Int := if f.fmod 3 = 0 then (f.fdiv 3).fmod 31 - 15 else (f.fdiv 3).fmod (2 * 10 ^ 40 + 1) - 10 ^ 40
def bot1 (s : Int) : Int := if s.fmod 2 = 0 then 1 + (s.fdiv 2).fmod 12 else 1 + (s.fdiv 2).fmod (10 ^ 30)
theorem fmod_rng (a : Int) {b : Int} (h : 0 < b) : 0 ≤ a.fmod b ∧ a.fmod b < b := ⟨Int.fmod_nonneg_of_pos a h, Int.fmod_lt_of_pos a h⟩
theorem top1_bit (f : Int) : Bit 134 (top1 f) := by
  unfold top1
  refine Bit.of (10 ^ 40) ?_ (by decide)
  split
  · have := fmod_rng (f.fdiv 3) (b := 31) (by decide); omega
  · have := fmod_rng (f.fdiv 3) (b := 2 * 10 ^ 40 + 1) (by decide); omega
theorem bot1_pos (s : Int) : 0 < bot1 s := by
  unfold bot1
  split
  · have := fmod_rng (s.fdiv 2) (b := 12) (by decide); omega
  · have := fmod_rng (s.fdiv 2) (b := 10 ^ 30) (by decide); omega
theorem bot1_bit (s : Int) : Bit 134 (bot1 s) := by
  unfold bot1
  refine Bit.of (10 ^ 30) ?_ (by decide)
  split
  · have := fmod_rng (s.fdiv 2) (b := 12) (by decide); omega
  · have := fmod_rng (s.fdiv 2) (b := 10 ^ 30) (by decide); omega
def am1 (f s : Int) : Rat := Rat.divInt (top1 f) (bot1 s)
theorem am1_sz (f s : Int) : Sz 134 (am1 f s) := Sz.divInt (by have := bot1_pos s; omega) (top1_bit f) (bot1_bit s)
def sp_lamount (K : PySem.W.Frag) : Sp := fun vs H Q _ => ∃ f s : Int, vs = [.int f, .int s] ∧ Ret K H Q (amtD (am1 f s))
theorem ok_law_amount (T : Txt K mg) : Def P w K mg base (2 + 1) "_law_amount" ["_law_first", "_law_second"] [] (sp_lamount K) := by
  refine def_ok T.g_law_amount T.d_law_amount sc_law_amount (fun vs H Q E h => by obtain ⟨_, _, rfl, _⟩ := h; rfl) (fun _ _ _ _ _ _ us hl => match us, hl with | [_, _], _ => rfl) (fun cdv A outer s H vs Q E hr h => ?_)
  obtain ⟨f, z, rfl, k⟩ := h
  refine ⟨_, (pss_cons (ps_set (i := 2) sc_law_amount.nd rfl (Or.inl rfl) (pe_op op_sub (pe_op op_md (pe_op op_dv (pv 0) pe_int) (pe_op op_add (pe_op op_ml pe_int (pe_op op_pow pe_int pe_int)) pe_int)) (pe_op op_pow pe_int pe_int)))
      (pss_k (ps_if (pt_cmpR op_eq (pe_op op_md (pv 0) pe_int) pe_int (nomark _)) (pss_one (ps_set (i := 2) sc_law_amount.nd rfl (Or.inl rfl) (pe_op op_sub (pe_op op_md (pe_op op_dv (pv 0) pe_int) pe_int) pe_int))) pss_nil)
      (pss_cons (ps_set (i := 3) sc_law_amount.nd rfl (Or.inl rfl) (pe_op op_add pe_int (pe_op op_md (pe_op op_dv (pv 1) pe_int) (pe_op op_pow pe_int pe_int))))
      (pss_k (ps_if (pt_cmpR op_eq (pe_op op_md (pv 1) pe_int) pe_int (nomark _)) (pss_one (ps_set (i := 3) sc_law_amount.nd rfl (Or.inl rfl) (pe_op op_add pe_int (pe_op op_md (pe_op op_dv (pv 1) pe_int) pe_int)))) pss_nil)
      (pss_one (ps_ret (pc0 (ok_law_lowest T) (hr.mono (by decide)) (pa_cons (pv 2) (pa_cons (pv 3) pa_nil))))))))), ?_⟩
  walk_at "go"
  refine k_by (fun σ' H' => σ' = [some (.int f), some (.int z), some (.int (top1 f)), none] ∧ H' = H) ?_ ?_
  · walk_at "go"
    walk_at "if"
    · intro h
      walk_at "go"
      unfold top1; rw [if_pos h]; rfl
    · intro h
      walk_at "go"
      unfold top1; rw [if_neg h]; rfl
  · rintro σ' H' ⟨rfl, rfl⟩
    walk_at "go"
    refine k_by (fun σ' H'' => σ' = [some (.int f), some (.int z), some (.int (top1 f)), some (.int (bot1 z))] ∧ H'' = H') ?_ ?_
    · walk_at "go"
      walk_at "if"
      · intro h
        walk_at "go"
        unfold bot1; rw [if_pos h]; rfl
      · intro h
        walk_at "go"
        unfold bot1; rw [if_neg h]; rfl
    · rintro σ' H' ⟨rfl, rfl⟩
      walk_at "go"
      · exact (bot1_bit z).mono (by decide)
      · exact bot1_pos z
      · exact k
end

section
variable {P : Program} {w : World} {K : PySem.W.Frag} {mg : Str → Option Value} {base : Heap}

def sp_two (K : PySem.W.Frag) : Sp := fun vs H Q _ => ∃ (v u : V) (p q : Rat), vs = [v, u] ∧ Amt K H v p ∧ Amt K H u q ∧ Sz 134 p ∧ Sz 134 q ∧ ∀ H', Same H H' → Q (.bl true) H'
theorem add_worth (p q : Rat) : (p + q).num * ((p.den : Int) * (q.den : Int)) = (p.num * (q.den : Int) + q.num * (p.den : Int)) * ((p + q).den : Int) := by
  have := worth (t := p.num * (q.den : Int) + q.num * (p.den : Int)) (den_mul_ne p q)
  rw [divInt_add] at this; exact this
theorem sub_worth (p q : Rat) : (p - q).num * ((p.den : Int) * (q.den : Int)) = (p.num * (q.den : Int) - q.num * (p.den : Int)) * ((p - q).den : Int) := by
  have := worth (t := p.num * (q.den : Int) - q.num * (p.den : Int)) (den_mul_ne p q)
  rw [divInt_sub] at this; exact this
theorem half_worth (p : Rat) : (p / 2).num * (2 * (p.den : Int)) = p.num * ((p / 2).den : Int) := by
  have := worth (t := p.num) (b := 2 * (p.den : Int)) (by have := den_ne p; omega)
  rw [divInt_half] at this; exact this
theorem ok_law_two (T : Txt K mg) : Def P w K mg base (3 + 1) "_law_two" ["_law_one", "_law_other"] [] (sp_two K) := by
  refine def_ok T.g_law_two T.d_law_two sc_law_two (fun vs H Q E h => by obtain ⟨_, _, _, _, rfl, _⟩ := h; rfl) (fun _ _ _ _ _ _ us hl => match us, hl with | [_, _], _ => rfl) (fun cdv A outer s H vs Q E hr h => ?_)
  obtain ⟨v, u, p, q, rfl, hp, hq, sp, sq, k⟩ := h
  obtain ⟨ap, rfl, tp⟩ := amt_inv hp
  obtain ⟨aq, rfl, tq⟩ := amt_inv hq
  refine ⟨_, (pss_cons (ps_asg (pv 0) (pg_tup rfl (pgs_cons (pg_name (i := 3) sc_law_two.nd rfl (Or.inl rfl)) (pgs_cons (pg_name (i := 4) sc_law_two.nd rfl (Or.inl rfl)) pgs_nil))))
      (pss_cons (ps_asg (pv 1) (pg_tup rfl (pgs_cons (pg_name (i := 5) sc_law_two.nd rfl (Or.inl rfl)) (pgs_cons (pg_name (i := 6) sc_law_two.nd rfl (Or.inl rfl)) pgs_nil))))
      (pss_cons (ps_if (pt_not (pt_val (pc0 (ok_law_right T) (hr.mono (by decide)) (pa_cons (pc0 (ok_plus T) (hr.mono (by decide)) (pa_cons (pv 0) (pa_cons (pv 1) pa_nil))) (pa_cons (pe_op op_add (pe_op op_ml (pv 3) (pv 6)) (pe_op op_ml (pv 5) (pv 4))) (pa_cons (pe_op op_ml (pv 4) (pv 6)) pa_nil)))))) (pss_one (ps_ret pe_bl)) pss_nil)
      (pss_cons (ps_if (PW.pt (pw_or (pt_not (pt_val (pc0 (ok_law_right T) (hr.mono (by decide)) (pa_cons (pc0 (ok_minus T) (hr.mono (by decide)) (pa_cons (pv 0) (pa_cons (pv 1) pa_nil))) (pa_cons (pe_op op_sub (pe_op op_ml (pv 3) (pv 6)) (pe_op op_ml (pv 5) (pv 4))) (pa_cons (pe_op op_ml (pv 4) (pv 6)) pa_nil)))))) (pw_or1 (pt_not (pt_val (pc0 (ok_law_right T) (hr.mono (by decide)) (pa_cons (pc0 (ok_half T) (hr.mono (by decide)) (pa_cons (pv 0) pa_nil)) (pa_cons (pv 3) (pa_cons (pe_op op_ml pe_int (pv 4)) pa_nil))))))))) (pss_one (ps_ret pe_bl)) pss_nil)
      (pss_cons (ps_set (i := 2) sc_law_two.nd rfl (Or.inl rfl) (pc0 (ok_less T) (hr.mono (by decide)) (pa_cons (pv 0) (pa_cons (pv 1) pa_nil))))
      (pss_one (ps_ret (pe_and (pe_callB call_isi (by rfl) T.z_isinstance (by decide +kernel) (pa_cons (pv 2) (pa_cons (pe_bltn (v := .ty "bool") (by rfl) T.z_bool (by decide +kernel) rfl) pa_nil))) (pe_one (pe_cmpR op_eq (pv 2) (pe_cmpR op_lt (pe_op op_ml (pv 3) (pv 6)) (pe_op op_ml (pv 5) (pv 4)) (nomark _)) (nomark _))))))))))), ?_⟩
  have z1 := (sp.add sq).mono (by decide : _ ≤ 300)
  have z2 := (sp.sub sq).mono (by decide : _ ≤ 300)
  have z3 := (sp.half).mono (by decide : _ ≤ 300)
  have m1 := mulok sp.num sq.den (by decide)
  have m2 := mulok sq.num sp.den (by decide)
  have m3 := mulok sp.den sq.den (by decide)
  have b1 := ((sp.num.mul sq.den).add (sq.num.mul sp.den)).mono (by decide : _ ≤ 300)
  have b2 := (sp.den.mul sq.den).mono (by decide : _ ≤ 300)
  have b3 := ((sp.num.mul sq.den).sub (sq.num.mul sp.den)).mono (by decide : _ ≤ 300)
  walk_at "go"
  intro v1 H1 s1 d1
  walk_at "go"
  · exact m1
  · exact m2
  · exact m3
  · exact b1
  · exact b2
  · exact add_worth p q
  · intro v2 H2 s2 d2
    walk_at "go"
    · exact m1
    · exact m2
    · exact m3
    · exact b3
    · exact b2
    · exact sub_worth p q
    · intro v3 H3 s3 d3
      walk_at "go"
      · exact mulok bit2 sp.den (by decide)
      · exact sp.num.mono (by decide)
      · exact (bit2.mul sp.den).mono (by decide)
      · exact half_worth p
      · exact m1
      · exact m2
      · exact qb (decide_eq_true (congrArg V.bl (rat_lt p q).symm)) (k H3 (s1.trans (s2.trans s3)))
end

section
variable {P : Program} {w : World} {K : PySem.W.Frag} {mg : Str → Option Value} {base : Heap}

/-! the row -/
def sumR : List Rat → Rat
  | [] => 0
  | q :: r => q + sumR r
theorem sumR_app (a b : List Rat) : sumR (a ++ b) = sumR a + sumR b := by
  induction a with
  | nil => show sumR b = 0 + sumR b; grind
  | cons x r ih => show x + sumR (r ++ b) = (x + sumR r) + sumR b; rw [ih]; grind
theorem sumR_rev (a : List Rat) : sumR a.reverse = sumR a := by
  induction a with
  | nil => rfl
  | cons x r ih => rw [List.reverse_cons, sumR_app, ih]; show sumR r + (x + 0) = x + sumR r; grind
theorem sumR_take {l : List Rat} {i : Nat} {q : Rat} (h : l[i]? = some q) : sumR (l.take (i + 1)) = sumR (l.take i) + q := by
  rw [List.take_add_one, h, sumR_app]; show _ + (q + 0) = _; grind
/-- q's top over 27720 -/
def wor (q : Rat) : Int := q.num * (27720 / (q.den : Int))
def worR : List Rat → Int
  | [] => 0
  | q :: r => wor q + worR r
theorem worR_app (a b : List Rat) : worR (a ++ b) = worR a + worR b := by
  induction a with
  | nil => show worR b = 0 + worR b; omega
  | cons x r ih => show wor x + worR (r ++ b) = (wor x + worR r) + worR b; rw [ih]; omega
theorem worR_take {l : List Rat} {i : Nat} {q : Rat} (h : l[i]? = some q) : worR (l.take (i + 1)) = worR (l.take i) + wor q := by
  rw [List.take_add_one, h, worR_app]; show _ + (wor q + 0) = _; omega
/-- an amount of the row: small, its bottom divides 27720 -/
structure Row1 (q : Rat) : Prop where
  sz : Sz 41 q
  dvd : (q.den : Int) ∣ 27720
theorem wor_is {q : Rat} (h : (q.den : Int) ∣ 27720) : (wor q : Rat) = q * 27720 := by
  obtain ⟨c, hc⟩ := h
  unfold wor
  rw [hc, Int.mul_ediv_cancel_left _ (den_ne q)]
  have e1 : q = (q.num : Rat) / ((q.den : Int) : Rat) := by
    have := Rat.num_divInt_den q
    rw [Rat.divInt_eq_div] at this; exact this.symm
  have e2 : ((q.den : Int) : Rat) ≠ 0 := by
    have := den_ne q
    exact_mod_cast this
  have e3 : (27720 : Rat) = ((q.den : Int) : Rat) * (c : Rat) := by
    have : ((27720 : Int) : Rat) = (((q.den : Int) * c : Int) : Rat) := by rw [hc]
    rw [Rat.intCast_mul] at this; exact this
  rw [Rat.intCast_mul, e3]
  have e4 : q * ((q.den : Int) : Rat) = (q.num : Rat) := by
    have := Rat.div_mul_cancel (a := (q.num : Rat)) e2
    rw [← e1] at this; exact this
  rw [← e4]
  generalize ((q.den : Int) : Rat) = d
  grind
theorem worR_is : ∀ {l : List Rat}, (∀ q ∈ l, Row1 q) → (worR l : Rat) = sumR l * 27720
  | [], _ => by show ((0 : Int) : Rat) = 0 * 27720; grind
  | q :: r, h => by
    show ((wor q + worR r : Int) : Rat) = (q + sumR r) * 27720
    rw [Rat.intCast_add, wor_is (h q (List.mem_cons_self ..)).dvd, worR_is (l := r) fun x hx => h x (List.mem_cons_of_mem _ hx)]
    grind
theorem row_worth {l : List Rat} (h : ∀ q ∈ l, Row1 q) : (sumR l).num * 27720 = worR l * ((sumR l).den : Int) := by
  have e := worR_is h
  have e2 : sumR l = Rat.divInt (worR l) 27720 := by
    rw [Rat.divInt_eq_div, e]; show sumR l = sumR l * 27720 / 27720; grind
  have := worth (t := worR l) (b := 27720) (by decide)
  rw [← e2] at this; exact this
theorem sumR_sz : ∀ {l : List Rat}, (∀ q ∈ l, Row1 q) → Sz (1 + 42 * l.length) (sumR l)
  | [], _ => Sz.zero
  | q :: r, h => by
    have := (h q (List.mem_cons_self ..)).sz.add (sumR_sz (l := r) fun x hx => h x (List.mem_cons_of_mem _ hx))
    refine this.mono ?_
    rw [List.length_cons]; omega
theorem worR_bit : ∀ {l : List Rat}, (∀ q ∈ l, Row1 q) → Bit (60 + l.length) (worR l)
  | [], _ => by show Bit 60 0; unfold Bit; decide
  | q :: r, h => by
    have h1 : Bit 60 (wor q) := by
      have : Bit 15 (27720 / (q.den : Int)) := (Bit.of (i := 27720) 27720 (by decide) (by decide) : Bit 15 27720).le (natAbs_ediv_le _ _)
      exact ((h q (List.mem_cons_self ..)).sz.num.mul this).mono (by decide)
    have h2 := worR_bit (l := r) fun x hx => h x (List.mem_cons_of_mem _ hx)
    have := (h1.mono (by omega : 60 ≤ 60 + r.length)).add h2
    exact this.mono (by rw [List.length_cons]; omega)
end

section
variable {P : Program} {w : World} {K : PySem.W.Frag} {mg : Str → Option Value} {base : Heap}

def sp_row (K : PySem.W.Frag) : Sp := fun vs H Q _ => ∃ (v : V) (l : List Rat) (b : Bool), vs = [v, .bl b] ∧ Dp K H v (.list (l.map amtD)) ∧ l.length ≤ 60 ∧ (∀ q ∈ l, Row1 q) ∧ ∀ H', Same H H' → Q (.bl true) H'
theorem ok_law_row (T : Txt K mg) : Def P w K mg base (3 + 1) "_law_row" ["_law_row_here", "_law_turned"] [] (sp_row K) := by
  refine def_ok T.g_law_row T.d_law_row sc_law_row (fun vs H Q E h => by obtain ⟨_, _, _, rfl, _⟩ := h; rfl) (fun _ _ _ _ _ _ us hl => match us, hl with | [_, _], _ => rfl) (fun cdv A outer s H vs Q E hr h => ?_)
  obtain ⟨v, l, b, rfl, hd, hl, hr1, k⟩ := h
  obtain ⟨a, xs, rfl, hS, hA⟩ := dp_lst hd
  refine ⟨_, (pss_cons (ps_set (i := 2) sc_law_row.nd rfl (Or.inl rfl) (pe_tup (pa_cons pe_int (pa_cons pe_int pa_nil))))
      (pss_cons (ps_set (i := 3) sc_law_row.nd rfl (Or.inl rfl) pe_int)
      (pss_cons (ps_fo (passes_of rfl) rfl (pi_list (pv 0)) (pg_name (i := 4) sc_law_row.nd rfl (Or.inl rfl)) (pss_cons (ps_set (i := 2) sc_law_row.nd rfl (Or.inl rfl) (pc0 (ok_plus T) (hr.mono (by decide)) (pa_cons (pv 2) (pa_cons (pv 4) pa_nil))))
      (pss_one (ps_set (i := 3) sc_law_row.nd rfl (Or.inl rfl) (pe_op op_add (pv 3) (pe_op op_ml (pe_ix ix_tup (pv 4) pe_int (fun _ _ => rfl)) (pe_op op_dv pe_int (pe_ix ix_tup (pv 4) pe_int (fun _ _ => rfl)))))))))
      (pss_cons (ps_if (pt_not (pt_val (pc0 (ok_law_right T) (hr.mono (by decide)) (pa_cons (pv 2) (pa_cons (pv 3) (pa_cons pe_int pa_nil)))))) (pss_one (ps_ret pe_bl)) pss_nil)
      (pss_cons (ps_set (i := 5) sc_law_row.nd rfl (Or.inl rfl) (pe_slice sl_list (pv 0) po_none (po_some (pe_un un_neg pe_int))))
      (pss_k (ps_if (pt_val (pv 1)) (pss_one (ps_set (i := 5) sc_law_row.nd rfl (Or.inl rfl) (pe_revL (pv 5)))) pss_nil)
      (pss_cons (ps_fo (passes_of rfl) rfl (pi_list (pv 5)) (pg_name (i := 4) sc_law_row.nd rfl (Or.inl rfl)) (pss_one (ps_set (i := 2) sc_law_row.nd rfl (Or.inl rfl) (pc0 (ok_minus T) (hr.mono (by decide)) (pa_cons (pv 2) (pa_cons (pv 4) pa_nil))))))
      (pss_one (ps_ret (pe_or (pe_cmpR (op_eqD (hr.units)) (pv 0) (pe_lst pa_nil) (nomark _)) (pe_one (pc0 (ok_law_right T) (hr.mono (by decide)) (pa_cons (pv 2) (pa_cons (pe_ix ix_tup (pe_ix ix_list (pv 0) (pe_un un_neg pe_int) (fun _ _ => rfl)) pe_int (fun _ _ => rfl)) (pa_cons (pe_ix ix_tup (pe_ix ix_list (pv 0) (pe_un un_neg pe_int) (fun _ _ => rfl)) pe_int (fun _ _ => rfl)) pa_nil))))))))))))))), ?_⟩
  walk_at "go"
  intro p0 np0
  have sm0 := Same.new (o := .tup [.int 0, .int 1]) np0
  walk_at "go"
  refine lr_list (xs := xs) (fun i σ H' => Bx (∃ (v2 : V) (o4 : Option V), σ = [some (.ref a), some (.bl b), some v2, some (.int (worR (l.take i))), o4, none] ∧ Same H H' ∧ Amt K H' v2 (sumR (l.take i)))) ?_ ?_ ?_ ?_
  · exact ⟨_, none, rfl, sm0, amt_mk sqt_new rfl rfl⟩
  · rintro i σ H' _ ⟨v2, o4, rfl, sm, _⟩
    exact sm.seq hS
  · rintro i x σ H' hx ⟨v2, o4, rfl, sm, am⟩
    obtain ⟨q, hq, dq⟩ := dps_map_at hA hx
    have rq := hr1 q (List.mem_of_getElem? hq)
    have dq := dp_same sm dq
    obtain ⟨aq, rfl, tq⟩ := amt_inv dq
    have hi : i < l.length := (List.getElem?_eq_some_iff.mp hq).1
    have sz := sumR_sz (l := l.take i) fun z hz => hr1 z (List.mem_of_mem_take hz)
    rw [List.length_take, Nat.min_eq_left (by omega)] at sz
    have szq := rq.sz
    walk_at "go"
    · omega
    · intro v5 H5 s5 d5
      walk_at "go"
      · exact dvok (den_ne q) rq.sz.den (by decide)
      · refine mulok (a := 41) (b := 15) rq.sz.num ?_ (by decide)
        rw [Int.fdiv_eq_ediv_of_nonneg _ (by have := den_ge q; omega)]
        exact (Bit.of (i := 27720) 27720 (by decide) (by decide) : Bit 15 27720).le (natAbs_ediv_le _ _)
      · refine ⟨v5, some (.ref aq), ?_, sm.trans s5, ?_⟩
        · rw [worR_take hq]
          unfold wor
          rw [Int.fdiv_eq_ediv_of_nonneg _ (by have := den_ge q; omega)]
          rfl
        · rw [sumR_take hq]; exact d5
  · rintro σ H' ⟨v2, o4, rfl, sm, am⟩
    have hxl : xs.length = l.length := by rw [dps_len hA, List.length_map]
    rw [hxl, List.take_length] at am ⊢
    have sz := (sumR_sz hr1).mono (by omega : _ ≤ 2600)
    have bw := (worR_bit hr1).mono (by omega : _ ≤ 2600)
    have hA' := dps_same sm hA
    have hS' := sm.seq hS
    have b27 : Bit 2600 27720 := (Bit.of 27720 (by decide) (by decide) : Bit 15 27720).mono (by decide)
    walk_at "go"
    · exact bw
    · exact b27
    · exact row_worth hr1
    · intro p5 np5
      have sm5 := Same.new (o := .lst (cutV xs none (some (-1)))) np5
      walk_at "go"
      refine k_by (fun σ' H'' => Bx (∃ (pg : Addr) (gs : List V) (g : List Rat), σ' = [some (.ref a), some (.bl b), some v2, some (.int (worR l)), o4, some (.ref pg)] ∧ Same H H'' ∧ SqL K H'' pg gs ∧ DpAll K H'' gs (g.map amtD) ∧ sumR g = sumR l.dropLast ∧ g.length ≤ 60 ∧ (∀ q ∈ g, Row1 q) ∧ Amt K H'' v2 (sumR l))) ?_ ?_
      · have hD : DpAll K (upd H' p5 (.lst (cutV xs none (some (-1))))) (cutV xs none (some (-1))) (l.dropLast.map amtD) := by
          rw [List.map_dropLast]
          have h := dps_dropLast (dps_same sm5 hA')
          rw [← cut_last xs] at h; exact h
        have hL : l.dropLast.length ≤ 60 := by rw [List.length_dropLast]; omega
        have hR : ∀ q ∈ l.dropLast, Row1 q := fun q hq => hr1 q (List.dropLast_subset l hq)
        walk_at "go"
        walk_at "if"
        · intro hb
          walk_at "go"
          intro p6 np6
          have sm6 := Same.new (o := .lst (cutV xs none (some (-1))).reverse) np6
          refine ⟨p6, (cutV xs none (some (-1))).reverse, l.dropLast.reverse, rfl, (sm.trans sm5).trans sm6, sql_new, ?_, sumR_rev _, by rw [List.length_reverse]; exact hL, fun q hq => hR q (List.mem_reverse.mp hq), dp_same sm6 (dp_same sm5 am)⟩
          rw [List.map_reverse]
          exact dps_rev (dps_same sm6 hD)
        · intro hb
          refine ⟨p5, cutV xs none (some (-1)), l.dropLast, rfl, sm.trans sm5, sql_new, hD, rfl, hL, hR, dp_same sm5 am⟩
      · rintro σ' H'' ⟨pg, gs, g, rfl, smg, hg, hG, eg, lg, rg, amg⟩
        walk_at "go"
        refine lr_list (xs := gs) (fun i σ H3 => Bx (∃ (v3 : V) (o5 : Option V), σ = [some (.ref a), some (.bl b), some v3, some (.int (worR l)), o5, some (.ref pg)] ∧ Same H'' H3 ∧ Amt K H3 v3 (sumR l - sumR (g.take i)) ∧ Sz (2600 + 42 * i) (sumR l - sumR (g.take i)))) ?_ ?_ ?_ ?_
        · refine ⟨v2, o4, rfl, Same.refl _, ?_, ?_⟩
          · rw [List.take_zero]; show Amt K H'' v2 (sumR l - 0); rw [show sumR l - 0 = sumR l by grind]; exact amg
          · rw [List.take_zero]; show Sz 2600 (sumR l - 0); rw [show sumR l - 0 = sumR l by grind]; exact sz
        · rintro i σ H3 _ ⟨v3, o5, rfl, s3, _⟩
          exact s3.seq hg
        · rintro i x σ H3 hx ⟨v3, o5, rfl, s3, am3, sz3⟩
          obtain ⟨q, hq, dq⟩ := dps_map_at hG hx
          have rq := rg q (List.mem_of_getElem? hq)
          have szq := rq.sz
          have hi : i < g.length := (List.getElem?_eq_some_iff.mp hq).1
          have e3 : sumR l - sumR (g.take (i + 1)) = sumR l - sumR (g.take i) - q := by rw [sumR_take hq]; grind
          walk_at "go"
          · omega
          · intro v6 H6 s6 d6
            refine ⟨v6, _, rfl, s3.trans s6, ?_, ?_⟩
            · rw [e3]; exact d6
            · rw [e3]; exact (sz3.sub szq).mono (by omega)
        · rintro σ H3 ⟨v3, o5, rfl, s3, am3, sz3⟩
          have hgl : gs.length = g.length := by rw [dps_len hG, List.length_map]
          rw [hgl, List.take_length] at am3 sz3
          have hd3 : Dp K H3 (.ref a) (.list (l.map amtD)) := dp_same s3 (dp_same smg hd)
          walk_at "go"
          intro p7 np7
          have sm7 := Same.new (o := .lst []) np7
          refine ⟨_, .list [], dp_same sm7 hd3, .lst sql_new .nil, (shp_list (k := 1) fun d hd => ?_).ok (by decide), (shp_list (k := 1) fun d hd => ?_).ok (by decide), ?_⟩
          · obtain ⟨q, _, rfl⟩ := List.mem_map.mp hd
            exact shp_amt q
          · cases hd
          rw [eqv_nil]
          refine ⟨_, rfl, ?_⟩
          have smA := (smg.trans s3).trans sm7
          by_cases hn : l = []
          · subst hn
            exact k _ smA
          · refine ifF (by rw [List.isEmpty_map]; simpa using hn) ?_
            obtain ⟨m, z, rfl⟩ : ∃ m z, l = m ++ [z] := ⟨l.dropLast, l.getLast hn, (List.dropLast_concat_getLast hn).symm⟩
            rw [List.dropLast_concat] at eg
            have ez : sumR (m ++ [z]) - sumR g = z := by rw [sumR_app, eg]; show sumR m + (z + 0) - sumR m = z; grind
            rw [ez] at am3 sz3
            have hm : (m ++ [z])[m.length]? = some z := by rw [List.getElem?_append_right (Nat.le_refl _), Nat.sub_self]; rfl
            obtain ⟨vz, hv, dz⟩ := dps_get hA (i := m.length) (d := amtD z) (by rw [List.getElem?_map, hm]; rfl)
            obtain ⟨az, rfl, tz⟩ := amt_inv dz
            have hx1 : atI xs (-1) = some (.ref az) := by
              have hl2 : xs.length = m.length + 1 := by rw [hxl, List.length_append]; rfl
              have hne : xs ≠ [] := by intro e; rw [e] at hl2; simp at hl2
              have e1 : xs = xs.dropLast ++ [xs.getLast hne] := (List.dropLast_concat_getLast hne).symm
              have e2 : xs.getLast hne = .ref az := by
                rw [List.getLast_eq_getElem]
                have : xs[xs.length - 1]? = some (V.ref az) := by rw [hl2]; exact hv
                rw [List.getElem?_eq_getElem (by omega)] at this
                exact Option.some.inj this
              rw [e1, e2]; exact atI_last _ _
            have tz3 := Same.tup smA tz
            have hS3 := smA.seq hS
            have am7 := dp_same sm7 am3
            have szz := (hr1 z (by simp)).sz
            walk_at "go"
            all_goals first | exact hx1 | exact szz.num | exact szz.den | exact k _ smA
end

section
variable {P : Program} {w : World} {K : PySem.W.Frag} {mg : Str → Option Value} {base : Heap}

def cell12 (c : Int) : Rat := Rat.divInt ((c.fdiv 12).fmod (2 * 10 ^ 12 + 1) - 10 ^ 12) (1 + c.fmod 12)
theorem cell12_row (c : Int) : Row1 (cell12 c) := by
  have h1 := fmod_rng (c.fdiv 12) (b := 2 * 10 ^ 12 + 1) (by decide)
  have h2 := fmod_rng c (b := 12) (by decide)
  unfold cell12
  refine ⟨Sz.divInt (by omega) (Bit.of (10 ^ 12) (by omega) (by decide)) (Bit.of 12 (by omega) (by decide)), ?_⟩
  rw [← amount_den (by omega), fdiv_of_dvd (share_dvd_right _ _)]
  have hd : (1 + c.fmod 12) / share ((c.fdiv 12).fmod (2 * 10 ^ 12 + 1) - 10 ^ 12) (1 + c.fmod 12) ∣ 1 + c.fmod 12 := Int.ediv_dvd_of_dvd (share_dvd_right _ _)
  refine Int.dvd_trans hd ?_
  generalize c.fmod 12 = x at h2
  have : x = 0 ∨ x = 1 ∨ x = 2 ∨ x = 3 ∨ x = 4 ∨ x = 5 ∨ x = 6 ∨ x = 7 ∨ x = 8 ∨ x = 9 ∨ x = 10 ∨ x = 11 := by omega
  rcases this with rfl | rfl | rfl | rfl | rfl | rfl | rfl | rfl | rfl | rfl | rfl | rfl <;> decide
def sp_law (K : PySem.W.Frag) : Sp := fun vs H Q _ => ∃ (a : Addr) (ns : List Int), vs = [.ref a] ∧ SqL K H a (ns.map V.int) ∧ ns.length ≤ 63 ∧ (∀ z ∈ ns, Builtin.Int.intBits z ≤ 1048576) ∧ ∀ H', Q (.bl true) H'
theorem law_fn {fd : FuncData} (T : Txt K mg) (F : FunD K "law" "law" (defArgs s_law) (defBody s_law) (defScope s_law) [] [] (He.ga K "law") fd) : FnOk P w K mg base (L2.CX P w) (4 + 1) (He.ga K "law") fd ["_law_script"] (sp_law K) := by
  refine F.ok sc_law (fun vs H Q E h => by obtain ⟨_, _, rfl, _⟩ := h; rfl) (fun cdv A outer s H vs Q E hr h => ?_)
  obtain ⟨a, ns, rfl, hS, hl, hbt, k⟩ := h
  refine ⟨_, (pss_cons (ps_set (i := 1) sc_law.nd rfl (Or.inl rfl) (pc0 (ok_law_amount T) (hr.mono (by decide)) (pa_cons (pc0 (ok_law_cell_at T) (hr.mono (by decide)) (pa_cons (pv 0) (pa_cons pe_int pa_nil))) (pa_cons (pc0 (ok_law_cell_at T) (hr.mono (by decide)) (pa_cons (pv 0) (pa_cons pe_int pa_nil))) pa_nil))))
      (pss_cons (ps_set (i := 2) sc_law.nd rfl (Or.inl rfl) (pc0 (ok_law_amount T) (hr.mono (by decide)) (pa_cons (pc0 (ok_law_cell_at T) (hr.mono (by decide)) (pa_cons (pv 0) (pa_cons pe_int pa_nil))) (pa_cons (pc0 (ok_law_cell_at T) (hr.mono (by decide)) (pa_cons (pv 0) (pa_cons pe_int pa_nil))) pa_nil))))
      (pss_k (ps_if (pt_cmpR op_eq (pe_op op_md (pc0 (ok_law_cell_at T) (hr.mono (by decide)) (pa_cons (pv 0) (pa_cons pe_int pa_nil))) pe_int) pe_int (nomark _)) (pss_one (ps_set (i := 2) sc_law.nd rfl (Or.inl rfl) (pv 1))) pss_nil)
      (pss_cons (ps_set (i := 3) sc_law.nd rfl (Or.inl rfl) (pe_lst pa_nil))
      (pss_cons (ps_fo (passes_of rfl) rfl (pi_list (pe_slice sl_list (pv 0) (po_some pe_int) (po_some pe_int))) (pg_name (i := 4) sc_law.nd rfl (Or.inl rfl)) (pss_one (ps_expr (pe_bm PySem.F.plainAttrs_list PySem.F.slot_list_append PySem.F.type_list_append mt_append (pv 3) (pa_cons (pc0 (ok_law_lowest T) (hr.mono (by decide)) (pa_cons (pe_op op_sub (pe_op op_md (pe_op op_dv (pv 4) pe_int) (pe_op op_add (pe_op op_ml pe_int (pe_op op_pow pe_int pe_int)) pe_int)) (pe_op op_pow pe_int pe_int)) (pa_cons (pe_op op_add pe_int (pe_op op_md (pv 4) pe_int)) pa_nil))) pa_nil)))))
      (pss_cons (ps_if (PW.pt (pw_or (pt_not (pt_val (pc0 (ok_law_two T) (hr.mono (by decide)) (pa_cons (pv 1) (pa_cons (pv 2) pa_nil))))) (pw_or1 (pt_not (pt_val (pc0 (ok_law_two T) (hr.mono (by decide)) (pa_cons (pv 2) (pa_cons (pv 1) pa_nil)))))))) (pss_one (ps_ret pe_bl)) pss_nil)
      (pss_one (ps_ret (pc0 (ok_law_row T) (hr.mono (by decide)) (pa_cons (pv 3) (pa_cons (pe_cmpR op_eq (pe_op op_md (pe_op op_dv (pc0 (ok_law_cell_at T) (hr.mono (by decide)) (pa_cons (pv 0) (pa_cons pe_int pa_nil))) pe_int) pe_int) pe_int (nomark _)) pa_nil))))))))))), ?_⟩
  walk_at "go"
  intro v1 H1 s1 d1
  walk_at "go"
  intro v2 H2 s2 d2
  walk_at "go"
  have z1 := am1_sz (ns.getD 0 0) (ns.getD 1 0)
  have z2 := am1_sz (ns.getD 2 0) (ns.getD 3 0)
  refine k_by (fun σ' H' => Bx (∃ (vo : V) (qo : Rat), σ' = [some (.ref a), some v1, some vo, none, none] ∧ H' = H2 ∧ Amt K H2 vo qo ∧ Sz 134 qo)) ?_ ?_
  · walk_at "go"
    walk_at "if"
    · intro _
      walk_at "go"
      exact ⟨v1, _, rfl, rfl, dp_same s2 d1, z1⟩
    · intro _
      exact ⟨v2, _, rfl, rfl, d2, z2⟩
  · rintro σ' H' ⟨vo, qo, rfl, rfl, do1, zo⟩
    have d1' : Amt K H' v1 _ := dp_same s2 d1
    have hS2 := (s1.trans s2).seq hS
    walk_at "go"
    intro p np
    have sp := Same.new (o := .lst []) np
    walk_at "go"
    intro q nq
    have sq := Same.new (o := .lst (cutV (ns.map V.int) (some 5) (some 65))) nq
    have hqp : q ≠ p := fun e => by rw [e, upd_same] at nq; cases nq
    have hcut : cutV (ns.map V.int) (some 5) (some 65) = ((ns.drop 5).take 60).map V.int := cut_ints ns 5 65 (by decide)
    generalize hc : (ns.drop 5).take 60 = cs at hcut
    have hcl : cs.length ≤ 60 := by rw [← hc, List.length_take]; omega
    walk_at "go"
    refine lr_list (xs := cs.map V.int) (fun i σ H3 => Bx (∃ (xs : List V) (o4 : Option V), σ = [some (.ref a), some v1, some vo, some (.ref p), o4] ∧ Same H' H3 ∧ H3 p = some (.lst xs) ∧ SqL K H3 q (cs.map V.int) ∧ DpAll K H3 xs ((cs.take i).map fun c => amtD (cell12 c)))) ?_ ?_ ?_ ?_
    · refine ⟨[], none, rfl, sp.trans sq, ?_, ?_, .nil⟩
      · rw [upd_ne hqp.symm, upd_same]
      · rw [← hcut]; exact sql_new
    · rintro i σ H3 _ ⟨xs, o4, rfl, s3, hp, hq, hD⟩
      exact hq
    · rintro i x σ H3 hx ⟨xs, o4, rfl, s3, hp, hq, hD⟩
      obtain ⟨c, hci, rfl⟩ := ints_at hx
      have h2 := fmod_rng c (b := 12) (by decide)
      have hn : 1 + c.fmod 12 ≠ 0 := by omega
      walk_at "go"
      · exact Bit.mono (Bit.of 12 (by omega) (by decide) : Bit 4 _) (by decide)
      · omega
      · intro v5 H5 s5 d5
        have hp5 := s5 _ _ hp
        have hxl : xs.length ≤ 60 := by rw [dps_len hD, List.length_map, List.length_take]; omega
        walk_at "go"
        · exact lt_size (by omega)
        · refine ⟨xs ++ [v5], _, rfl, Same.mut (s3.trans s5) np, upd_same, sql_mut hqp (s5.seq hq), ?_⟩
          rw [take_succ hci, List.map_append]
          exact dps_app (dps_mut hp5 (noLs_map (fun c => noL_amt _) _) (dps_same s5 hD)) (.cons (dp_mut hp5 (noL_amt _) d5) .nil)
    · rintro σ H3 ⟨xs, o4, rfl, s3, hp, hq, hD⟩
      rw [List.length_map, List.take_length] at hD
      have d13 := dp_same s3 d1'
      have d23 := dp_same s3 do1
      have hS3 := s3.seq hS2
      walk_at "go"
      intro H5 s5
      walk_at "go"
      intro H6 s6
      have dR : Dp K H6 (.ref p) (.list ((cs.map cell12).map amtD)) := by
        rw [List.map_map]; exact .lst (s6.seq (s5.seq (.inl (.inl hp)))) (dps_same s6 (dps_same s5 hD))
      walk_at "go"
      · rw [List.length_map]; exact hcl
      · intro q hq
        obtain ⟨c, _, rfl⟩ := List.mem_map.mp hq
        exact cell12_row c
      · intro H7 _
        exact k H7
end

def dd_is_whole : He.DefD := ⟨("is_whole", none), "is_whole", "is_whole", defArgs s_is_whole, defBody s_is_whole, defScope s_is_whole, [], []⟩
def dd_divisor : He.DefD := ⟨("divisor", none), "divisor", "divisor", defArgs s_divisor, defBody s_divisor, defScope s_divisor, [], []⟩
def dd_amount : He.DefD := ⟨("amount", none), "amount", "amount", defArgs s_amount, defBody s_amount, defScope s_amount, [.int 1], []⟩
def dd_plus : He.DefD := ⟨("plus", none), "plus", "plus", defArgs s_plus, defBody s_plus, defScope s_plus, [], []⟩
def dd_minus : He.DefD := ⟨("minus", none), "minus", "minus", defArgs s_minus, defBody s_minus, defScope s_minus, [], []⟩
def dd_half : He.DefD := ⟨("half", none), "half", "half", defArgs s_half, defBody s_half, defScope s_half, [], []⟩
def dd_less : He.DefD := ⟨("less", none), "less", "less", defArgs s_less, defBody s_less, defScope s_less, [], []⟩
def dd_law_cell_at : He.DefD := ⟨("_law_cell_at", none), "_law_cell_at", "_law_cell_at", defArgs s_law_cell_at, defBody s_law_cell_at, defScope s_law_cell_at, [], []⟩
def dd_law_whole : He.DefD := ⟨("_law_whole", none), "_law_whole", "_law_whole", defArgs s_law_whole, defBody s_law_whole, defScope s_law_whole, [], []⟩
def dd_law_divisor : He.DefD := ⟨("_law_divisor", none), "_law_divisor", "_law_divisor", defArgs s_law_divisor, defBody s_law_divisor, defScope s_law_divisor, [], []⟩
def dd_law_lowest : He.DefD := ⟨("_law_lowest", none), "_law_lowest", "_law_lowest", defArgs s_law_lowest, defBody s_law_lowest, defScope s_law_lowest, [], []⟩
def dd_law_amount : He.DefD := ⟨("_law_amount", none), "_law_amount", "_law_amount", defArgs s_law_amount, defBody s_law_amount, defScope s_law_amount, [], []⟩
def dd_law_right : He.DefD := ⟨("_law_right", none), "_law_right", "_law_right", defArgs s_law_right, defBody s_law_right, defScope s_law_right, [], []⟩
def dd_law_two : He.DefD := ⟨("_law_two", none), "_law_two", "_law_two", defArgs s_law_two, defBody s_law_two, defScope s_law_two, [], []⟩
def dd_law_row : He.DefD := ⟨("_law_row", none), "_law_row", "_law_row", defArgs s_law_row, defBody s_law_row, defScope s_law_row, [], []⟩
def dd_law : He.DefD := ⟨("law", none), "law", "law", defArgs s_law, defBody s_law, defScope s_law, [], []⟩
def hfa : List He.Fa := [.glo "is_whole", .glo "divisor", .glo "amount", .glo "plus", .glo "minus", .glo "half", .glo "less", .glo "_law_cell_at", .glo "_law_whole", .glo "_law_divisor", .glo "_law_lowest", .glo "_law_amount", .glo "_law_right", .glo "_law_two", .glo "_law_row", .glo "law", .glo "TreeError", .glo "NoAmount", .free "isinstance", .free "int", .free "bool", .free "abs", .free "len", .free "tuple", .exc "NoAmount"]
def hfn : List He.DefD := [dd_is_whole, dd_divisor, dd_amount, dd_plus, dd_minus, dd_half, dd_less, dd_law_cell_at, dd_law_whole, dd_law_divisor, dd_law_lowest, dd_law_amount, dd_law_right, dd_law_two, dd_law_row, dd_law]
def loose : List PySem.Str := (["TreeError", "NoAmount", "is_whole", "divisor", "amount", "plus", "minus", "half", "less", "_law_cell_at", "_law_whole", "_law_divisor", "_law_lowest", "_law_amount", "_law_right", "_law_two", "_law_row"] : List PySem.Str)
abbrev R : PySem.W.OpenRow := PySem.W.OpenLaw.row PySem.Challenge.rw_limbmap_k02_sums_and_order
abbrev hk : PySem.W.Hook := He.hookD 4 hfa hfn
def ob (s : PySem.W.SharedT) : He.AlD := He.obsDG 4 hfa hfn (HandSHeadRun.getT s)
theorem ob_eq (s : PySem.W.SharedT) : ob s = hk.obs s.abs := He.obsDG_eq (HandSHeadRun.getT_eq s)
theorem run (w : World) : HandSHeadRun.RunEq R (PySem.W.view R.prog [20]) hk ob 3000 loose w := by
  intro os
  kernel_rfl
theorem txt_of {K : PySem.W.Frag} {h : Heap} {mg : Str → Option Value} (X : K.In h) (G : h.Ns mainGlobals mg) (c : He.SaysD hfa hfn K) : Txt K mg :=
  { g_is_whole := He.glo_ok X G (c.fact 0 (f := .glo "is_whole") rfl),
    g_divisor := He.glo_ok X G (c.fact 1 (f := .glo "divisor") rfl),
    g_amount := He.glo_ok X G (c.fact 2 (f := .glo "amount") rfl),
    g_plus := He.glo_ok X G (c.fact 3 (f := .glo "plus") rfl),
    g_minus := He.glo_ok X G (c.fact 4 (f := .glo "minus") rfl),
    g_half := He.glo_ok X G (c.fact 5 (f := .glo "half") rfl),
    g_less := He.glo_ok X G (c.fact 6 (f := .glo "less") rfl),
    g_law_cell_at := He.glo_ok X G (c.fact 7 (f := .glo "_law_cell_at") rfl),
    g_law_whole := He.glo_ok X G (c.fact 8 (f := .glo "_law_whole") rfl),
    g_law_divisor := He.glo_ok X G (c.fact 9 (f := .glo "_law_divisor") rfl),
    g_law_lowest := He.glo_ok X G (c.fact 10 (f := .glo "_law_lowest") rfl),
    g_law_amount := He.glo_ok X G (c.fact 11 (f := .glo "_law_amount") rfl),
    g_law_right := He.glo_ok X G (c.fact 12 (f := .glo "_law_right") rfl),
    g_law_two := He.glo_ok X G (c.fact 13 (f := .glo "_law_two") rfl),
    g_law_row := He.glo_ok X G (c.fact 14 (f := .glo "_law_row") rfl),
    g_law := He.glo_ok X G (c.fact 15 (f := .glo "law") rfl),
    g_TreeError := He.glo_ok X G (c.fact 16 (f := .glo "TreeError") rfl),
    g_NoAmount := He.glo_ok X G (c.fact 17 (f := .glo "NoAmount") rfl),
    z_isinstance := He.free_ok X G (c.fact 18 (f := .free "isinstance") rfl),
    z_int := He.free_ok X G (c.fact 19 (f := .free "int") rfl),
    z_bool := He.free_ok X G (c.fact 20 (f := .free "bool") rfl),
    z_abs := He.free_ok X G (c.fact 21 (f := .free "abs") rfl),
    z_len := He.free_ok X G (c.fact 22 (f := .free "len") rfl),
    z_tuple := He.free_ok X G (c.fact 23 (f := .free "tuple") rfl),
    x_NoAmount := He.exc_ok (c.fact 24 (f := .exc "NoAmount") rfl),
    d_is_whole := c.def_ 0 (d := dd_is_whole) rfl,
    d_divisor := c.def_ 1 (d := dd_divisor) rfl,
    d_amount := c.def_ 2 (d := dd_amount) rfl,
    d_plus := c.def_ 3 (d := dd_plus) rfl,
    d_minus := c.def_ 4 (d := dd_minus) rfl,
    d_half := c.def_ 5 (d := dd_half) rfl,
    d_less := c.def_ 6 (d := dd_less) rfl,
    d_law_cell_at := c.def_ 7 (d := dd_law_cell_at) rfl,
    d_law_whole := c.def_ 8 (d := dd_law_whole) rfl,
    d_law_divisor := c.def_ 9 (d := dd_law_divisor) rfl,
    d_law_lowest := c.def_ 10 (d := dd_law_lowest) rfl,
    d_law_amount := c.def_ 11 (d := dd_law_amount) rfl,
    d_law_right := c.def_ 12 (d := dd_law_right) rfl,
    d_law_two := c.def_ 13 (d := dd_law_two) rfl,
    d_law_row := c.def_ 14 (d := dd_law_row) rfl,
    d_law := c.def_ 15 (d := dd_law) rfl }
theorem facts {P : Program} {w : World} {K : PySem.W.Frag} {h : Heap} {mg : Str → Option Value} {f : Addr} (X : K.In h) (G : h.Ns mainGlobals mg) (hmg : mg ("law" : Str) = some (.ref f)) (c : He.SaysD hfa hfn K) :
    ∃ fd : FuncData, (∀ (s : Shared) (v : Value), BindsTo s fd ⟨[v], []⟩ [("_law_script", v)]) ∧ ∀ base : Heap, K.In base → base.Ns mainGlobals mg → FnOk P w K mg base (L2.CX P w) 5 f fd ["_law_script"] (sp_law K) := by
  have T := txt_of X G c
  have e := hmg.symm.trans T.g_law
  cases e
  obtain ⟨fd, F⟩ := T.d_law
  have b := FunD.bindsA (ps := ["_law_script"]) F fun _ _ _ _ _ _ us hl => match us, hl with | [_], _ => rfl
  exact ⟨fd, fun s v => b s [v] rfl, fun base _ _ => law_fn T F⟩
end Lim
open PySem PySem.W PySem.Calls PyProof.Rows
theorem PySem.Challenge.cw_limbmap_k02_sums_and_order_holds : PySem.Challenge.rw_limbmap_k02_sums_and_order.Holds := by
  w_on; o_law
  refine HandSHeadRun.head_any (r := OpenLaw.row PySem.Challenge.rw_limbmap_k02_sums_and_order) (q := view (OpenLaw.row PySem.Challenge.rw_limbmap_k02_sums_and_order).prog [20]) (H := Lim.hk) (ob := Lim.ob) (M := 3000) (loose := Lim.loose) (d := HandSHeadRun.topDef (OpenLaw.row PySem.Challenge.rw_limbmap_k02_sums_and_order).prog 20) (kwd := []) Lim.ob_eq
    (by kernel_rfl) (fun s => by kernel_rfl) Lim.run (by kernel_rfl) (by kernel_rfl) (by kernel_rfl) (by rfl) (by first | assumption | decide +kernel) (by decide +kernel) ⟨rfl, rfl, rfl, rfl, rfl, by decide +kernel⟩ ?hw ?hc
  case hw => w_witness2
  case hc =>
    refine Lim.walk_ofEB (l := PySem.Challenge.rw_limbmap_k02_sums_and_order) (n := 63) (k := 5) (x := "_law_script") rfl (by decide) (by kernel_rfl) ⟨rfl, by decide, by decide⟩ ?F
    intro w mg fa h Y G hmg0
    obtain ⟨K, KX, c⟩ := Y
    have hmg : mg ("law" : PySem.Str) = some (.ref fa) := by
      have e : (HandSHeadRun.topDef (OpenLaw.row PySem.Challenge.rw_limbmap_k02_sums_and_order).prog 20).name = ("law" : PySem.Str) := by kernel_rfl
      rw [← e]
      exact hmg0
    obtain ⟨fd, hb, hF⟩ := Lim.facts (P := (PySem.Challenge.rw_limbmap_k02_sums_and_order).prog) (w := w) KX G hmg c
    exact ⟨K, fd, Lim.sp_law K, KX, hb, fun H a ns hl hbt hO hS => ⟨a, ns, rfl, hS, hl, hbt, fun _ => rfl⟩, hF⟩


