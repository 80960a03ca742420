import PyProof.Rows.All
import Wide.All
import OpenK.AllK
import Wide.FinOn
import KE.KStateDown
import HandS.ForMost
import HandS.Exc
import HandS.TryOnly
import HandS.ExcOwn
import HandS.WordsExc
import HandS.IsInst
import HandS.ExcIs
import HandS.Wide
import HandS.WideBits
import HandS.Defaults
import HandS.Flow
import HandS.Style
import HandS.SortInts
import HandS.EndBits
import HandS.HeadEnd
import HandS.Head0
import HandS.Head1
import HandS.Head2
import HandS.HeadHook1
import HandS.HeadHook2
import PySem.Challenge.RW_limbmap_k01_an_amount
set_option Elab.async false
set_option linter.all false
set_option maxRecDepth 100000
set_option maxHeartbeats 4000000
namespace Lim
/-! amounts: fractions in lowest terms are Rat -/
theorem gcd_fmod (a b : Int) : Int.gcd b (a.fmod b) = Int.gcd a b := by
  have h : a.fmod b = a + b * (-(a.fdiv b)) := by
    have := Int.fmod_add_mul_fdiv a b
    rw [Int.mul_neg]; omega
  rw [h, Int.gcd_add_mul_left_right, Int.gcd_comm]
theorem fmod_lt (a : Int) {b : Int} (h : b ≠ 0) : (a.fmod b).natAbs < b.natAbs := by
  rcases Int.lt_or_gt_of_ne h with hb | hb
  · have e := Int.neg_fmod_neg (-a) (-b)
    have h1 := Int.fmod_nonneg_of_pos (-a) (b := -b) (by omega)
    have h2 := Int.fmod_lt_of_pos (-a) (b := -b) (by omega)
    simp only [Int.neg_neg] at e
    omega
  · have h1 := Int.fmod_nonneg_of_pos a hb
    have h2 := Int.fmod_lt_of_pos a hb
    omega
theorem fdiv_of_dvd {a g : Int} (h : g ∣ a) : a.fdiv g = a / g := by
  exact Int.fdiv_eq_ediv_of_dvd h
/-- the greatest divisor with the lower one's sign -/
def share (t b : Int) : Int := if b < 0 then 0 - (Int.gcd t b : Int) else (Int.gcd t b : Int)
theorem share_dvd_left (t b : Int) : share t b ∣ t := by
  unfold share
  have := Int.gcd_dvd_left t b
  split
  · rw [Int.zero_sub]; exact Int.neg_dvd.mpr this
  · exact this
theorem share_dvd_right (t b : Int) : share t b ∣ b := by
  unfold share
  have := Int.gcd_dvd_right t b
  split
  · rw [Int.zero_sub]; exact Int.neg_dvd.mpr this
  · exact this
theorem share_ne {t b : Int} (h : b ≠ 0) : share t b ≠ 0 := by
  have : Int.gcd t b ≠ 0 := by
    rw [Ne, Int.gcd_eq_zero_iff]; omega
  unfold share; split <;> omega
theorem amount_num {t b : Int} (h : b ≠ 0) : t.fdiv (share t b) = (Rat.divInt t b).num := by
  rw [fdiv_of_dvd (share_dvd_left t b), Rat.num_divInt, Int.gcd_comm b t]
  unfold share
  rcases Int.lt_or_gt_of_ne h with hb | hb
  · rw [if_pos hb, Int.sign_eq_neg_one_of_neg hb, Int.zero_sub, Int.ediv_neg]
    rw [show (-1 : Int) * t = -t by omega, Int.neg_ediv_of_dvd (Int.gcd_dvd_left _ _)]
  · rw [if_neg (by omega), Int.sign_eq_one_of_pos hb, Int.one_mul]
theorem amount_den {t b : Int} (h : b ≠ 0) : b.fdiv (share t b) = ((Rat.divInt t b).den : Int) := by
  rw [fdiv_of_dvd (share_dvd_right t b), Rat.den_divInt, if_neg h, Int.gcd_comm b t]
  unfold share
  rcases Int.lt_or_gt_of_ne h with hb | hb
  · rw [if_pos hb, Int.zero_sub, Int.ediv_neg, Int.natCast_ediv, ← Int.neg_ediv_of_dvd (Int.gcd_dvd_right _ _)]
    congr 1; omega
  · rw [if_neg (by omega), Int.natCast_ediv]
    congr 1; omega
theorem divInt_add (p q : Rat) : Rat.divInt (p.num * (q.den : Int) + q.num * (p.den : Int)) ((p.den : Int) * (q.den : Int)) = p + q := by
  have h1 : (p.den : Int) ≠ 0 := by have := p.den_nz; omega
  have h2 : (q.den : Int) ≠ 0 := by have := q.den_nz; omega
  rw [← Rat.divInt_add_divInt _ _ h1 h2, Rat.num_divInt_den, Rat.num_divInt_den]
theorem divInt_sub (p q : Rat) : Rat.divInt (p.num * (q.den : Int) - q.num * (p.den : Int)) ((p.den : Int) * (q.den : Int)) = p - q := by
  have h1 : (p.den : Int) ≠ 0 := by have := p.den_nz; omega
  have h2 : (q.den : Int) ≠ 0 := by have := q.den_nz; omega
  rw [← Rat.divInt_sub_divInt _ _ h1 h2, Rat.num_divInt_den, Rat.num_divInt_den]
theorem divInt_half (p : Rat) : Rat.divInt p.num (2 * (p.den : Int)) = p / 2 := by
  have h1 : (p.den : Int) ≠ 0 := by have := p.den_nz; omega
  have e : p / 2 = Rat.divInt p.num p.den * Rat.divInt 1 2 := by
    rw [Rat.num_divInt_den, Rat.div_def, show Rat.divInt 1 2 = (2 : Rat)⁻¹ by rw [Rat.divInt_eq_div]; grind]
  rw [e, Rat.divInt_mul_divInt, Int.mul_one, Int.mul_comm]
theorem rat_lt (p q : Rat) : decide (p.num * (q.den : Int) < q.num * (p.den : Int)) = decide (p < q) := by
  rw [decide_eq_decide]; exact (Rat.lt_iff p q).symm
theorem den_ge (p : Rat) : (1 : Int) ≤ p.den := by have := p.den_pos; omega
theorem den_ne (p : Rat) : (p.den : Int) ≠ 0 := by have := p.den_pos; omega
theorem red (p : Rat) : Int.gcd p.num (p.den : Int) = 1 := by
  have := p.reduced
  rw [Int.gcd_eq_natAbs_gcd_natAbs, Int.natAbs_natCast]; exact this
/-- n over d, in lowest terms, is worth t over b -/
theorem worth {t b : Int} (hb : b ≠ 0) : (Rat.divInt t b).num * b = t * ((Rat.divInt t b).den : Int) := by
  have e := Rat.num_divInt_den (Rat.divInt t b)
  exact (Rat.divInt_eq_divInt_iff (den_ne _) hb).mp e
/-- lowest terms are told by their worth -/
theorem rat_of {n d : Int} (h1 : 1 ≤ d) (hg : Int.gcd n d = 1) : (Rat.divInt n d).num = n ∧ ((Rat.divInt n d).den : Int) = d := by
  rw [Rat.num_divInt, Rat.den_divInt, if_neg (by omega), Int.gcd_comm d n, hg, Int.sign_eq_one_of_pos (by omega)]
  constructor <;> simp <;> omega
end Lim
namespace Lim
/-! sizes -/
def Bit (n : Nat) (i : Int) : Prop := i.natAbs < 2 ^ n
theorem Bit.mono {n m : Nat} {i : Int} (h : Bit n i) (l : n ≤ m) : Bit m i := Nat.lt_of_lt_of_le h (Nat.pow_le_pow_right (by decide) l)
theorem Bit.le {n : Nat} {i j : Int} (h : Bit n j) (l : i.natAbs ≤ j.natAbs) : Bit n i := Nat.lt_of_le_of_lt l h
theorem Bit.mul {a b : Nat} {i j : Int} (ha : Bit a i) (hb : Bit b j) : Bit (a + b) (i * j) := by
  unfold Bit at *
  rw [Int.natAbs_mul, Nat.pow_add]
  exact Nat.mul_lt_mul'' ha hb
theorem Bit.add {a : Nat} {i j : Int} (ha : Bit a i) (hb : Bit a j) : Bit (a + 1) (i + j) := by
  unfold Bit at *
  rw [Nat.pow_succ]; omega
theorem Bit.sub {a : Nat} {i j : Int} (ha : Bit a i) (hb : Bit a j) : Bit (a + 1) (i - j) := by
  unfold Bit at *
  rw [Nat.pow_succ]; omega
theorem Bit.neg {a : Nat} {i : Int} (ha : Bit a i) : Bit a (0 - i) := by
  unfold Bit at *; omega
/-- by a decidable bound -/
theorem Bit.of {n : Nat} {i : Int} (B : Nat) (h : i.natAbs ≤ B) (hB : B < 2 ^ n) : Bit n i := Nat.lt_of_le_of_lt h hB
structure Sz (n : Nat) (q : Rat) : Prop where
  num : Bit n q.num
  den : Bit n (q.den : Int)
theorem Sz.mono {n m : Nat} {q : Rat} (h : Sz n q) (l : n ≤ m) : Sz m q := ⟨h.num.mono l, h.den.mono l⟩
theorem natAbs_ediv_le (a b : Int) : (a / b).natAbs ≤ a.natAbs := Int.natAbs_ediv_le_natAbs a b
theorem Sz.divInt {n : Nat} {t b : Int} (hb : b ≠ 0) (h1 : Bit n t) (h2 : Bit n b) : Sz n (Rat.divInt t b) := by
  constructor
  · rw [← amount_num hb, fdiv_of_dvd (share_dvd_left t b)]
    exact h1.le (natAbs_ediv_le _ _)
  · rw [← amount_den hb, fdiv_of_dvd (share_dvd_right t b)]
    exact h2.le (natAbs_ediv_le _ _)
theorem den_mul_ne (p q : Rat) : (p.den : Int) * (q.den : Int) ≠ 0 := Int.mul_ne_zero (den_ne p) (den_ne q)
theorem Sz.add {a b : Nat} {p q : Rat} (h1 : Sz a p) (h2 : Sz b q) : Sz (a + b + 1) (p + q) := by
  rw [← divInt_add p q]
  refine Sz.divInt (den_mul_ne p q) ?_ ?_
  · have e := (h2.num.mul h1.den); rw [Nat.add_comm] at e
    exact (h1.num.mul h2.den).add e
  · exact (h1.den.mul h2.den).mono (by omega)
theorem Sz.sub {a b : Nat} {p q : Rat} (h1 : Sz a p) (h2 : Sz b q) : Sz (a + b + 1) (p - q) := by
  rw [← divInt_sub p q]
  refine Sz.divInt (den_mul_ne p q) ?_ ?_
  · have e := (h2.num.mul h1.den); rw [Nat.add_comm] at e
    exact (h1.num.mul h2.den).sub e
  · exact (h1.den.mul h2.den).mono (by omega)
theorem Sz.zero : Sz 1 0 := ⟨by show (0:Int).natAbs < 2 ^ 1; decide, by show (1:Int).natAbs < 2 ^ 1; decide⟩
theorem share_le {t b : Int} (h : b ≠ 0) : (share t b).natAbs ≤ b.natAbs := by
  have := Int.natAbs_dvd_natAbs.mpr (share_dvd_right t b)
  exact Nat.le_of_dvd (by omega) this
theorem Sz.half {a : Nat} {p : Rat} (h : Sz a p) : Sz (a + 2) (p / 2) := by
  rw [← divInt_half p]
  refine Sz.divInt (by have := den_ne p; omega) (h.num.mono (by omega)) ?_
  have : Bit 2 2 := by unfold Bit; decide
  exact ((this.mul h.den).mono (by omega))
end Lim
namespace Lim
open PySem PySem.Spec PyProof.Rows L2
/-! defs as they stand, bundled -/
abbrev FnP (K : PySem.W.Frag) (x : Str) (st : Stmt) (dvs : List V) : Prop := ∃ fd, FunD K x x (defArgs st) (defBody st) (defScope st) dvs [] (He.ga K x) fd
/-- a def called by its name keeps its promise; dvs: what the defaults fill in behind the written arguments -/
structure Def (P : Program) (w : World) (K : PySem.W.Frag) (mg : Str → Option Value) (base : Heap) (k : Nat) (x : Str) (ps : List Str) (dvs : List V) (sp : Sp) : Prop where
  ex : ∃ fd ds, FnOk P w K mg base (L2.CX P w) k (He.ga K x) fd ps sp ∧ Vals dvs ds ∧ Binds K fd ps ds
  m : mg x = some (.ref (He.ga K x))
  kp : PySem.W.keepIn K (.ref (He.ga K x)) = true
section
variable {X : Cx} {k : Nat} {ps : List Str} {sp : Sp} {dvs : List V} {x : Str} {p pos : Pos} {e : Expr} {es : List Expr} {t : TA} {W : WX}
/-- f(e, ..), what it raises is wished for at the slots as they stand -/
def tCl (sp : Sp) (dvs : List V) (W : WX) (t : TA) : TE := fun σ H Q => t σ H fun vs H1 => sp (vs ++ dvs) H1 Q fun c d H' => W c d σ H'
/-- .. that raises nothing -/
def tC0 (sp : Sp) (dvs : List V) (t : TA) : TE := fun σ H Q => t σ H fun vs H1 => sp (vs ++ dvs) H1 Q E0
theorem pcl (D : Def X.prog X.w X.K X.mg X.base k x ps dvs sp) (hr : Room k X.A) (tk : Takes X W) (ha : PA X (e :: es) t) (hg : Gl X x := by rfl) (hdb : (x == ("__debug__" : Str)) = false := by decide)
    (he : starEach (e :: es) X.env = (false, eval e X.env) :: starEach es X.env := by rfl) (hpl : (backTo pos (starEach es X.env)).any (·.1) = false := by rfl) :
    PE X (.Call (.Name x p) (e :: es) [] pos) (tCl sp dvs W t) := by
  obtain ⟨⟨fd, ds, F, rd, hb⟩, hm, hk⟩ := D
  refine ⟨fun pins s σ H Q I h => wpAny_Call_Name_kw (ld_glob I hg hm ?_ hdb)⟩
  refine PySem.W.callWith_K (h₀ := X.base) I.ok.mod.kin hk (thn (ha.run pos pins s σ H _ I h) fun us s1 ⟨vs, H1, I1, r, q⟩ => ⟨I1.kIn, ?_⟩) he hpl
  have r2 : Vals (vs ++ dvs) (us ++ ds) := r.append rd
  have hl : (us ++ ds).length = ps.length := r2.length.symm.trans (F.len _ _ _ _ q)
  refine wpAny_call (codeAny_mono (F.run X.A X.stack s1 H1 ⟨us, []⟩ (us ++ ds) (vs ++ dvs) Q _ hr I1.env0 (hb s1 us I1.kIn hl) r2 q) fun z s' hq => ?_)
  cases z with
  | error u => exact passAt tk σ pins H1 s1 u s' I1 hq
  | ok fl =>
    cases fl with
    | ret u => exact I1.after hq
    | next => exact hq.elim
    | brk => exact hq.elim
    | cont => exact hq.elim
theorem pc0 (D : Def X.prog X.w X.K X.mg X.base k x ps dvs sp) (hr : Room k X.A) (ha : PA X (e :: es) t) (hg : Gl X x := by rfl) (hdb : (x == ("__debug__" : Str)) = false := by decide)
    (he : starEach (e :: es) X.env = (false, eval e X.env) :: starEach es X.env := by rfl) (hpl : (backTo pos (starEach es X.env)).any (·.1) = false := by rfl) :
    PE X (.Call (.Name x p) (e :: es) [] pos) (tC0 sp dvs t) := by
  obtain ⟨⟨fd, ds, F, rd, hb⟩, hm, hk⟩ := D
  exact pe_call F hr hg hm hk hb rd passL ha hdb he hpl
end
section
variable {P : Program} {w : World} {K : PySem.W.Frag} {mg : Str → Option Value} {base : Heap}
/-- a def without defaults -/
theorem def_ok {x : Str} {st : Stmt} {N ps : List Str} {k : Nat} {sp : Sp} (g : mg x = some (.ref (He.ga K x))) (F : FnP K x st []) (S : FnScope N ps (defScope st)) (len : ∀ vs H Q E, sp vs H Q E → vs.length = ps.length)
    (hb : ∀ (kV doc pm : Value) (an : Option Addr) (cdv ct : Value) (us : List Value), us.length = ps.length → bindArgs (PySem.W.fnOf x x (defArgs st) (defBody st) (defScope st) .none kV doc pm an cdv ct) ⟨us, []⟩ = pure (ps.zip us))
    (body : ∀ (cdv : Value) (A : Around) (outer : List Env) (s : Shared) (H : Hp) (vs : List V) (Q : VK) (E : XK), Room k (A.deeper (envOfC x (defScope st) s.heap.objs.size (He.ga K x) cdv)) → sp vs H Q E →
      ∃ t, PSs (cxOf (L2.CX P w) P w K mg base N x (defScope st) (He.ga K x) cdv A outer s H E) (defBody st) t ∧ t { nx := fun _ H' => Q .non H', rt := Q } (start N vs) H) :
    Def P w K mg base (k + 1) x ps [] sp := by
  obtain ⟨fd, F⟩ := F
  exact ⟨⟨fd, [], F.ok S len body, .nil, F.bindsN hb⟩, g, F.kp⟩
/-- the same def, called with a default left out: n arguments are written -/
theorem def_dfl {x : Str} {st : Stmt} {N ps : List Str} {k : Nat} {dvs : List V} {sp : Sp} (g : mg x = some (.ref (He.ga K x))) (F : FnP K x st dvs) (n j : Nat) (hd : dvs ≠ []) (hn : n + (dvs.length - j) = ps.length) (S : FnScope N ps (defScope st)) (len : ∀ vs H Q E, sp vs H Q E → vs.length = ps.length)
    (hb : ∀ (T : Addr) (kV doc pm : Value) (an : Option Addr) (cdv ct : Value) (us its : List Value), us.length = n → its.length = dvs.length →
      ∃ k, bindArgs (PySem.W.fnOf x x (defArgs st) (defBody st) (defScope st) (.ref T) kV doc pm an cdv ct) ⟨us, []⟩ = seqItems? (.ref T) >>= k ∧ k (some its.toArray) = pure (ps.zip (us ++ its.drop j)))
    (body : ∀ (cdv : Value) (A : Around) (outer : List Env) (s : Shared) (H : Hp) (vs : List V) (Q : VK) (E : XK), Room k (A.deeper (envOfC x (defScope st) s.heap.objs.size (He.ga K x) cdv)) → sp vs H Q E →
      ∃ t, PSs (cxOf (L2.CX P w) P w K mg base N x (defScope st) (He.ga K x) cdv A outer s H E) (defBody st) t ∧ t { nx := fun _ H' => Q .non H', rt := Q } (start N vs) H) :
    Def P w K mg base (k + 1) x ps (dvs.drop j) sp := by
  obtain ⟨fd, F⟩ := F
  obtain ⟨ds, r, b⟩ := F.binds1 n j hd hn hb
  exact ⟨⟨fd, ds, F.ok S len body, r, b⟩, g, F.kp⟩
end
/-! operations -/
structure CDv (i j : Int) : Prop where
  nz : j ≠ 0
  lt : j.natAbs.log2 < 9000
structure CNz (i j : Int) : Prop where
  nz : j ≠ 0
section
variable {X : Cx}
theorem op_dv : OpR X (binaryOp .FloorDiv) (rI CDv fun i j => .int (i.fdiv j)) := opI fun i j _ _ _ _ _ hc q => floordiv_int hc.nz q (.inl (PyProof.noPylong_of_log2 hc.lt))
theorem op_md : OpR X (binaryOp .Mod) (rI CNz fun i j => .int (i.fmod j)) := opI fun i j _ _ _ _ _ hc q => PyProof.Rows.mod_int hc.nz q
end
/-! ifs -/
theorem ifd {p : Prop} [Decidable p] {A B : Prop} (h1 : p → A) (h2 : ¬ p → B) : if decide p = true then A else B := by
  by_cases h : p
  · rw [if_pos (decide_eq_true h)]; exact h1 h
  · rw [if_neg (by simpa using h)]; exact h2 h
theorem ifn {p : Prop} [Decidable p] {A B : Prop} (h1 : ¬ p → A) (h2 : p → B) : if (!decide p) = true then A else B := by
  by_cases h : p
  · rw [if_neg (by simpa using h)]; exact h2 h
  · rw [if_pos (by simpa using h)]; exact h1 h
theorem ifb {b : Bool} {A B : Prop} (h1 : b = true → A) (h2 : b = false → B) : if b = true then A else B := by
  cases b
  · exact h2 rfl
  · exact h1 rfl
theorem ifv {p : V → V → Prop} {i j : Int} {A B : Prop} (h1 : i = j → A) (h2 : i ≠ j → B) : if decide (V.int i = V.int j) = true then A else B := by
  by_cases h : i = j
  · rw [if_pos (by rw [h]; simp)]; exact h1 h
  · rw [if_neg (by simpa using h)]; exact h2 h
/-! heaps -/
theorem Same.tup {K : PySem.W.Frag} {H H' : Hp} {a : Addr} {xs : List V} (e : Same H H') (h : SqT K H a xs) : SqT K H' a xs := by
  rcases h with (h | ⟨o, h⟩) | h
  · exact .inl (.inl (e _ _ h))
  · exact .inl (.inr ⟨o, e _ _ h⟩)
  · exact .inr h
theorem Same.new {H : Hp} {p : Addr} {o : HO} (h : H p = none) : Same H (upd H p o) := fun b x e => by rw [upd_ne (ne_of_none e h)]; exact e
end Lim
namespace Lim
open PySem PySem.Spec PyProof.Rows L2
section
variable {X : Cx}
theorem op_ml : OpR X (binaryOp .Mult) (rI IntMulOk fun i j => .int (i * j)) := opI fun _ _ _ _ _ _ _ hc q => PyProof.Rows.mul_int q hc
theorem pe_gint {x : Str} {i : Int} {pos : Pos} (h : ∃ t, X.mg x = some (.int i t)) (hg : Gl X x := by rfl) (hdb : (x == ("__debug__" : Str)) = false := by decide) : PE X (.Name x pos) (tC (.int i)) := by
  obtain ⟨t, h⟩ := h
  exact pe_glob hg h ⟨t, rfl⟩ hdb
theorem pe_gstr {x z : Str} {pos : Pos} (h : ∃ t, X.mg x = some (.str z t)) (hg : Gl X x := by rfl) (hdb : (x == ("__debug__" : Str)) = false := by decide) : PE X (.Name x pos) (tC (.str z)) := by
  obtain ⟨t, h⟩ := h
  exact pe_glob hg h ⟨t, rfl⟩ hdb
/-! loops, closed up: the walk stops there -/
@[irreducible] def LoopR (J : It) (g : TG) (tb : TS) (D : Ends) (σ : L2.St) (H1 : Hp) : Prop := ∃ W : Nat → Nat → L2.St → Hp → Prop, (∃ m, W 0 m σ H1) ∧ ∀ i m σ H, W i m σ H →
  (J.stop i H ∧ D.nx σ H) ∨ (J.go i H ∧ ∃ N : L2.St → Hp → Prop, (∀ σ' H', N σ' H' → ∃ m', m' < m ∧ W (i + 1) m' σ' H') ∧ ∀ x H', J.yld i H x H' → g x σ H' fun σ2 H2 => tb { D with nx := N, ct := N, bk := D.nx } σ2 H2)
def tF (wi : TI) (g : TG) (tb : TS) : TS := fun D σ H => wi σ H fun J H1 => LoopR J g tb D σ H1
theorem tF_eq : @tF = @tFor := by funext a b c D σ H; unfold tF tFor LoopR; rfl
@[irreducible] def tW (c : TT) (tb : TS) : TS := tWhile c tb
theorem tW_eq : @tW = @tWhile := by funext a b; unfold tW; rfl
theorem ps_fo {tg iter : Expr} {body : List Stmt} {wi : TI} {g : TG} {tb : TS} {pos : Pos} (hp : PassesOwn (model X.prog X.w) X.A X.env X.xe) (hc : X.calm = true) (hi : PI X tg iter wi) (hg : PG X tg g) (hb : PSs X body tb)
    (hs : ∀ x, foldedSetIterable iter X.env x = pure x := by intro _; rfl) : PS X (.For tg iter body [] pos) (tF wi g tb) := by
  rw [tF_eq]; exact ps_for hp hc hi hg hb hs
theorem ps_wh {c : Expr} {body : List Stmt} {tc : TT} {tb : TS} {pos : Pos} (hp : PassesOwn (model X.prog X.w) X.A X.env X.xe) (hc : PT X c tc) (hb : PSs X body tb) : PS X (.While c body [] pos) (tW tc tb) := by
  rw [tW_eq]; exact ps_while hp hc hb
/-- the ways behind a statement joined -/
@[irreducible] def tK (t u : TS) : TS := fun D σ H => ∃ Mid : L2.St → Hp → Prop, t { D with nx := Mid } σ H ∧ ∀ σ' H', Mid σ' H' → u D σ' H'
theorem pss_k {st : Stmt} {rest : List Stmt} {t u : TS} (h1 : PS X st t) (h2 : PSs X rest u) : PSs X (st :: rest) (tK t u) := by
  refine ⟨fun pins s σ H D I h => ?_⟩
  unfold tK at h
  obtain ⟨Mid, hm, hu⟩ := h
  refine wpAny_execs_cons (thn (h1.run pins s σ H { D with nx := Mid } I hm) fun f s1 q => ?_)
  cases f with
  | next =>
    obtain ⟨σ', H', I', q⟩ := q
    exact h2.run pins s1 σ' H' D I' (hu σ' H' q)
  | ret v => exact q
  | brk => exact q
  | cont => exact q
@[irreducible] def LcR (J : It) (g : TG) (tt : TT) (te : TE) (vs : List Nat) (σ : L2.St) (D : Addr) (H1 : Hp) (Q : VK) : Prop := ∃ W : Nat → Nat → Hp → Prop, (∃ m, W 0 m (upd H1 D (.lst []))) ∧ ∀ i m H, W i m H →
  (J.stop i H ∧ Q (.ref D) H) ∨ (J.go i H ∧ ∃ Nx : Hp → Prop, (∀ H', Nx H' → ∃ m', m' < m ∧ W (i + 1) m' H') ∧ ∀ x H', J.yld i H x H' → g x (wipe σ vs) H' fun σ2 H2 => wipe σ2 vs = wipe σ vs ∧ tt σ2 H2 fun b H3 =>
    if b = true then te σ2 H3 fun y H4 => ∃ acc, H4 D = some (.lst acc) ∧ acc.length < sizeLine ∧ Nx (upd H4 D (.lst (acc ++ [y]))) else Nx H3)
def tL (wi : TI) (g : TG) (tt : TT) (te : TE) (vs : List Nat) : TE := fun σ H Q => wi σ H fun J H1 => ∀ D, H1 D = none → LcR J g tt te vs σ D H1 Q
theorem tL_eq : @tL = @tLc := by funext a b c d e σ H Q; unfold tL tLc LcR; rfl
theorem pe_l {elt tg iter : Expr} {ifs : List Expr} {scope : Scope} {own : List (Str × Nat)} {pos : Pos} {wi : TI} {g : TG} {tt : TT} {te : TE} (hc : X.calm = true) (hN : X.N.Nodup) (hi : PI X tg iter wi) (ok : BlkOk X.N X.env.scope scope own)
    (hg : ∀ (s : Shared) (H : Hp) (C : Addr) (cl : List (Str × Addr)) (fp : List Addr), PG (X.blk s H scope (compEnvC scope cl C X.env) fp) tg g) (ht : ∀ (s : Shared) (H : Hp) (C : Addr) (cl : List (Str × Addr)) (fp : List Addr), PTs (X.blk s H scope (compEnvC scope cl C X.env) fp) ifs tt)
    (he : ∀ (s : Shared) (H : Hp) (C : Addr) (cl : List (Str × Addr)) (fp : List Addr), PE (X.blk s H scope (compEnvC scope cl C X.env) fp) elt te) (hs : ∀ x, foldedSetIterable iter X.env x = pure x := by intro _; rfl) :
    PE X (.ListComp elt [⟨tg, iter, ifs, 0⟩] scope pos) (tL wi g tt te (own.map (·.2))) := by
  rw [tL_eq]; exact pe_lc hc hN hi ok hg ht he hs
end
section
variable {K : PySem.W.Frag} {g : TG} {tb : TS} {D : Ends} {σ : L2.St} {H : Hp}
theorem k_by {t u : TS} (Mid : L2.St → Hp → Prop) (h1 : t { D with nx := Mid } σ H) (h2 : ∀ σ' H', Mid σ' H' → u D σ' H') : tK t u D σ H := by
  unfold tK; exact ⟨Mid, h1, h2⟩
/-- Pv i holds ahead of turn i -/
theorem lr_list {a : Addr} {xs : List V} (Pv : Nat → L2.St → Hp → Prop) (p0 : Pv 0 σ H) (hl : ∀ i σ H, i ≤ xs.length → Pv i σ H → SqL K H a xs)
    (hs : ∀ i x σ H, xs[i]? = some x → Pv i σ H → g x σ H fun σ2 H2 => tb { D with nx := Pv (i + 1), ct := Pv (i + 1), bk := D.nx } σ2 H2) (hd : ∀ σ H, Pv xs.length σ H → D.nx σ H) : LoopR (Itl K a) g tb D σ H := by
  unfold LoopR; exact for_list Pv p0 hl hs hd
theorem lr_tup {a : Addr} {xs : List V} (Pv : Nat → L2.St → Hp → Prop) (p0 : Pv 0 σ H) (hl : ∀ i σ H, i ≤ xs.length → Pv i σ H → SqT K H a xs)
    (hs : ∀ i x σ H, xs[i]? = some x → Pv i σ H → g x σ H fun σ2 H2 => tb { D with nx := Pv (i + 1), ct := Pv (i + 1), bk := D.nx } σ2 H2) (hd : ∀ σ H, Pv xs.length σ H → D.nx σ H) : LoopR (Itt K a) g tb D σ H := by
  unfold LoopR; exact for_tup Pv p0 hl hs hd
theorem lr_range {lo : Int} {n : Nat} (Pv : Nat → L2.St → Hp → Prop) (p0 : Pv 0 σ H)
    (hs : ∀ i σ H, i < n → Pv i σ H → g (.int (lo + i)) σ H fun σ2 H2 => tb { D with nx := Pv (i + 1), ct := Pv (i + 1), bk := D.nx } σ2 H2) (hd : ∀ σ H, Pv n σ H → D.nx σ H) : LoopR (Itr lo n) g tb D σ H := by
  unfold LoopR; exact for_range Pv p0 hs hd
/-- what is held ahead of a while's next turn -/
def WN (Pv : L2.St → Hp → Prop) (m : L2.St → Nat) (k : Nat) : L2.St → Hp → Prop := fun σ H => m σ < k ∧ Pv σ H
theorem wn {Pv : L2.St → Hp → Prop} {m : L2.St → Nat} {k : Nat} : ∀ σ' H', WN Pv m k σ' H' → ∃ m', m' < k ∧ (m' = m σ' ∧ Pv σ' H') := fun _ _ h => ⟨_, h.1, rfl, h.2⟩
theorem wh_by {c : TT} (Pv : L2.St → Hp → Prop) (m : L2.St → Nat) (h0 : Pv σ H)
    (hs : ∀ σ H, Pv σ H → c σ H fun b H1 => if b = true then ∃ N : L2.St → Hp → Prop, (∀ σ' H', N σ' H' → ∃ m', m' < m σ ∧ (m' = m σ' ∧ Pv σ' H')) ∧ tb { D with nx := N, ct := N, bk := D.nx } σ H1 else D.nx σ H1) : tW c tb D σ H := by
  rw [tW_eq]
  refine ⟨fun n σ H => n = m σ ∧ Pv σ H, ⟨_, rfl, h0⟩, ?_⟩
  rintro n σ H ⟨rfl, p⟩
  exact hs σ H p
end
/-! the end of a law -/
theorem walk_ofEB {l : PySem.W.OpenLaw} {n k : Nat} {q : Program} {loose : List Str} {XP : (Str → Option Value) → Heap → Prop} {YP : World → Heap → Prop} {d : DefRec} {x : Str}
    (hn : l.most = some n) (hn2 : n ≤ sizeLine) (hdf : d.params.defaults = []) (hr : Room k callerA)
    (F : ∀ (w : World) (mg : Str → Option Value) (fa : Addr) (h : Heap), YP w h → h.Ns mainGlobals mg → mg d.name = some (.ref fa) →
      ∃ (K : PySem.W.Frag) (fd : FuncData) (sp : Sp), K.In h ∧ (∀ (s : Shared) (u : Value), BindsTo s fd ⟨[u], []⟩ [(x, u)]) ∧
        (∀ (H : Hp) (a : Addr) (ns : List Int), ns.length ≤ n → (∀ z ∈ ns, Builtin.Int.intBits z ≤ 1048576) → Only H → SqL K H a (ns.map V.int) → sp [.ref a] H (fun v _ => v = .bl true) fun _ _ _ => False) ∧
        ∀ base : Heap, K.In base → base.Ns mainGlobals mg → FnOk l.prog w K mg base (L2.CX l.prog w) k fa fd [x] sp) :
    PySem.W.WalkO q loose XP YP l.row.toRowW d [] (fun f vs => PySem.call f vs) := by
  refine Att.attach_callB hn hdf fun w s0 s1 mg mb fa o pm cd doc a vs ns G Y ho hd hcd hmg hobj hints hlen hbits hg => ?_
  obtain ⟨K, fd, sp, KX, hb, hsp, hF⟩ := F w mg fa _ Y G.T.g hmg
  refine law_call KX G.T.g G.T.b G.T.builtins G.T.nolimit hg hobj hints (Nat.le_trans hlen hn2) hr hF hb (fun H hO hS => hsp H a ns hlen hbits hO hS) fun H e s' z => ?_
  obtain ⟨_, _, _, _, _, _, _, _, _, _, _, _, z⟩ := z
  exact z
/-! what isinstance asks -/
theorem ty_tup {K : PySem.W.Frag} {H : Hp} {a : Addr} {xs : List V} (h : SqT K H a xs) : TyX K H (.ref a) (.type "tuple") := by
  rcases h with (h | ⟨o, h⟩) | ⟨o, its, n, h1, h2, _⟩
  · exact .base (.tup h)
  · exact .fTuple h
  · exact .kTuple h1 h2
theorem ty_lst {K : PySem.W.Frag} {H : Hp} {a : Addr} {xs : List V} (h : SqL K H a xs) : TyX K H (.ref a) (.type "list") := by
  rcases h with (h | ⟨o, h⟩) | ⟨o, its, n, h1, h2, _⟩
  · exact .base (.lst h)
  · exact .base (.frz h)
  · exact .kList h1 h2
section
variable {K : PySem.W.Frag}
theorem kt_ii : PySem.W.kitOne K (.type "int") (.type "int") = some true := kit_ty (by decide +kernel)
theorem kt_ib : PySem.W.kitOne K (.type "int") (.type "bool") = some false := kit_ty (by decide +kernel)
theorem kt_bi : PySem.W.kitOne K (.type "bool") (.type "int") = some true := kit_ty (by decide +kernel)
theorem kt_bb : PySem.W.kitOne K (.type "bool") (.type "bool") = some true := kit_ty (by decide +kernel)
theorem kt_tt : PySem.W.kitOne K (.type "tuple") (.type "tuple") = some true := kit_ty (by decide +kernel)
theorem kt_ss : PySem.W.kitOne K (.type "str") (.type "str") = some true := kit_ty (by decide +kernel)
theorem kt_ll : PySem.W.kitOne K (.type "list") (.type "list") = some true := kit_ty (by decide +kernel)
theorem kt_ni : PySem.W.kitOne K (.type "NoneType") (.type "int") = some false := kit_ty (by decide +kernel)
theorem kt_si : PySem.W.kitOne K (.type "str") (.type "int") = some false := kit_ty (by decide +kernel)
theorem kt_ti : PySem.W.kitOne K (.type "tuple") (.type "int") = some false := kit_ty (by decide +kernel)
theorem kt_li : PySem.W.kitOne K (.type "list") (.type "int") = some false := kit_ty (by decide +kernel)
theorem kt_di : PySem.W.kitOne K (.type "dict") (.type "int") = some false := kit_ty (by decide +kernel)
end
end Lim
namespace Lim
open PySem PySem.Spec PyProof.Rows L2
/-! data in the heap -/
mutual
theorem dp_same {K : PySem.W.Frag} {H H' : Hp} (e : Same H H') : ∀ {d : PyData} {v : V}, Dp K H v d → Dp K H' v d
  | .none, _, h => by cases h; exact .non
  | .bool b, _, h => by cases h; exact .bl b
  | .int i, _, h => by cases h; exact .int i
  | .str x, _, h => by cases h; exact .str x
  | .list ds, _, h => by
    cases h with
    | lst s a => exact .lst (e.seq s) (dps_same e a)
  | .tuple ds, _, h => by
    cases h with
    | tup s a => exact .tup (Same.tup e s) (dps_same e a)
  | .dict _, _, h => by cases h
theorem dps_same {K : PySem.W.Frag} {H H' : Hp} (e : Same H H') : ∀ {ds : List PyData} {vs : List V}, DpAll K H vs ds → DpAll K H' vs ds
  | [], _, h => by cases h; exact .nil
  | d :: ds, _, h => by
    cases h with
    | cons a b => exact .cons (dp_same e a) (dps_same e b)
end
section
variable {K : PySem.W.Frag} {H H' : Hp} {v : V}
theorem dp_tup {ds : List PyData} (h : Dp K H v (.tuple ds)) : ∃ a xs, v = .ref a ∧ SqT K H a xs ∧ DpAll K H xs ds := by
  cases h with
  | tup s a => exact ⟨_, _, rfl, s, a⟩
theorem dp_lst {ds : List PyData} (h : Dp K H v (.list ds)) : ∃ a xs, v = .ref a ∧ SqL K H a xs ∧ DpAll K H xs ds := by
  cases h with
  | lst s a => exact ⟨_, _, rfl, s, a⟩
theorem dp_int {i : Int} (h : Dp K H v (.int i)) : v = .int i := by cases h; rfl
theorem dp_str {x : Str} (h : Dp K H v (.str x)) : v = .str x := by cases h; rfl
theorem dps_len {xs : List V} : ∀ {ds : List PyData}, DpAll K H xs ds → xs.length = ds.length := by
  intro ds
  induction ds generalizing xs with
  | nil => intro h; cases h; rfl
  | cons d ds ih =>
    intro h
    cases h with
    | cons a b => simp [ih b]
theorem dps_get : ∀ {ds : List PyData} {xs : List V} {i : Nat} {d : PyData}, DpAll K H xs ds → ds[i]? = some d → ∃ v, xs[i]? = some v ∧ Dp K H v d
  | [], _, _, _, _, e => by simp at e
  | d' :: ds, _, 0, d, .cons a b, e => by simp at e; subst e; exact ⟨_, rfl, a⟩
  | d' :: ds, _, i + 1, d, .cons a b, e => by
    obtain ⟨v, h1, h2⟩ := dps_get (i := i) b (by simpa using e)
    exact ⟨v, by simpa using h1, h2⟩
theorem dps_at {xs : List V} {i : Nat} {v : V} : ∀ {ds : List PyData}, DpAll K H xs ds → xs[i]? = some v → ∃ d, ds[i]? = some d ∧ Dp K H v d := by
  intro ds
  induction ds generalizing xs i with
  | nil => intro h e; cases h; simp at e
  | cons d' ds ih =>
    intro h e
    cases h with
    | cons a b =>
      cases i with
      | zero => simp at e; subst e; exact ⟨_, rfl, a⟩
      | succ i => exact ih b (by simpa using e)
theorem dps_map_at {α : Type} {f : α → PyData} {l : List α} {xs : List V} {i : Nat} {x : V} (hA : DpAll K H xs (l.map f)) (hx : xs[i]? = some x) : ∃ q, l[i]? = some q ∧ Dp K H x (f q) := by
  obtain ⟨d, h1, h2⟩ := dps_at hA hx
  rw [List.getElem?_map] at h1
  cases e : l[i]? with
  | none => rw [e] at h1; cases h1
  | some q =>
    rw [e] at h1
    cases (Option.some.inj h1 : f q = d)
    exact ⟨q, rfl, h2⟩
theorem dps_sub {f : List V → List V} {g : List PyData → List PyData} (hf : ∀ {xs : List V} {ds : List PyData}, DpAll K H xs ds → DpAll K H (f xs) (g ds)) {xs : List V} {ds : List PyData} (h : DpAll K H xs ds) : DpAll K H (f xs) (g ds) := hf h
theorem dps_dropLast : ∀ {ds : List PyData} {xs : List V}, DpAll K H xs ds → DpAll K H xs.dropLast ds.dropLast
  | [], _, .nil => .nil
  | [_], _, .cons _ .nil => .nil
  | _ :: _ :: _, _, .cons a (.cons b c) => .cons a (dps_dropLast (.cons b c))
theorem dps_rev : ∀ {ds : List PyData} {xs : List V}, DpAll K H xs ds → DpAll K H xs.reverse ds.reverse
  | [], _, .nil => .nil
  | d :: ds, _, .cons (v := v) (vs := vs) a b => by
    rw [List.reverse_cons, List.reverse_cons]
    have ih := dps_rev b
    have one : DpAll K H [v] [d] := .cons a .nil
    revert ih
    generalize vs.reverse = as
    generalize ds.reverse = bs
    intro ih
    clear b
    induction bs generalizing as with
    | nil => cases ih; exact one
    | cons c bs ih2 =>
      cases ih with
      | cons p q => exact .cons p (ih2 _ q)
theorem dps_app {xs ys : List V} : ∀ {ds es : List PyData}, DpAll K H xs ds → DpAll K H ys es → DpAll K H (xs ++ ys) (ds ++ es) := by
  intro ds
  induction ds generalizing xs with
  | nil => intro es h g; cases h; exact g
  | cons d' ds ih =>
    intro es h g
    cases h with
    | cons a b => exact .cons a (ih b g)
end
/-- an amount -/
def amtD (q : Rat) : PyData := .tuple [.int q.num, .int (q.den : Int)]
abbrev Amt (K : PySem.W.Frag) (H : Hp) (v : V) (q : Rat) : Prop := Dp K H v (amtD q)
theorem amt_inv {K : PySem.W.Frag} {H : Hp} {v : V} {q : Rat} (h : Amt K H v q) : ∃ a, v = .ref a ∧ SqT K H a [.int q.num, .int (q.den : Int)] := by
  obtain ⟨a, xs, rfl, s, d⟩ := dp_tup h
  cases d with
  | cons h1 d => cases d with
    | cons h2 d =>
      cases d
      rw [dp_int h1, dp_int h2] at s
      exact ⟨a, rfl, s⟩
theorem amt_mk {K : PySem.W.Frag} {H : Hp} {a : Addr} {q : Rat} {n d : Int} (h : SqT K H a [.int n, .int d]) (h1 : n = q.num) (h2 : d = (q.den : Int)) : Amt K H (.ref a) q := by
  subst h1 h2
  exact .tup h (.cons (.int _) (.cons (.int _) .nil))
/-- the result is a new thing that reads as d; what stood stands -/
def Ret (K : PySem.W.Frag) (H : Hp) (Q : VK) (d : PyData) : Prop := ∀ v H', Same H H' → Dp K H' v d → Q v H'
/-- closed up: the walk does not look in -/
structure Bx (p : Prop) : Prop where
  o : p
/-! sizes -/
theorem mulok {a b : Nat} {i j : Int} (ha : Bit a i) (hb : Bit b j) (h : a + b ≤ 999000) : IntMulOk i j :=
  (wide_mul (a := a + 1) (b := b + 1) (ha.mono (by omega)) (hb.mono (by omega)) (by omega) (by omega) (by omega)).ok
theorem dvok {b : Nat} {i j : Int} (h : j ≠ 0) (hb : Bit b j) (h9 : b ≤ 8999) : CDv i j := by
  refine ⟨h, ?_⟩
  have := PySem.Flt.log2_lt_of (n := j.natAbs) (k := b + 1) (by omega) (hb.mono (by omega : b ≤ b + 1))
  omega
theorem dv_lit {i j : Int} (h : (decide (j ≠ 0) && decide (j.natAbs.log2 < 9000)) = true) : CDv i j := by
  simp only [Bool.and_eq_true, decide_eq_true_eq] at h
  exact ⟨h.1, h.2⟩
theorem nz_lit {i j : Int} (h : decide (j ≠ 0) = true) : CNz i j := ⟨of_decide_eq_true h⟩
theorem ml_lit {i j : Int} (h : decide (i.natAbs.log2 + j.natAbs.log2 < 1000000) = true) : IntMulOk i j := CMulW.ok (show i.natAbs.log2 + j.natAbs.log2 < 1000000 from of_decide_eq_true h)
theorem sz_of {n : Nat} (h : n ≤ 64) : n ≤ sizeLine := Nat.le_trans h (by decide)
theorem sz0 : 0 ≤ sizeLine := by decide
theorem sz1 : 1 ≤ sizeLine := by decide
theorem sz2 : 2 ≤ sizeLine := by decide
theorem sz3 : 3 ≤ sizeLine := by decide
theorem sz4 : 4 ≤ sizeLine := by decide
theorem sz5 : 5 ≤ sizeLine := by decide
theorem sz6 : 6 ≤ sizeLine := by decide
theorem sz7 : 7 ≤ sizeLine := by decide
theorem sz8 : 8 ≤ sizeLine := by decide
theorem sz9 : 9 ≤ sizeLine := by decide
theorem sz10 : 10 ≤ sizeLine := by decide
theorem sz11 : 11 ≤ sizeLine := by decide
theorem sz12 : 12 ≤ sizeLine := by decide
theorem sz13 : 13 ≤ sizeLine := by decide
theorem sz14 : 14 ≤ sizeLine := by decide
theorem sz15 : 15 ≤ sizeLine := by decide
theorem sz16 : 16 ≤ sizeLine := by decide
/-! items -/
theorem cut_last (xs : List V) : cutV xs none (some (-1)) = xs.dropLast := by
  unfold cutV
  rw [HT.sIx_none, List.drop_zero, List.dropLast_eq_take]
  congr 1
  show (if (-1 : Int) < 0 then ((-1 : Int) + (xs.length : Int)).toNat else min (-1 : Int).toNat xs.length) - 0 = xs.length - 1
  rw [if_pos (by decide)]; omega
theorem cut_nat (xs : List V) (a b : Nat) (h : a ≤ b) : cutV xs (some (a : Int)) (some (b : Int)) = (xs.drop a).take (b - a) := by
  unfold cutV
  rw [HT.sIx_nat, HT.sIx_nat]
  by_cases h1 : a ≤ xs.length
  · rw [Nat.min_eq_left h1]
    by_cases h2 : b ≤ xs.length
    · rw [Nat.min_eq_left h2]
    · rw [Nat.min_eq_right (by omega), List.take_of_length_le (by rw [List.length_drop]; omega), List.take_of_length_le (by rw [List.length_drop]; omega)]
  · rw [Nat.min_eq_right (by omega), Nat.min_eq_right (by omega), List.drop_of_length_le (Nat.le_refl _), List.drop_of_length_le (by omega)]
    simp
theorem cut_to (xs : List V) (b : Nat) : cutV xs none (some (b : Int)) = xs.take b := by
  unfold cutV
  rw [HT.sIx_none, HT.sIx_nat, List.drop_zero, Nat.sub_zero]
  by_cases h2 : b ≤ xs.length
  · rw [Nat.min_eq_left h2]
  · rw [Nat.min_eq_right (by omega), List.take_length, List.take_of_length_le (by omega)]
theorem cut_from (xs : List V) (a : Nat) : cutV xs (some (a : Int)) none = xs.drop a := by
  unfold cutV
  rw [HT.sIx_none, HT.sIx_nat]
  by_cases h1 : a ≤ xs.length
  · rw [Nat.min_eq_left h1, List.take_of_length_le (by rw [List.length_drop]; omega)]
  · rw [Nat.min_eq_right (by omega), List.drop_of_length_le (Nat.le_refl _), List.drop_of_length_le (by omega)]
    simp
theorem at0 {x : V} {r : List V} : atI (x :: r) 0 = some x := atI_nat (j := 0) rfl
theorem at1 {x y : V} {r : List V} : atI (x :: y :: r) 1 = some y := atI_nat (j := 1) rfl
theorem at_ints {ns : List Int} {j : Nat} (h : j < ns.length) : atI (ns.map V.int) (j : Int) = some (.int (ns.getD j 0)) := by
  refine atI_nat (j := j) ?_
  rw [List.getElem?_map, List.getD_eq_getElem?_getD, List.getElem?_eq_getElem h]; rfl
theorem sqt_new {K : PySem.W.Frag} {H : Hp} {p : Addr} {xs : List V} : SqT K (upd H p (.tup xs)) p xs := .inl (.inl upd_same)
theorem sql_new {K : PySem.W.Frag} {H : Hp} {p : Addr} {xs : List V} : SqL K (upd H p (.lst xs)) p xs := .inl (.inl upd_same)
theorem qb {Q : VK} {H : Hp} {b c : Bool} (h : b = c) (k : Q (.bl c) H) : Q (.bl b) H := h ▸ k
theorem qv {Q : VK} {H : Hp} {v u : V} (h : v = u) (k : Q u H) : Q v H := h ▸ k
/-! ifs over values -/
theorem vint {i j : Int} : (V.int i = V.int j) = (i = j) := by simp
theorem vstr {i j : Str} : (V.str i = V.str j) = (i = j) := by simp
theorem ifI {i j : Int} {A B : Prop} (h1 : i = j → A) (h2 : i ≠ j → B) : if decide (V.int i = V.int j) = true then A else B := ifd (fun h => h1 (by simpa using h)) (fun h => h2 (by simpa using h))
theorem ifnI {i j : Int} {A B : Prop} (h1 : i ≠ j → A) (h2 : i = j → B) : if (!decide (V.int i = V.int j)) = true then A else B := ifn (fun h => h1 (by simpa using h)) (fun h => h2 (by simpa using h))
theorem ifS {i j : Str} {A B : Prop} (h1 : i = j → A) (h2 : i ≠ j → B) : if decide (V.str i = V.str j) = true then A else B := ifd (fun h => h1 (by simpa using h)) (fun h => h2 (by simpa using h))
theorem ifnS {i j : Str} {A B : Prop} (h1 : i ≠ j → A) (h2 : i = j → B) : if (!decide (V.str i = V.str j)) = true then A else B := ifn (fun h => h1 (by simpa using h)) (fun h => h2 (by simpa using h))
theorem ifT {b : Bool} {A B : Prop} (hb : b = true) (h : A) : if b = true then A else B := by rw [if_pos hb]; exact h
theorem ifF {b : Bool} {A B : Prop} (hb : b = false) (h : B) : if b = true then A else B := by rw [if_neg (by simp [hb])]; exact h
end Lim
namespace Lim
open PySem PySem.Spec PyProof.Rows L2
/-! shapes of data that == asks for -/
structure Shp (k : Nat) (d : PyData) : Prop where
  lay : d.canLay0 = true
  dep : d.depth ≤ k
theorem Shp.mono {j k : Nat} {d : PyData} (h : Shp j d) (l : j ≤ k) : Shp k d := ⟨h.lay, Nat.le_trans h.dep l⟩
theorem Shp.ok {k : Nat} {d : PyData} (h : Shp k d) (l : k ≤ 64) : SeqAt.shaped d = true := by
  show (d.canLay0 && decide (d.depth ≤ 64)) = true
  rw [h.lay, decide_eq_true (Nat.le_trans h.dep l)]; rfl
theorem shp_int {k : Nat} (i : Int) : Shp k (.int i) := ⟨by simp [PyData.canLay0], by simp [PyData.depth]⟩
theorem shp_bool {k : Nat} (b : Bool) : Shp k (.bool b) := ⟨by simp [PyData.canLay0], by simp [PyData.depth]⟩
theorem shp_none {k : Nat} : Shp k .none := ⟨by simp [PyData.canLay0], by simp [PyData.depth]⟩
theorem shp_str {k : Nat} {x : Str} (h : PyData.strOk x = true) : Shp k (.str x) := ⟨by simpa [PyData.canLay0] using h, by simp [PyData.depth]⟩
theorem shp_all {k : Nat} : ∀ {ds : List PyData}, (∀ d ∈ ds, Shp k d) → PyData.canLayAll0 ds = true ∧ PyData.depthAll ds ≤ k
  | [], _ => ⟨by simp [PyData.canLayAll0], by simp [PyData.depthAll]⟩
  | d :: ds, h => by
    have h1 := h d (List.mem_cons_self ..)
    have h2 := shp_all fun x hx => h x (List.mem_cons_of_mem _ hx)
    refine ⟨?_, ?_⟩
    · rw [PyData.canLayAll0, h1.lay, h2.1]; rfl
    · rw [PyData.depthAll]; exact Nat.max_le.mpr ⟨h1.dep, h2.2⟩
theorem shp_list {k : Nat} {ds : List PyData} (h : ∀ d ∈ ds, Shp k d) : Shp (k + 1) (.list ds) := by
  have := shp_all h
  exact ⟨by rw [PyData.canLay0]; exact this.1, by rw [PyData.depth]; omega⟩
theorem shp_tup {k : Nat} {ds : List PyData} (h : ∀ d ∈ ds, Shp k d) : Shp (k + 1) (.tuple ds) := by
  have := shp_all h
  exact ⟨by rw [PyData.canLay0]; exact this.1, by rw [PyData.depth]; omega⟩
theorem shp_amt {k : Nat} (q : Rat) : Shp (k + 1) (amtD q) := shp_tup fun d hd => by
  rcases List.mem_cons.mp hd with rfl | hd
  · exact shp_int _
  · rcases List.mem_cons.mp hd with rfl | hd
    · exact shp_int _
    · cases hd
theorem Shp.refl {k : Nat} {d : PyData} (h : Shp k d) : PyData.eqv d d = true := PySem.SeqAt.eqv_refl d h.lay
theorem eqv_nil (ds : List PyData) : PyData.eqv (.list ds) (.list []) = ds.isEmpty := by
  cases ds <;> rfl
/-! a list of one's own is changed: what else stands -/
theorem Same.mut {H H' : Hp} {p : Addr} {o : HO} (e : Same H H') (h : H p = none) : Same H (upd H' p o) := fun b x q => by rw [upd_ne (ne_of_none q h)]; exact e b x q
theorem sqt_mut {K : PySem.W.Frag} {H : Hp} {p a : Addr} {o : HO} {xs ys : List V} (hp : H p = some (.lst ys)) (h : SqT K H a xs) : SqT K (upd H p o) a xs := by
  rcases h with (h | ⟨u, h⟩) | h
  · exact .inl (.inl (by rw [upd_ne (ne_of h hp (fun z => nomatch z))]; exact h))
  · exact .inl (.inr ⟨u, by rw [upd_ne (ne_of h hp (fun z => nomatch z))]; exact h⟩)
  · exact .inr h
theorem sql_mut {K : PySem.W.Frag} {H : Hp} {p a : Addr} {o : HO} {xs : List V} (hn : a ≠ p) (h : SqL K H a xs) : SqL K (upd H p o) a xs := by
  rcases h with (h | ⟨u, h⟩) | h
  · exact .inl (.inl (by rw [upd_ne hn]; exact h))
  · exact .inl (.inr ⟨u, by rw [upd_ne hn]; exact h⟩)
  · exact .inr h
mutual
/-- no list within -/
def noL : PyData → Bool
  | .list _ => false
  | .dict _ => false
  | .tuple ds => noLs ds
  | _ => true
def noLs : List PyData → Bool
  | [] => true
  | d :: ds => noL d && noLs ds
end
mutual
theorem dp_mut {K : PySem.W.Frag} {H : Hp} {p : Addr} {o : HO} {ys : List V} (hp : H p = some (.lst ys)) : ∀ {d : PyData} {v : V}, noL d = true → Dp K H v d → Dp K (upd H p o) v d
  | .none, _, _, h => by cases h; exact .non
  | .bool b, _, _, h => by cases h; exact .bl b
  | .int i, _, _, h => by cases h; exact .int i
  | .str x, _, _, h => by cases h; exact .str x
  | .list ds, _, n, h => by simp [noL] at n
  | .tuple ds, _, n, h => by
    cases h with
    | tup s a => exact .tup (sqt_mut hp s) (dps_mut hp (by simpa [noL] using n) a)
  | .dict _, _, _, h => by cases h
theorem dps_mut {K : PySem.W.Frag} {H : Hp} {p : Addr} {o : HO} {ys : List V} (hp : H p = some (.lst ys)) : ∀ {ds : List PyData} {vs : List V}, noLs ds = true → DpAll K H vs ds → DpAll K (upd H p o) vs ds
  | [], _, _, h => by cases h; exact .nil
  | d :: ds, _, n, h => by
    have n' : noL d = true ∧ noLs ds = true := by simpa [noLs] using n
    cases h with
    | cons a b => exact .cons (dp_mut hp n'.1 a) (dps_mut hp n'.2 b)
end
theorem noL_amt (q : Rat) : noL (amtD q) = true := by simp [amtD, noL, noLs]
theorem noLs_map {α : Type} {f : α → PyData} (h : ∀ x, noL (f x) = true) : ∀ l : List α, noLs (l.map f) = true
  | [] => by simp [noLs]
  | x :: r => by rw [List.map_cons, noLs, h x, noLs_map h r]; rfl
theorem cut_ints (ns : List Int) (a b : Nat) (h : a ≤ b) : cutV (ns.map V.int) (some (a : Int)) (some (b : Int)) = ((ns.drop a).take (b - a)).map V.int := by
  rw [cut_nat _ _ _ h, List.map_take, List.map_drop]
theorem ints_at {ns : List Int} {i : Nat} {x : V} (h : (ns.map V.int)[i]? = some x) : ∃ z, ns[i]? = some z ∧ x = .int z := by
  rw [List.getElem?_map] at h
  cases e : ns[i]? with
  | none => rw [e] at h; cases h
  | some z => rw [e] at h; exact ⟨z, rfl, (Option.some.inj h).symm⟩
theorem take_succ {α : Type} {l : List α} {i : Nat} {x : α} (h : l[i]? = some x) : l.take (i + 1) = l.take i ++ [x] := by
  rw [List.take_add_one, h]; rfl
theorem lt_size {n : Nat} (h : n ≤ 1000) : n < sizeLine := small1000 h
end Lim
namespace Lim
open PySem PySem.Spec PyProof.Rows L2
/-! a caught exception that is kept: it is tracked by what is true of its object -/
def XO (cls : Value) (d : Option Addr) (a : Addr) : HO := .ext fun h => ∃ (oe : Obj) (vs : Array Value), h.get? a = some oe ∧ Zc cls d oe ∧ oe.data = .fields vs
section
variable {X : Cx} {pins : List (Addr × Obj)} {σ : L2.St} {H : Hp} {s : Shared} {a : Addr}
/-- an object that stands untracked, and is none of the frame's own, is tracked from here on -/
theorem inv_track {o : HO} (I : Inv X pins σ H s) (na : H a = none) (n0 : X.s_0.heap.get? a = none) (nL : X.env.locals ≠ a) (nC : ∀ x c, X.env.cells.lookup x = some c → c ≠ a) (nP : ∀ p ∈ X.pn ++ pins, p.1 ≠ a)
    (new : ObjOk X.prog X.w (upd H a o) s.heap a o) : Inv X pins σ (upd H a o) s where
  ok := I.ok
  os := I.os
  bare := I.bare
  base :=
    { keep := I.base.keep
      slot := I.base.slot
      free := fun b ob e n hx => (upd_ne (fun z => by rw [z, n0] at e; cases e)).trans (I.base.free b ob e n hx)
      there := I.base.there
      tups := fun b xs e => (upd_ne (ne_of_none (I.base.tups b xs e) na)).trans (I.base.tups b xs e)
      frzs := fun b u xs e => (upd_ne (ne_of_none (I.base.frzs b u xs e) na)).trans (I.base.frzs b u xs e)
      tbls := fun b ps e => by
        obtain ⟨m, q⟩ := I.base.tbls b ps e
        exact ⟨m, (upd_ne (ne_of_none q na)).trans q⟩ }
  loc := I.loc
  cell := I.cell
  free := (upd_ne nL).trans I.free
  freeC := fun x c e => (upd_ne (nC x c e)).trans (I.freeC x c e)
  pin := fun p hp => by
    obtain ⟨h1, h2, h3⟩ := I.pin p hp
    exact ⟨h1, (upd_ne (nP p hp)).trans h2, h3⟩
  hok := fun b u e => by
    by_cases hb : b = a
    · subst hb
      rw [upd_same] at e
      cases e
      exact new
    · rw [upd_ne hb] at e
      exact (I.hok b u e).stay (fun _ _ _ q => q) (fun c q => (upd_ne (ne_of_none q na)).trans q) fun c xs q => (upd_ne (ne_of_none q na)).trans q
  len := I.len
theorem inv_suite (I : Inv X pins σ H s) (a : Addr) : Inv (X.suite a (X.pn ++ pins)) [] σ H s :=
  { ok := I.ok.suite a _, os := I.os, bare := I.bare, base := I.base, loc := I.loc, cell := I.cell, free := I.free, freeC := I.freeC, hok := I.hok, len := I.len,
    pin := fun p hp => I.pin p (by rw [List.append_nil] at hp; exact hp) }
theorem inv_back {pn' : List (Addr × Obj)} (I : Inv (X.suite a (X.pn ++ pins)) pn' σ H s) (ok : X.Ok) : Inv X pins σ H s :=
  { ok := ok, os := I.os, bare := I.bare, base := I.base, loc := I.loc, cell := I.cell, free := I.free, freeC := I.freeC, hok := I.hok, len := I.len,
    pin := fun p hp => I.pin p (List.mem_append_left _ hp) }
end
/-- what 'except x as n: suite' wishes of an exception of the body; the suite's heap tracks it -/
def wKeep (K : PySem.W.Frag) (c : Value) (i : Nat) (ts : TS) (Wout : WX) (D : Ends) : WX := fun cls d σ H =>
  ∃ b, PySem.W.exmOne K cls c = some b ∧
    (b = true → ∀ a, H a = none → ts ⟨fun σ' H' => D.nx (σ'.set i none) H', D.rt, fun σ' H' => D.bk (σ'.set i none) H', fun σ' H' => D.ct (σ'.set i none) H'⟩ (σ.set i (some (.ref a))) (upd H a (XO cls d a))) ∧
    (b = false → Wout cls d σ H)
section
variable {X : Cx} {x n : Str} {c : Value} {i : Nat} {body suite : List Stmt} {b0 : Stmt} {np pos pos' : Pos} {tb : WX → TS} {ts : TS} {Wout : WX}
theorem ps_try_keep (hs : X.stack = X.env :: X.outer) (hf : X.env.frame = some X.env.locals) (hex : X.ex = []) (hN : X.N.Nodup) (hi : X.N[i]? = some n) (hln : X.env.kindOf n = some .local) (hc : Names X x c) (tk : Takes X Wout)
    (hb : ∀ (W : WX) (pn : List (Addr × Obj)) (xe : Value → Shared → Prop), Takes (X.tr pn xe) W → PassesOwn (model X.prog X.w) X.A X.env xe → PSs (X.tr pn xe) body (tb W))
    (hsu : ∀ (a : Addr) (pn : List (Addr × Obj)), PSs (X.suite a pn) (b0 :: suite) ts) :
    PS X (.Try body [.ExceptHandler (some (.Name x np)) (some n) (b0 :: suite) pos'] [] [] pos) (fun D σ H => tb (wKeep X.K c i ts Wout D) D σ H) := by
  refine ⟨fun pins s σ H D I h => wpAny_Try_except ?_⟩
  have hfr : X.A.frames = some (X.env :: X.outer) := I.ok.frames.trans (congrArg some hs)
  -- what the try does with what flies out of its body
  let after : Value → Shared → Prop := fun e t1 => wpAny (model X.prog X.w) X.A (noteFrame e X.env)
    (fun _ t2 => wpAny (model X.prog X.w) X.A (setFlight e none) (fun _ t3 => wpAny (model X.prog X.w) X.A (handleBy e X.env [.ExceptHandler (some (.Name x np)) (some n) (b0 :: suite) pos']) (SP X pins D) X.xe t3) X.xe t2) X.xe t1
  have caught : Takes (X.tr (X.pn ++ pins) after) (wKeep X.K c i ts Wout D) := by
    rintro u s' ⟨a, B, sI, pins', σ', H', cls, d, rfl, J', nb, up, sky, na, os, ag, b, hb1, hyes, hno⟩
    have J : Inv X pins σ' H' sI := J'.ofTry I.ok
    have nb' : ∀ z o, sI.heap.get? z = some o → z ∉ frs X.stack → B.get? z = some o := nb
    have sky1 : Sky B (X.env :: X.outer) a (Zc cls d) X.env.locals s'.heap := hs ▸ sky
    show wpAny (model X.prog X.w) X.A (noteFrame (.ref a) X.env) _ _ _
    refine Sky.land Zc.steady hfr hf sky1 fun h3 f3 up3 => ?_
    have J3 : Inv X pins σ' H' { s' with heap := h3 } := J.landed nb f3.1 (up.trans up3) os ag
    have Ba : B.get? a = none := f3.2.1
    obtain ⟨oe3, vs3, he3, hz3, hd3⟩ := f3.there
    have nfr : a ∉ frs (X.env :: X.outer) := fun hm => by
      obtain ⟨_, o', e', hnf⟩ := f3.2.2.1.mem hm
      cases he3.symm.trans e'
      exact hnf _ hd3
    have nfr' : a ∉ frs X.stack := by rw [hs]; exact nfr
    have nL : X.env.locals ≠ a := fun z => nfr (List.mem_filterMap.mpr ⟨X.env, List.mem_cons_self, hf.trans (congrArg some z)⟩)
    have noI : sI.heap.get? a = none := by
      cases e : sI.heap.get? a with
      | none => rfl
      | some o => cases Ba.symm.trans (nb' a o e nfr')
    have n0 : X.s_0.heap.get? a = none := by
      cases e : X.s_0.heap.get? a with
      | none => rfl
      | some o =>
        obtain ⟨o', q⟩ := J.base.there a o e (by rw [hex]; exact fun z => nomatch z)
        cases noI.symm.trans q
    have nP : ∀ p ∈ X.pn ++ pins, p.1 ≠ a := fun p hp z => by
      have q := (J.pin p hp).1
      rw [z, noI] at q
      cases q
    refine wpAny_handleBy_cons (codeAny_handlers_test ?_) (by intro q; cases q)
    have LT : PySem.W.Looks (model X.prog X.w) h3 (typeOf (.ref a)) cls := fun A Q E s k q => wpAny_typeOf_ref (k _ _ he3) (by rw [hz3.1]; exact q)
    have S3 := inv_suite J3 a
    have named : ∀ {Q : Value → Shared → Prop} {E : Value → Shared → Prop}, Q c { s' with heap := h3 } → wpAny (model X.prog X.w) (X.A.mark (some (.ref a))) (eval (.Name x np) X.env) Q E { s' with heap := h3 } := fun {Q E} q => by
      obtain ⟨hg, hdbg, hm | ⟨hm, hv, hnn⟩⟩ := hc
      · exact ld_glob (X := X.suite a (X.pn ++ pins)) S3 hg hm q hdbg
      · exact ld_blt (X := X.suite a (X.pn ++ pins)) S3 hg hm hv q hnn hdbg
    refine named ((PySem.W.exm_one (M := model X.prog X.w) J3.kIn LT hb1).here ?_)
    cases b with
    | true =>
      refine codeAny_handlers_suite_as (HandSPX.lands_againZ f3 fun h4 f4 up4 => ?_)
      have J4 : Inv X pins σ' H' { s' with heap := h4 } := J.landed nb f4.1 ((up.trans up3).trans up4) os ag
      obtain ⟨oe4, vs4, he4, hz4, hd4⟩ := f4.there
      have J5 : Inv X pins σ' (upd H' a (XO cls d a)) { s' with heap := h4 } := by
        refine inv_track J4 na n0 nL (fun y cc e z => ?_) nP ⟨⟨oe4, vs4, he4, hz4, hd4⟩, ⟨oe4, he4⟩, fun h1 h2 ⟨o, v, q, r⟩ k => ⟨o, v, k o q, r⟩⟩
        obtain ⟨v, o, ho, hdat⟩ := J4.cell y cc e
        subst z
        cases he4.symm.trans ho
        rw [hd4] at hdat
        cases hdat
      refine store_ok (X := X.suite a (X.pn ++ pins)) (v := .ref a) (inv_suite J5 a) hN hi (.inl hln) rfl (fun s5 S5 => ?_) (.inr hln)
      refine wpAny_mono ((hsu a (X.pn ++ pins)).run [] s5 _ _ _ S5 (hyes rfl a na)) (fun f s6 hsp => ?_) (fun _ _ z => z.elim)
      have leave : ∀ {σ6 : L2.St} {H6 : Hp} {Q : Shared → Prop}, Inv (X.suite a (X.pn ++ pins)) [] σ6 H6 s6 → (∀ s7, Inv X pins (σ6.set i none) H6 s7 → Q s7) →
          wpAny (model X.prog X.w) X.A (do bindName X.env n .none; unbindBehindTheSuite X.env n pos') (fun _ s7 => Q s7) X.xe s6 := fun S6 hq => gone_ok (inv_back S6 I.ok) hN hi hln hq
      cases f with
      | next => obtain ⟨_, _, S6, q6⟩ := hsp; exact leave S6 fun s7 J7 => ⟨_, _, J7, q6⟩
      | brk => obtain ⟨_, _, S6, q6⟩ := hsp; exact leave S6 fun s7 J7 => ⟨_, _, J7, q6⟩
      | cont => obtain ⟨_, _, S6, q6⟩ := hsp; exact leave S6 fun s7 J7 => ⟨_, _, J7, q6⟩
      | ret u => obtain ⟨_, _, _, S6, r6, q6⟩ := hsp; exact leave S6 fun s7 J7 => ⟨_, _, _, J7, r6, q6⟩
    | false =>
      refine wpAny_handleBy_nil ?_
      obtain ⟨_, _, _, oe, vs, T, oT, _, he, hz, hd, h1, _⟩ := id f3
      unfold PySem.passOn
      refine wpAny_bind (wpAny_field he hd h1 ?_)
      rw [if_neg (by simp : ¬ ((Value.ref T == Value.none) = true))]
      have onward : wpAny (model X.prog X.w) X.A (setFlight (.ref a) X.env.frame) (fun _ t4 => wpAny (model X.prog X.w) X.A (throw (.ref a) : Sem Flow) (SP X pins D) X.xe t4) X.xe { s' with heap := h3 } := by
        rw [hf]
        refine HandSPX.setFlight_upZ f3 fun h4 hh4 up4 => wpAny_throw (tk _ _ ?_)
        exact ⟨a, B, sI, pins, σ', H', cls, d, rfl, J, nb, (up.trans up3).trans up4, .inr (.inr (hs.symm ▸ hh4)), na, os, ag, hno rfl⟩
      first
        | exact wpAny_bind (wpAny_pure (wpAny_bind onward))
        | exact wpAny_bind onward
  refine wpAny_mono ((hb _ (X.pn ++ pins) after caught PassesOwn.looking).run [] s σ H D (I.toTry _) h) (fun f s1 hsp => ?_) (fun e s1 he => he)
  cases f with
  | next => obtain ⟨_, _, J', q⟩ := hsp; exact wpAny_execs_nil ⟨_, _, J'.ofTry I.ok, q⟩
  | brk => obtain ⟨_, _, J', q⟩ := hsp; exact ⟨_, _, J'.ofTry I.ok, q⟩
  | cont => obtain ⟨_, _, J', q⟩ := hsp; exact ⟨_, _, J'.ofTry I.ok, q⟩
  | ret u => obtain ⟨_, _, _, J', r, q⟩ := hsp; exact ⟨_, _, _, J'.ofTry I.ok, r, q⟩
end
theorem pe_gref {X : Cx} {x : Str} {a : Addr} {pos : Pos} (h : X.mg x = some (.ref a)) (hg : Gl X x := by rfl) (hdb : (x == ("__debug__" : Str)) = false := by decide) : PE X (.Name x pos) (tC (.ref a)) := pe_glob hg h rfl hdb
/-! isinstance of a kept exception without a dict of its own -/
@[irreducible] def rIsX (K : PySem.W.Frag) : List V → Hp → VK → Prop := fun xs H Q => ∃ (a D : Addr) (c : V) (u : Value) (b : Bool), xs = [.ref a, c] ∧ H a = some (XO (.ref D) none a) ∧ ExcC K D ∧ ClsV c u ∧ PySem.W.kitOne K (.ref D) u = some b ∧ Q (.bl b) H
@[irreducible] def rIsXT (K : PySem.W.Frag) : List V → Hp → VK → Prop := fun xs H Q => ∃ (a D tp : Addr) (cs : List V) (us : List Value) (b : Bool), xs = [.ref a, .ref tp] ∧ H a = some (XO (.ref D) none a) ∧ ExcC K D ∧ H tp = some (.tup cs) ∧ Paired ClsV cs us ∧ PySem.W.kitAny K (.ref D) us = some b ∧ Q (.bl b) H
section
variable {X : Cx}
theorem xo_at {pins : List (Addr × Obj)} {σ : L2.St} {H : Hp} {s : Shared} {a D : Addr} (I : Inv X pins σ H s) (h : H a = some (XO (.ref D) none a)) : ∃ oe, PySem.W.InstAt s.heap a oe D none := by
  obtain ⟨⟨oe, vs, he, hz, hd⟩, _⟩ := (I.hok a _ h : ObjOk X.prog X.w H s.heap a (XO (.ref D) none a))
  refine ⟨oe, ?_⟩
  obtain ⟨oc, od, oda, osl⟩ := oe
  obtain ⟨h1, h2⟩ := hz
  dsimp only at h1 h2 hd
  subst h1 h2 hd
  exact ⟨he, rfl, rfl, trivial⟩
theorem call_isX : CallR X (.builtin "isinstance") (rIsX X.K) := by
  intro pins s σ H xs us Q I r h
  unfold rIsX at h
  obtain ⟨a, D, c, u, b, rfl, ha, C, k, e, q⟩ := h
  obtain ⟨u1, u2, rfl, r1, r2⟩ := vals2 r
  cases (show u1 = Value.ref a from r1)
  cases k.eq r2
  obtain ⟨oe, J⟩ := xo_at I ha
  exact PySem.W.kia_one (PySem.W.handS_kitx_exc C.hg C.hk C.hs C.hd C.ha C.hn C.ht C.hm) I.kIn J e (fun z => nomatch z) fun tk => ⟨.bl b, H, I.tok tk, rfl, q⟩
theorem call_isXT : CallR X (.builtin "isinstance") (rIsXT X.K) := by
  intro pins s σ H xs us Q I r h
  unfold rIsXT at h
  obtain ⟨a, D, tp, cs, ws, b, rfl, ha, C, hT, k, e, q⟩ := h
  obtain ⟨u1, u2, rfl, r1, r2⟩ := vals2 r
  cases (show u1 = Value.ref a from r1)
  cases (show u2 = Value.ref tp from r2)
  obtain ⟨oe, J⟩ := xo_at I ha
  obtain ⟨_, its, rv, o, h1, h2, n, h3⟩ := (show ObjOk X.prog X.w H s.heap tp (.tup cs) from I.hok tp _ hT)
  cases ClsV.all k rv
  obtain ⟨oc, od, dt, sl⟩ := o
  simp only at h2 h3
  subst h2 h3
  exact PySem.W.kia_tup (PySem.W.handS_kitx_exc C.hg C.hk C.hs C.hd C.ha C.hn C.ht C.hm) I.kIn J h1 e (fun z => nomatch z) fun tk => ⟨.bl b, H, I.tok tk, rfl, q⟩
end
/-! the head's facts with further looks at the written part -/
abbrev Fx := PySem.W.Frag → Bool
def obsP (n : Nat) (fa : List He.Fa) (fn : List He.DefD) (ex : List Fx) (g : Addr → Option Obj) : He.AlD × Bool := (He.obsDG n fa fn g, ex.all fun f => f (He.frG g (He.asD g n)))
structure SaysP (fa : List He.Fa) (fn : List He.DefD) (ex : List Fx) (K : PySem.W.Frag) : Prop where
  d : He.SaysD fa fn K
  x : (ex.all fun f => f K) = true
theorem SaysP.get {fa : List He.Fa} {fn : List He.DefD} {ex : List Fx} {K : PySem.W.Frag} (c : SaysP fa fn ex K) (i : Nat) {f : Fx} (h : ex[i]? = some f) : f K = true := List.all_eq_true.mp c.x f (List.mem_of_getElem? h)
def hookP (n : Nat) (fa : List He.Fa) (fn : List He.DefD) (ex : List Fx) : PySem.W.Hook where
  α := He.AlD × Bool
  obs := fun s => obsP n fa fn ex s.heap.get?
  val := fun _ => (He.valD fn, true)
  says := fun _ h => ∃ K : PySem.W.Frag, K.In h ∧ SaysP fa fn ex K
  of := fun _ _ e => ⟨_, He.frG_in, ⟨congrArg (fun z : He.AlD × Bool => z.1) e, congrArg (fun z : He.AlD × Bool => z.2) e⟩⟩
  keeps := fun _ _ _ ⟨K, hK, c⟩ k => ⟨K, PySem.W.Frag.In.keeps hK k, c⟩
theorem obsP_eq {n : Nat} {fa : List He.Fa} {fn : List He.DefD} {ex : List Fx} {g : Addr → Option Obj} {s : Shared} (h : ∀ a, g a = s.heap.get? a) : obsP n fa fn ex g = (hookP n fa fn ex).obs s := by
  have e : g = s.heap.get? := funext h
  rw [e] <;> rfl
/-- a class by its name: of the module, or built in -/
inductive Cv where
  | own (x : Str)
  | ty (n : String)
def Cv.val (K : PySem.W.Frag) : Cv → Value
  | .own x => .ref (He.ga K x)
  | .ty n => .type n
def Cv.v (K : PySem.W.Frag) : Cv → V
  | .own x => .ref (He.ga K x)
  | .ty n => .ty n
def fxKit (x : Str) (y : Cv) (b : Bool) : Fx := fun K => decide (PySem.W.kitOne K (.ref (He.ga K x)) (y.val K) = some b)
def fxAny (x : Str) (ys : List Cv) (b : Bool) : Fx := fun K => decide (PySem.W.kitAny K (.ref (He.ga K x)) (ys.map (Cv.val K)) = some b)
def fxExc (x : Str) : Fx := fun K => He.eqO (PySem.W.findIn K (.ref (He.ga K x)) "__getattribute__") (some (some (.builtin "BaseException.__getattribute__"))) &&
  (He.eqO (PySem.W.findIn K (.ref (He.ga K x)) "__getattr__") (some none) && (decide (PySem.W.subIn K (.ref (He.ga K x)) (.type "BaseException") = some true) && (PySem.W.hasDictIn K (He.ga K x) &&
  (He.eqO (PySem.W.findIn K (.ref (He.ga K x)) "__class__") (some (some (.builtin "object.__class__"))) && (He.eqO (PySem.W.specialIn K (.builtin "object.__class__") "__get__") (some (some (.builtin "getset_descriptor.__get__"))) &&
  (decide (PySem.W.takesIn K (.builtin "object.__class__") = some true) && decide (PySem.W.mroIn K (He.ga K x) (.type "object") = some true)))))))
theorem fxKit_ok {K : PySem.W.Frag} {x : Str} {y : Cv} {b : Bool} (h : fxKit x y b K = true) : PySem.W.kitOne K (.ref (He.ga K x)) (y.val K) = some b := of_decide_eq_true h
theorem fxAny_ok {K : PySem.W.Frag} {x : Str} {ys : List Cv} {b : Bool} (h : fxAny x ys b K = true) : PySem.W.kitAny K (.ref (He.ga K x)) (ys.map (Cv.val K)) = some b := of_decide_eq_true h
theorem fxExc_ok {K : PySem.W.Frag} {x : Str} (h : fxExc x K = true) : ExcC K (He.ga K x) := by
  obtain ⟨h1, h⟩ := He.ba h
  obtain ⟨h2, h⟩ := He.ba h
  obtain ⟨h3, h⟩ := He.ba h
  obtain ⟨h4, h⟩ := He.ba h
  obtain ⟨h5, h⟩ := He.ba h
  obtain ⟨h6, h⟩ := He.ba h
  obtain ⟨h7, h8⟩ := He.ba h
  exact ⟨He.eqO_ok h1, He.eqO_ok h2, of_decide_eq_true h3, h4, He.eqO_ok h5, He.eqO_ok h6, of_decide_eq_true h7, of_decide_eq_true h8⟩
theorem clsvs (K : PySem.W.Frag) : ∀ ys : List Cv, Paired ClsV (ys.map (Cv.v K)) (ys.map (Cv.val K))
  | [] => .nil
  | .own x :: r => .cons (.own _) (clsvs K r)
  | .ty n :: r => .cons (.ty _) (clsvs K r)
/-- isinstance(e, (C1, ..)), the tuple just laid at p -/
theorem isxt {K : PySem.W.Frag} {H : Hp} {Q : VK} {x : Str} {a p : Addr} {b : Bool} (ys : List Cv) (h : PySem.W.kitAny K (.ref (He.ga K x)) (ys.map (Cv.val K)) = some b) (C : ExcC K (He.ga K x)) (np : H p = none) (ha : H a = some (XO (.ref (He.ga K x)) none a))
    (q : ∀ H', Same H H' → Q (.bl b) H') : rIsXT K [.ref a, .ref p] (upd H p (.tup (ys.map (Cv.v K)))) Q := by
  unfold rIsXT
  exact ⟨a, _, p, _, _, b, rfl, (upd_ne (ne_of_none ha np)).trans ha, C, upd_same, clsvs K ys, h, q _ (Same.new np)⟩
theorem clsv1 (K : PySem.W.Frag) : ∀ y : Cv, ClsV (y.v K) (y.val K)
  | .own _ => .own _
  | .ty _ => .ty _
theorem isx {K : PySem.W.Frag} {H : Hp} {Q : VK} {x : Str} {a : Addr} {b : Bool} (y : Cv) (h : PySem.W.kitOne K (.ref (He.ga K x)) (y.val K) = some b) (C : ExcC K (He.ga K x)) (ha : H a = some (XO (.ref (He.ga K x)) none a))
    (q : Q (.bl b) H) : rIsX K [.ref a, y.v K] H Q := by
  unfold rIsX
  exact ⟨a, _, _, _, b, rfl, ha, C, clsv1 K y, h, q⟩
end Lim
namespace Lim
open PySem PySem.Spec PyProof.Rows L2
local macro_rules | `(tactic| walk_at "same") => `(tactic| first | assumption | (refine Same.new ?_; assumption) | exact Same.refl _)
local macro_rules | `(tactic| walk_at "sqt") => `(tactic| first | exact sqt_new | (first | assumption | (apply Same.tup; (first | assumption | (apply Same.new; assumption)); (first | assumption | (apply Same.tup; (first | assumption | (apply Same.new; assumption)); (first | assumption | (apply Same.tup; (first | assumption | (apply Same.new; assumption)); (first | assumption | (apply Same.tup; (first | assumption | (apply Same.new; assumption)); (first | assumption | (apply Same.tup; (first | assumption | (apply Same.new; assumption)); (assumption))))))))))))
local macro_rules | `(tactic| walk_at "sql") => `(tactic| first | exact sql_new | (first | assumption | (apply Same.seq; (first | assumption | (apply Same.new; assumption)); (first | assumption | (apply Same.seq; (first | assumption | (apply Same.new; assumption)); (first | assumption | (apply Same.seq; (first | assumption | (apply Same.new; assumption)); (first | assumption | (apply Same.seq; (first | assumption | (apply Same.new; assumption)); (first | assumption | (apply Same.seq; (first | assumption | (apply Same.new; assumption)); (assumption))))))))))))
local macro_rules | `(tactic| walk_at "dp") => `(tactic| (first | assumption | (apply dp_same; (first | assumption | (apply Same.new; assumption)); (first | assumption | (apply dp_same; (first | assumption | (apply Same.new; assumption)); (first | assumption | (apply dp_same; (first | assumption | (apply Same.new; assumption)); (first | assumption | (apply dp_same; (first | assumption | (apply Same.new; assumption)); (first | assumption | (apply dp_same; (first | assumption | (apply Same.new; assumption)); (assumption))))))))))))
local macro_rules | `(tactic| walk_at "go") => `(tactic| repeat' (first | exact kt_ii | exact kt_ib | exact kt_bb | exact kt_tt | exact kt_bi | exact kt_ss | exact rfl | ((with_reducible show SqT _ _ _ _); walk_at "sqt") | ((with_reducible show SqL _ _ _ _); walk_at "sql") | ((with_reducible show Dp _ _ _ _); walk_at "dp") | ((with_reducible show Sz _ _); assumption) | ((with_reducible show tyV _ _ _ _); exact Or.inl ⟨rfl, _, Or.inl (Or.inl (by first | assumption | exact upd_same))⟩) | ((with_reducible show _ = some (HO.lst _)); first | assumption | exact upd_same) | ((with_reducible show SqL _ _ _ _ ∨ SqT _ _ _ _); first | (refine Or.inl ?_; walk_at "sql") | (refine Or.inr ?_; walk_at "sqt")) | apply And.intro | apply Exists.intro | exact True.intro | exact ClsV.ty _ | exact ClsV.own _ | exact TyX.base (TyOf.int _) | exact TyX.base (TyOf.bl _) | exact TyX.base (TyOf.str _) | ((with_reducible show TyX _ _ _ _); apply ty_tup; walk_at "sqt") | exact at0 | exact at1 | ((with_reducible show _ ≤ sizeLine); first | exact sz2 | exact sz1 | exact sz0 | exact sz3 | exact sz4 | exact sz5 | exact sz6 | exact sz7 | exact sz8 | exact sz9 | exact sz10 | exact sz11 | exact sz12 | exact sz13 | exact sz14 | exact sz15 | exact sz16) | exact dv_lit (by decide +kernel) | exact nz_lit (by decide +kernel) | exact ml_lit (by decide +kernel) | decide))
local macro_rules | `(tactic| walk_at "if") => `(tactic| first | refine ifI ?_ ?_ | refine ifnI ?_ ?_ | refine ifS ?_ ?_ | refine ifnS ?_ ?_ | refine ifd ?_ ?_ | refine ifn ?_ ?_ | refine ifb ?_ ?_)
def top (i : Nat) : Stmt := PySem.Challenge.pw_limbmap_k01_an_amount.main.body.getD i (.Pass ⟨0, 0, 0, 0⟩)
abbrev s_is_whole : Stmt := top 19
theorem sc_is_whole : FnScope ["thing"] ["thing"] (defScope s_is_whole) := ⟨rfl, rfl, rfl, by decide +kernel, rfl, by decide +kernel, by decide +kernel⟩
abbrev s_divisor : Stmt := top 20
theorem sc_divisor : FnScope ["one", "other"] ["one", "other"] (defScope s_divisor) := ⟨rfl, rfl, rfl, by decide +kernel, rfl, by decide +kernel, by decide +kernel⟩
abbrev s_amount : Stmt := top 21
theorem sc_amount : FnScope ["top", "bottom", "share"] ["top", "bottom"] (defScope s_amount) := ⟨rfl, rfl, rfl, by decide +kernel, rfl, by decide +kernel, by decide +kernel⟩
abbrev s_law_cell_at : Stmt := top 23
theorem sc_law_cell_at : FnScope ["_law_script", "_law_k"] ["_law_script", "_law_k"] (defScope s_law_cell_at) := ⟨rfl, rfl, rfl, by decide +kernel, rfl, by decide +kernel, by decide +kernel⟩
abbrev s_law_whole : Stmt := top 24
theorem sc_law_whole : FnScope ["_law_thing"] ["_law_thing"] (defScope s_law_whole) := ⟨rfl, rfl, rfl, by decide +kernel, rfl, by decide +kernel, by decide +kernel⟩
abbrev s_law_divisor : Stmt := top 25
theorem sc_law_divisor : FnScope ["_law_one", "_law_other"] ["_law_one", "_law_other"] (defScope s_law_divisor) := ⟨rfl, rfl, rfl, by decide +kernel, rfl, by decide +kernel, by decide +kernel⟩
abbrev s_law_number : Stmt := top 26
theorem sc_law_number : FnScope ["_law_cell"] ["_law_cell"] (defScope s_law_number) := ⟨rfl, rfl, rfl, by decide +kernel, rfl, by decide +kernel, by decide +kernel⟩
abbrev s_law_right : Stmt := top 27
theorem sc_law_right : FnScope ["_law_found", "_law_top", "_law_bottom"] ["_law_found", "_law_top", "_law_bottom"] (defScope s_law_right) := ⟨rfl, rfl, rfl, by decide +kernel, rfl, by decide +kernel, by decide +kernel⟩
abbrev s_law_refused : Stmt := top 28
theorem sc_law_refused : FnScope ["_law_top", "_law_bottom", "_law_caught", "e"] ["_law_top", "_law_bottom"] (defScope s_law_refused) := ⟨rfl, rfl, rfl, by decide +kernel, rfl, by decide +kernel, by decide +kernel⟩
abbrev s_law : Stmt := top 29
theorem sc_law : FnScope ["_law_script", "_law_share", "_law_top", "_law_bottom", "_law_kind", "_law_odd"] ["_law_script"] (defScope s_law) := ⟨rfl, rfl, rfl, by decide +kernel, rfl, by decide +kernel, by decide +kernel⟩
structure Txt (K : PySem.W.Frag) (mg : Str → Option Value) : Prop where
  g_is_whole : mg "is_whole" = some (.ref (He.ga K "is_whole"))
  g_divisor : mg "divisor" = some (.ref (He.ga K "divisor"))
  g_amount : mg "amount" = some (.ref (He.ga K "amount"))
  g_law_cell_at : mg "_law_cell_at" = some (.ref (He.ga K "_law_cell_at"))
  g_law_whole : mg "_law_whole" = some (.ref (He.ga K "_law_whole"))
  g_law_divisor : mg "_law_divisor" = some (.ref (He.ga K "_law_divisor"))
  g_law_number : mg "_law_number" = some (.ref (He.ga K "_law_number"))
  g_law_right : mg "_law_right" = some (.ref (He.ga K "_law_right"))
  g_law_refused : mg "_law_refused" = some (.ref (He.ga K "_law_refused"))
  g_law : mg "law" = some (.ref (He.ga K "law"))
  g_TreeError : mg "TreeError" = some (.ref (He.ga K "TreeError"))
  g_NoAmount : mg "NoAmount" = some (.ref (He.ga K "NoAmount"))
  g_NoName : mg "NoName" = some (.ref (He.ga K "NoName"))
  g_NoSplit : mg "NoSplit" = some (.ref (He.ga K "NoSplit"))
  g_NoLength : mg "NoLength" = some (.ref (He.ga K "NoLength"))
  g_Crossing : mg "Crossing" = some (.ref (He.ga K "Crossing"))
  g_NoText : mg "NoText" = some (.ref (He.ga K "NoText"))
  g_NoTable : mg "NoTable" = some (.ref (He.ga K "NoTable"))
  g_NoPoint : mg "NoPoint" = some (.ref (He.ga K "NoPoint"))
  g_NoTree : mg "NoTree" = some (.ref (He.ga K "NoTree"))
  g_NoClock : mg "NoClock" = some (.ref (He.ga K "NoClock"))
  g_NoColumn : mg "NoColumn" = some (.ref (He.ga K "NoColumn"))
  g_Clash : mg "Clash" = some (.ref (He.ga K "Clash"))
  g_Unlike : mg "Unlike" = some (.ref (He.ga K "Unlike"))
  g_NoTogether : mg "NoTogether" = some (.ref (He.ga K "NoTogether"))
  g_NoRow : mg "NoRow" = some (.ref (He.ga K "NoRow"))
  g_NoStand : mg "NoStand" = some (.ref (He.ga K "NoStand"))
  z_isinstance : mg "isinstance" = none
  z_int : mg "int" = none
  z_bool : mg "bool" = none
  z_abs : mg "abs" = none
  z_len : mg "len" = none
  z_tuple : mg "tuple" = none
  z_ValueError : mg "ValueError" = none
  x_NoAmount : PySem.W.excIn K (He.ga K "NoAmount") He.veBase "ValueError.__new__" = true ∧ PySem.W.keepIn K (.ref (He.ga K "NoAmount")) = true ∧ PySem.W.subIn K (.ref (He.ga K "NoAmount")) (.type "BaseException") = some true ∧ PySem.W.typeIn K (.ref (He.ga K "NoAmount")) = some (.type "type")
  e_NoAmount_TreeError : PySem.W.exmOne K (.ref (He.ga K "NoAmount")) (.ref (He.ga K "TreeError")) = some true
  d_is_whole : FnP K "is_whole" s_is_whole []
  d_divisor : FnP K "divisor" s_divisor []
  d_amount : FnP K "amount" s_amount [.int 1]
  d_law_cell_at : FnP K "_law_cell_at" s_law_cell_at []
  d_law_whole : FnP K "_law_whole" s_law_whole []
  d_law_divisor : FnP K "_law_divisor" s_law_divisor []
  d_law_number : FnP K "_law_number" s_law_number []
  d_law_right : FnP K "_law_right" s_law_right []
  d_law_refused : FnP K "_law_refused" s_law_refused []
  d_law : FnP K "law" s_law []
  xc_NoAmount : ExcC K (He.ga K "NoAmount")
  ka_98_NoAmount : PySem.W.kitAny K (.ref (He.ga K "NoAmount")) (([.own "NoSplit", .own "NoStand", .own "NoTable", .own "NoText", .own "NoTogether", .own "NoTree", .own "Unlike"] : List Cv).map (Cv.val K)) = some false
  ka_96_NoAmount : PySem.W.kitAny K (.ref (He.ga K "NoAmount")) (([.own "Clash", .own "Crossing", .own "NoClock", .own "NoColumn", .own "NoLength", .own "NoName", .own "NoPoint", .own "NoRow"] : List Cv).map (Cv.val K)) = some false
  k1_NoAmount_NoAmount : PySem.W.kitOne K (.ref (He.ga K "NoAmount")) ((.own "NoAmount" : Cv).val K) = some true
  k1_ValueError_NoAmount : PySem.W.kitOne K (.ref (He.ga K "NoAmount")) ((.ty "ValueError" : Cv).val K) = some true
section
variable {P : Program} {w : World} {K : PySem.W.Frag} {mg : Str → Option Value} {base : Heap}
/-! divisor -/
def sp_divisor : Sp := fun vs H Q _ => ∃ a b : Int, vs = [.int a, .int b] ∧ Q (.int (Int.gcd a b)) H
theorem abs_gcd (x : Int) : (if x < 0 then -x else x) = ((Int.gcd x 0 : Nat) : Int) := by
  rw [Int.gcd_zero_right]; split <;> omega
theorem ok_divisor (T : Txt K mg) : Def P w K mg base (0 + 1) "divisor" ["one", "other"] [] sp_divisor := by
  refine def_ok T.g_divisor T.d_divisor sc_divisor (fun vs H Q E h => by obtain ⟨a, b, rfl, _⟩ := h; rfl) (fun _ _ _ _ _ _ us hl => match us, hl with | [_, _], _ => rfl) (fun cdv A outer s H vs Q E hr h => ?_)
  obtain ⟨a, b, rfl, q⟩ := h
  refine ⟨_, (pss_cons (ps_wh (passes_of rfl) (pt_cmpR op_ne (pv 1) pe_int (nomark _)) (pss_one (ps_par (i := 0) (j := 1) (by rfl) sc_divisor.nd rfl rfl (by decide) rfl rfl (pa_cons (pv 1) (pa_cons (pe_op op_md (pv 0) (pv 1)) pa_nil)) (by rfl))))
      (pss_one (ps_ret (pe_callB call_abs (by rfl) T.z_abs (by decide +kernel) (pa_cons (pv 0) pa_nil))))), ?_⟩
  refine wh_by (fun σ H' => ∃ x y : Int, σ = [some (.int x), some (.int y)] ∧ H' = H ∧ Int.gcd x y = Int.gcd a b) (fun σ => match σ with | [_, some (.int y)] => y.natAbs | _ => 0) ⟨a, b, rfl, rfl, rfl⟩ ?_
  rintro σ H' ⟨x, y, rfl, rfl, e⟩
  walk_at "go"
  walk_at "if"
  · intro hy
    refine ⟨_, wn, ?_⟩
    walk_at "go"
    · exact ⟨hy⟩
    · exact fmod_lt x hy
    · exact (gcd_fmod x y).trans e
  · intro hy
    subst hy
    walk_at "go"
    show Q _ _
    rw [abs_gcd, e]; exact q
theorem ok_law_divisor (T : Txt K mg) : Def P w K mg base (0 + 1) "_law_divisor" ["_law_one", "_law_other"] [] sp_divisor := by
  refine def_ok T.g_law_divisor T.d_law_divisor sc_law_divisor (fun vs H Q E h => by obtain ⟨a, b, rfl, _⟩ := h; rfl) (fun _ _ _ _ _ _ us hl => match us, hl with | [_, _], _ => rfl) (fun cdv A outer s H vs Q E hr h => ?_)
  obtain ⟨a, b, rfl, q⟩ := h
  refine ⟨_, (pss_cons (ps_wh (passes_of rfl) (pt_cmpR op_ne (pv 1) pe_int (nomark _)) (pss_one (ps_par (i := 0) (j := 1) (by rfl) sc_law_divisor.nd rfl rfl (by decide) rfl rfl (pa_cons (pv 1) (pa_cons (pe_op op_md (pv 0) (pv 1)) pa_nil)) (by rfl))))
      (pss_one (ps_ret (pe_callB call_abs (by rfl) T.z_abs (by decide +kernel) (pa_cons (pv 0) pa_nil))))), ?_⟩
  refine wh_by (fun σ H' => ∃ x y : Int, σ = [some (.int x), some (.int y)] ∧ H' = H ∧ Int.gcd x y = Int.gcd a b) (fun σ => match σ with | [_, some (.int y)] => y.natAbs | _ => 0) ⟨a, b, rfl, rfl, rfl⟩ ?_
  rintro σ H' ⟨x, y, rfl, rfl, e⟩
  walk_at "go"
  walk_at "if"
  · intro hy
    refine ⟨_, wn, ?_⟩
    walk_at "go"
    · exact ⟨hy⟩
    · exact fmod_lt x hy
    · exact (gcd_fmod x y).trans e
  · intro hy
    subst hy
    walk_at "go"
    show Q _ _
    rw [abs_gcd, e]; exact q
/-! whole or not -/
def oddTy : List String := ["bool", "NoneType", "str", "tuple", "list", "dict"]
def Odd (K : PySem.W.Frag) (H : Hp) (x : V) : Prop := ∃ n ∈ oddTy, TyX K H x (.type n)
def sp_wholeG (K : PySem.W.Frag) : Sp := fun vs H Q _ => ∃ x : V, vs = [x] ∧ ((∃ a : Int, x = .int a ∧ Q (.bl true) H) ∨ (Odd K H x ∧ Q (.bl false) H))
theorem kit_odd {n : String} (h : n ∈ oddTy) : (n = "bool" ∧ PySem.W.kitOne K (.type n) (.type "int") = some true ∧ PySem.W.kitOne K (.type n) (.type "bool") = some true) ∨ PySem.W.kitOne K (.type n) (.type "int") = some false := by
  unfold oddTy at h
  simp only [List.mem_cons, List.not_mem_nil, or_false] at h
  rcases h with rfl | rfl | rfl | rfl | rfl | rfl
  · exact .inl ⟨rfl, kt_bi, kt_bb⟩
  · exact .inr kt_ni
  · exact .inr kt_si
  · exact .inr kt_ti
  · exact .inr kt_li
  · exact .inr kt_di
theorem ok_is_whole (T : Txt K mg) : Def P w K mg base (0 + 1) "is_whole" ["thing"] [] (sp_wholeG K) := by
  refine def_ok T.g_is_whole T.d_is_whole sc_is_whole (fun vs H Q E h => by obtain ⟨a, rfl, _⟩ := h; rfl) (fun _ _ _ _ _ _ us hl => match us, hl with | [_], _ => rfl) (fun cdv A outer s H vs Q E hr h => ?_)
  obtain ⟨x, rfl, q⟩ := h
  refine ⟨_, (pss_one (ps_ret (pe_and (pe_callB call_isi (by rfl) T.z_isinstance (by decide +kernel) (pa_cons (pv 0) (pa_cons (pe_bltn (v := .ty "int") (by rfl) T.z_int (by decide +kernel) rfl) pa_nil))) (pe_one (pe_not (pe_callB call_isi (by rfl) T.z_isinstance (by decide +kernel) (pa_cons (pv 0) (pa_cons (pe_bltn (v := .ty "bool") (by rfl) T.z_bool (by decide +kernel) rfl) pa_nil)))))))), ?_⟩
  rcases q with ⟨a, rfl, q⟩ | ⟨⟨n, hn, ty⟩, q⟩
  · walk_at "go"
    exact q
  · rcases kit_odd (K := K) hn with ⟨rfl, k1, k2⟩ | k1
    · refine ⟨_, rfl, _, _, _, _, _, rfl, .ty _, ty, k1, _, rfl, ?_⟩
      refine ⟨_, rfl, _, _, _, _, _, rfl, .ty _, ty, k2, _, rfl, ?_⟩
      exact q
    · refine ⟨_, rfl, _, _, _, _, _, rfl, .ty _, ty, k1, _, rfl, ?_⟩
      exact q
/-! amount -/
def Bad (K : PySem.W.Frag) (H : Hp) (x y : V) : Prop := Odd K H x ∨ ∃ t : Int, x = .int t ∧ (Odd K H y ∨ y = .int 0)
def sp_amountG (K : PySem.W.Frag) : Sp := fun vs H Q E => ∃ x y : V, vs = [x, y] ∧ ((∃ t b : Int, x = .int t ∧ y = .int b ∧ b ≠ 0 ∧ Bit 8999 b ∧ Ret K H Q (amtD (Rat.divInt t b))) ∨ (Bad K H x y ∧ E (.ref (He.ga K "NoAmount")) none H))
theorem amount_body (T : Txt K mg) (cdv : Value) (A : Around) (outer : List Env) (s : Shared) (H : Hp) (vs : List V) (Q : VK) (E : XK) (hr : Room 1 (A.deeper (envOfC "amount" (defScope s_amount) s.heap.objs.size (He.ga K "amount") cdv))) (h : sp_amountG K vs H Q E) :
    ∃ t, PSs (cxOf (L2.CX P w) P w K mg base ["top", "bottom", "share"] "amount" (defScope s_amount) (He.ga K "amount") cdv A outer s H E) (defBody s_amount) t ∧ t { nx := fun _ H' => Q .non H', rt := Q } (start ["top", "bottom", "share"] vs) H := by
  obtain ⟨x, y, rfl, h⟩ := h
  refine ⟨_, (pss_cons (ps_if (PW.pt (pw_or (pt_not (pt_val (pc0 (ok_is_whole T) (hr.mono (by decide)) (pa_cons (pv 0) pa_nil)))) (pw_or1 (pt_not (pt_val (pc0 (ok_is_whole T) (hr.mono (by decide)) (pa_cons (pv 1) pa_nil))))))) (pss_one (ps_raise rfl (takes_of rfl rfl rfl rfl) (pmk_own PySem.F.excBase_ValueError T.x_NoAmount.1 T.g_NoAmount T.x_NoAmount.2.1 (raises_own T.x_NoAmount.2.2.1 T.x_NoAmount.2.2.2) (by exact rfl)))) pss_nil)
      (pss_cons (ps_if (pt_cmpR op_eq (pv 1) pe_int (nomark _)) (pss_one (ps_raise rfl (takes_of rfl rfl rfl rfl) (pmk_own PySem.F.excBase_ValueError T.x_NoAmount.1 T.g_NoAmount T.x_NoAmount.2.1 (raises_own T.x_NoAmount.2.2.1 T.x_NoAmount.2.2.2) (by exact rfl)))) pss_nil)
      (pss_cons (ps_set (i := 2) sc_amount.nd rfl (Or.inl rfl) (pc0 (ok_divisor T) (hr.mono (by decide)) (pa_cons (pv 0) (pa_cons (pv 1) pa_nil))))
      (pss_k (ps_if (pt_cmpR op_lt (pv 1) pe_int (nomark _)) (pss_one (ps_set (i := 2) sc_amount.nd rfl (Or.inl rfl) (pe_op op_sub pe_int (pv 2)))) pss_nil)
      (pss_one (ps_ret (pe_tup (pa_cons (pe_op op_dv (pv 0) (pv 2)) (pa_cons (pe_op op_dv (pv 1) (pv 2)) pa_nil))))))))), ?_⟩
  rcases h with ⟨t, b, rfl, rfl, hb, hB, h1⟩ | ⟨bad, hE⟩
  · refine ⟨_, rfl, _, rfl, .inl ⟨_, rfl, _, rfl, ?_⟩⟩
    refine ⟨_, rfl, _, rfl, .inl ⟨_, rfl, _, rfl, ?_⟩⟩
    walk_at "go"
    walk_at "if"
    · intro h0
      exact absurd h0 hb
    · intro _
      walk_at "go"
      refine k_by (fun σ' H' => σ' = [some (.int t), some (.int b), some (.int (share t b))] ∧ H' = H) ?_ ?_
      · walk_at "go"
        walk_at "if"
        · intro hn
          walk_at "go"
          unfold share; rw [if_pos hn]; rfl
        · intro hn
          walk_at "go"
          unfold share; rw [if_neg hn]; rfl
      · rintro σ' H' ⟨rfl, rfl⟩
        walk_at "go"
        · exact dvok (share_ne hb) (hB.le (share_le hb)) (by decide)
        · exact dvok (share_ne hb) (hB.le (share_le hb)) (by decide)
        · intro p np
          exact h1 _ _ (Same.new np) (amt_mk sqt_new (amount_num hb) (amount_den hb))
  · rcases bad with o | ⟨t, rfl, o⟩
    · refine ⟨_, rfl, _, rfl, .inr ⟨o, _, rfl, ?_⟩⟩
      exact hE
    · refine ⟨_, rfl, _, rfl, .inl ⟨_, rfl, _, rfl, ?_⟩⟩
      rcases o with o | rfl
      · refine ⟨_, rfl, _, rfl, .inr ⟨o, _, rfl, ?_⟩⟩
        exact hE
      · refine ⟨_, rfl, _, rfl, .inl ⟨_, rfl, _, rfl, ?_⟩⟩
        walk_at "go"
        exact hE
theorem ok_amount (T : Txt K mg) : Def P w K mg base (1 + 1) "amount" ["top", "bottom"] [] (sp_amountG K) :=
  def_dfl T.g_amount T.d_amount 2 1 (by decide) rfl sc_amount (fun vs H Q E h => by obtain ⟨a, b, rfl, _⟩ := h; rfl) (fun _ _ _ _ _ _ _ us its h1 h2 => match us, its, h1, h2 with | [_, _], [_], _, _ => ⟨_, rfl, rfl⟩) (amount_body T)
theorem okd_amount (T : Txt K mg) : Def P w K mg base (1 + 1) "amount" ["top", "bottom"] [.int 1] (sp_amountG K) :=
  def_dfl T.g_amount T.d_amount 1 0 (by decide) rfl sc_amount (fun vs H Q E h => by obtain ⟨a, b, rfl, _⟩ := h; rfl) (fun _ _ _ _ _ _ _ us its h1 h2 => match us, its, h1, h2 with | [_], [_], _, _ => ⟨_, rfl, rfl⟩) (amount_body T)
end

section
variable {P : Program} {w : World} {K : PySem.W.Frag} {mg : Str → Option Value} {base : Heap}
def sp_whole : Sp := fun vs H Q _ => ∃ a : Int, vs = [.int a] ∧ Q (.bl true) H
theorem ok_law_whole (T : Txt K mg) : Def P w K mg base (0 + 1) "_law_whole" ["_law_thing"] [] sp_whole := by
  refine def_ok T.g_law_whole T.d_law_whole sc_law_whole (fun vs H Q E h => by obtain ⟨a, rfl, _⟩ := h; rfl) (fun _ _ _ _ _ _ us hl => match us, hl with | [_], _ => rfl) (fun cdv A outer s H vs Q E hr h => ?_)
  obtain ⟨a, rfl, q⟩ := h
  refine ⟨_, (pss_one (ps_ret (pe_and (pe_callB call_isi (by rfl) T.z_isinstance (by decide +kernel) (pa_cons (pv 0) (pa_cons (pe_bltn (v := .ty "int") (by rfl) T.z_int (by decide +kernel) rfl) pa_nil))) (pe_one (pe_not (pe_callB call_isi (by rfl) T.z_isinstance (by decide +kernel) (pa_cons (pv 0) (pa_cons (pe_bltn (v := .ty "bool") (by rfl) T.z_bool (by decide +kernel) rfl) pa_nil)))))))), ?_⟩
  walk_at "go"
  exact q
def sp_cell (K : PySem.W.Frag) : Sp := fun vs H Q _ => ∃ (a : Addr) (k : Nat) (ns : List Int), vs = [.ref a, .int k] ∧ SqL K H a (ns.map V.int) ∧ Q (.int (ns.getD k 0)) H
theorem ok_law_cell_at (T : Txt K mg) : Def P w K mg base (0 + 1) "_law_cell_at" ["_law_script", "_law_k"] [] (sp_cell K) := by
  refine def_ok T.g_law_cell_at T.d_law_cell_at sc_law_cell_at (fun vs H Q E h => by obtain ⟨_, _, _, rfl, _⟩ := h; rfl) (fun _ _ _ _ _ _ us hl => match us, hl with | [_, _], _ => rfl) (fun cdv A outer s H vs Q E hr h => ?_)
  obtain ⟨a, j, ns, rfl, hS, k⟩ := h
  refine ⟨_, (pss_cons (ps_if (pt_cmpR op_lt (pv 1) (pe_callB call_len_seq (by rfl) T.z_len (by decide +kernel) (pa_cons (pv 0) pa_nil)) (nomark _)) (pss_one (ps_ret (pe_ix ix_list (pv 0) (pv 1) (fun _ _ => rfl)))) pss_nil)
      (pss_one (ps_ret pe_int))), ?_⟩
  walk_at "go"
  walk_at "if"
  · intro h
    rw [List.length_map] at h
    walk_at "go"
    · exact at_ints (by omega)
    · exact k
  · intro h
    rw [List.length_map] at h
    walk_at "go"
    rw [List.getD_eq_getElem?_getD, List.getElem?_eq_none (by omega)] at k
    exact k
def sp_right (K : PySem.W.Frag) : Sp := fun vs H Q _ => ∃ (v : V) (q : Rat) (t b : Int) (m : Nat), vs = [v, .int t, .int b] ∧ Amt K H v q ∧ Sz m q ∧ Bit m t ∧ Bit m b ∧ m ≤ 100000 ∧ q.num * b = t * (q.den : Int) ∧ Q (.bl true) H
theorem ok_law_right (T : Txt K mg) : Def P w K mg base (1 + 1) "_law_right" ["_law_found", "_law_top", "_law_bottom"] [] (sp_right K) := by
  refine def_ok T.g_law_right T.d_law_right sc_law_right (fun vs H Q E h => by obtain ⟨_, _, _, _, _, rfl, _⟩ := h; rfl) (fun _ _ _ _ _ _ us hl => match us, hl with | [_, _, _], _ => rfl) (fun cdv A outer s H vs Q E hr h => ?_)
  obtain ⟨v, q, t, b, m, rfl, hq, sq, ht, hb, hm, e, k⟩ := h
  obtain ⟨aq, rfl, tq⟩ := amt_inv hq
  refine ⟨_, (pss_cons (ps_if (PW.pt (pw_or (pt_not (pt_val (pe_callB call_isi (by rfl) T.z_isinstance (by decide +kernel) (pa_cons (pv 0) (pa_cons (pe_bltn (v := .ty "tuple") (by rfl) T.z_tuple (by decide +kernel) rfl) pa_nil))))) (pw_or1 (pt_cmpR op_ne (pe_callB call_len_seq (by rfl) T.z_len (by decide +kernel) (pa_cons (pv 0) pa_nil)) pe_int (nomark _))))) (pss_one (ps_ret pe_bl)) pss_nil)
      (pss_cons (ps_if (PW.pt (pw_or (pt_not (pt_val (pc0 (ok_law_whole T) (hr.mono (by decide)) (pa_cons (pe_ix ix_tup (pv 0) pe_int (fun _ _ => rfl)) pa_nil)))) (pw_or (pt_not (pt_val (pc0 (ok_law_whole T) (hr.mono (by decide)) (pa_cons (pe_ix ix_tup (pv 0) pe_int (fun _ _ => rfl)) pa_nil)))) (pw_or1 (pt_cmpR op_lt (pe_ix ix_tup (pv 0) pe_int (fun _ _ => rfl)) pe_int (nomark _)))))) (pss_one (ps_ret pe_bl)) pss_nil)
      (pss_one (ps_ret (pe_and (pe_cmpR op_eq (pc0 (ok_law_divisor T) (hr.mono (by decide)) (pa_cons (pe_ix ix_tup (pv 0) pe_int (fun _ _ => rfl)) (pa_cons (pe_ix ix_tup (pv 0) pe_int (fun _ _ => rfl)) pa_nil))) pe_int (nomark _)) (pe_one (pe_cmpR op_eq (pe_op op_ml (pe_ix ix_tup (pv 0) pe_int (fun _ _ => rfl)) (pv 2)) (pe_op op_ml (pv 1) (pe_ix ix_tup (pv 0) pe_int (fun _ _ => rfl))) (nomark _)))))))), ?_⟩
  walk_at "go"
  refine ifF (decide_eq_false (by have := den_ge q; omega)) ?_
  walk_at "go"
  refine ifT (by rw [red]; rfl) ?_
  walk_at "go"
  · exact mulok sq.num hb (by omega)
  · exact mulok ht sq.den (by omega)
  · exact qb (decide_eq_true (congrArg V.int e)) k
end

section
variable {P : Program} {w : World} {K : PySem.W.Frag} {mg : Str → Option Value} {base : Heap}
/-! refused -/
def sp_refused (K : PySem.W.Frag) : Sp := fun vs H Q _ => ∃ x y : V, vs = [x, y] ∧ Bad K H x y ∧ ∀ H', Q (.bl true) H'
theorem ok_law_refused (T : Txt K mg) : Def P w K mg base (2 + 1) "_law_refused" ["_law_top", "_law_bottom"] [] (sp_refused K) := by
  refine def_ok T.g_law_refused T.d_law_refused sc_law_refused (fun vs H Q E h => by obtain ⟨_, _, rfl, _⟩ := h; rfl) (fun _ _ _ _ _ _ us hl => match us, hl with | [_, _], _ => rfl) (fun cdv A outer s H vs Q E hr h => ?_)
  obtain ⟨x, y, rfl, bad, k⟩ := h
  refine ⟨_, (pss_cons (ps_set (i := 2) sc_law_refused.nd rfl (Or.inl rfl) pe_non)
      (pss_cons (ps_try_keep (i := 3) rfl rfl rfl sc_law_refused.nd rfl rfl ⟨rfl, by decide, Or.inl T.g_TreeError⟩ (takes_of rfl rfl rfl rfl) (fun W pn xe tk po => (pss_one (ps_expr (pcl (ok_amount T) (hr.mono (by decide)) tk (pa_cons (pv 0) (pa_cons (pv 1) pa_nil)))))) (fun a pn => (pss_one (ps_set (i := 2) sc_law_refused.nd rfl (Or.inl rfl) (pv 3)))))
      (pss_cons (ps_if (PW.pt (pw_or (pt_cmpR op_isN (pv 2) pe_non (nomark _)) (pw_or1 (pt_val (pe_callB call_isXT (by rfl) T.z_isinstance (by decide +kernel) (pa_cons (pv 2) (pa_cons (pe_tup (pa_cons (pe_gref T.g_Clash) (pa_cons (pe_gref T.g_Crossing) (pa_cons (pe_gref T.g_NoClock) (pa_cons (pe_gref T.g_NoColumn) (pa_cons (pe_gref T.g_NoLength) (pa_cons (pe_gref T.g_NoName) (pa_cons (pe_gref T.g_NoPoint) (pa_cons (pe_gref T.g_NoRow) pa_nil))))))))) pa_nil))))))) (pss_one (ps_ret pe_bl)) pss_nil)
      (pss_cons (ps_if (pt_val (pe_callB call_isXT (by rfl) T.z_isinstance (by decide +kernel) (pa_cons (pv 2) (pa_cons (pe_tup (pa_cons (pe_gref T.g_NoSplit) (pa_cons (pe_gref T.g_NoStand) (pa_cons (pe_gref T.g_NoTable) (pa_cons (pe_gref T.g_NoText) (pa_cons (pe_gref T.g_NoTogether) (pa_cons (pe_gref T.g_NoTree) (pa_cons (pe_gref T.g_Unlike) pa_nil)))))))) pa_nil)))) (pss_one (ps_ret pe_bl)) pss_nil)
      (pss_one (ps_ret (pe_and (pe_callB call_isX (by rfl) T.z_isinstance (by decide +kernel) (pa_cons (pv 2) (pa_cons (pe_gref T.g_NoAmount) pa_nil))) (pe_one (pe_callB call_isX (by rfl) T.z_isinstance (by decide +kernel) (pa_cons (pv 2) (pa_cons (pe_bltn (v := .ty "ValueError") (by rfl) T.z_ValueError (by decide +kernel) rfl) pa_nil))))))))))), ?_⟩
  refine ⟨_, rfl, _, rfl, _, _, rfl, .inr ⟨bad, true, T.e_NoAmount_TreeError, fun _ a na => ?_, fun q => nomatch q⟩⟩
  walk_at "go"
  intro p np
  refine isxt [.own "Clash", .own "Crossing", .own "NoClock", .own "NoColumn", .own "NoLength", .own "NoName", .own "NoPoint", .own "NoRow"] T.ka_96_NoAmount T.xc_NoAmount np upd_same (fun H1 s1 => ?_)
  have h1 := s1 _ _ upd_same
  walk_at "go"
  intro p2 np2
  refine isxt [.own "NoSplit", .own "NoStand", .own "NoTable", .own "NoText", .own "NoTogether", .own "NoTree", .own "Unlike"] T.ka_98_NoAmount T.xc_NoAmount np2 h1 (fun H2 s2 => ?_)
  have h2 := s2 _ _ h1
  walk_at "go"
  refine isx (.own "NoAmount") T.k1_NoAmount_NoAmount T.xc_NoAmount h2 ?_
  walk_at "go"
  refine isx (.ty "ValueError") T.k1_ValueError_NoAmount T.xc_NoAmount h2 ?_
  exact k _
/-- a drawn number -/
def num1 (f : Int) : Int := if f.fmod 3 = 0 then (f.fdiv 3).fmod 31 - 15 else (f.fdiv 3).fmod (2 * 10 ^ 40 + 1) - 10 ^ 40
theorem fmod_rng (a : Int) {b : Int} (h : 0 < b) : 0 ≤ a.fmod b ∧ a.fmod b < b := ⟨Int.fmod_nonneg_of_pos a h, Int.fmod_lt_of_pos a h⟩
theorem num1_bit (f : Int) : Bit 134 (num1 f) := by
  unfold num1
  refine Bit.of (10 ^ 40) ?_ (by decide)
  split
  · have := fmod_rng (f.fdiv 3) (b := 31) (by decide); omega
  · have := fmod_rng (f.fdiv 3) (b := 2 * 10 ^ 40 + 1) (by decide); omega
def sp_number : Sp := fun vs H Q _ => ∃ f : Int, vs = [.int f] ∧ Q (.int (num1 f)) H
theorem ok_law_number (T : Txt K mg) : Def P w K mg base (0 + 1) "_law_number" ["_law_cell"] [] sp_number := by
  refine def_ok T.g_law_number T.d_law_number sc_law_number (fun vs H Q E h => by obtain ⟨_, rfl, _⟩ := h; rfl) (fun _ _ _ _ _ _ us hl => match us, hl with | [_], _ => rfl) (fun cdv A outer s H vs Q E hr h => ?_)
  obtain ⟨f, rfl, k⟩ := h
  refine ⟨_, (pss_cons (ps_if (pt_cmpR op_eq (pe_op op_md (pv 0) pe_int) pe_int (nomark _)) (pss_one (ps_ret (pe_op op_sub (pe_op op_md (pe_op op_dv (pv 0) pe_int) pe_int) pe_int))) pss_nil)
      (pss_one (ps_ret (pe_op op_sub (pe_op op_md (pe_op op_dv (pv 0) pe_int) (pe_op op_add (pe_op op_ml pe_int (pe_op op_pow pe_int pe_int)) pe_int)) (pe_op op_pow pe_int pe_int))))), ?_⟩
  walk_at "go"
  walk_at "if"
  · intro h
    walk_at "go"
    unfold num1 at k; rw [if_pos h] at k; exact k
  · intro h
    walk_at "go"
    unfold num1 at k; rw [if_neg h] at k; exact k
end

section
variable {P : Program} {w : World} {K : PySem.W.Frag} {mg : Str → Option Value} {base : Heap}
def sp_law (K : PySem.W.Frag) : Sp := fun vs H Q _ => ∃ (a : Addr) (ns : List Int), vs = [.ref a] ∧ SqL K H a (ns.map V.int) ∧ ns.length ≤ 63 ∧ (∀ z ∈ ns, Builtin.Int.intBits z ≤ 1048576) ∧ ∀ H', Q (.bl true) H'
def sh1 (c : Int) : Int := if c.fmod 2 = 1 then 1 + (c.fdiv 2).fmod (10 ^ 40) else 1
theorem sh1_bit (c : Int) : Bit 134 (sh1 c) := by
  unfold sh1
  refine Bit.of (10 ^ 40) ?_ (by decide)
  split
  · have := fmod_rng (c.fdiv 2) (b := 10 ^ 40) (by decide); omega
  · decide
theorem law_fn {fd : FuncData} (T : Txt K mg) (F : FunD K "law" "law" (defArgs s_law) (defBody s_law) (defScope s_law) [] [] (He.ga K "law") fd) : FnOk P w K mg base (L2.CX P w) (3 + 1) (He.ga K "law") fd ["_law_script"] (sp_law K) := by
  refine F.ok sc_law (fun vs H Q E h => by obtain ⟨_, _, rfl, _⟩ := h; rfl) (fun cdv A outer s H vs Q E hr h => ?_)
  obtain ⟨a, ns, rfl, hS, hl, hbt, k⟩ := h
  refine ⟨_, (pss_cons (ps_set (i := 1) sc_law.nd rfl (Or.inl rfl) pe_int)
      (pss_k (ps_if (pt_cmpR op_eq (pe_op op_md (pc0 (ok_law_cell_at T) (hr.mono (by decide)) (pa_cons (pv 0) (pa_cons pe_int pa_nil))) pe_int) pe_int (nomark _)) (pss_one (ps_set (i := 1) sc_law.nd rfl (Or.inl rfl) (pe_op op_add pe_int (pe_op op_md (pe_op op_dv (pc0 (ok_law_cell_at T) (hr.mono (by decide)) (pa_cons (pv 0) (pa_cons pe_int pa_nil))) pe_int) (pe_op op_pow pe_int pe_int))))) pss_nil)
      (pss_k (ps_if (pt_cmpR op_eq (pe_op op_md (pc0 (ok_law_cell_at T) (hr.mono (by decide)) (pa_cons (pv 0) (pa_cons pe_int pa_nil))) pe_int) pe_int (nomark _)) (pss_one (ps_set (i := 1) sc_law.nd rfl (Or.inl rfl) (pe_op op_sub pe_int (pv 1)))) pss_nil)
      (pss_cons (ps_set (i := 2) sc_law.nd rfl (Or.inl rfl) (pe_op op_ml (pc0 (ok_law_number T) (hr.mono (by decide)) (pa_cons (pc0 (ok_law_cell_at T) (hr.mono (by decide)) (pa_cons (pv 0) (pa_cons pe_int pa_nil))) pa_nil)) (pv 1)))
      (pss_cons (ps_set (i := 3) sc_law.nd rfl (Or.inl rfl) (pe_op op_ml (pc0 (ok_law_number T) (hr.mono (by decide)) (pa_cons (pc0 (ok_law_cell_at T) (hr.mono (by decide)) (pa_cons (pv 0) (pa_cons pe_int pa_nil))) pa_nil)) (pv 1)))
      (pss_cons (ps_set (i := 4) sc_law.nd rfl (Or.inl rfl) (pe_op op_md (pc0 (ok_law_cell_at T) (hr.mono (by decide)) (pa_cons (pv 0) (pa_cons pe_int pa_nil))) pe_int))
      (pss_cons (ps_set (i := 5) sc_law.nd rfl (Or.inl rfl) (pe_ix ix_list (pe_lst (pa_cons pe_bl (pa_cons pe_bl (pa_cons pe_non (pa_cons pe_str (pa_cons (pe_tup (pa_cons pe_int (pa_cons pe_int pa_nil))) (pa_cons (pe_lst (pa_cons pe_int pa_nil)) (pa_cons pe_dnewK pa_nil)))))))) (pe_op op_md (pe_op op_dv (pc0 (ok_law_cell_at T) (hr.mono (by decide)) (pa_cons (pv 0) (pa_cons pe_int pa_nil))) pe_int) pe_int) (fun _ _ => rfl)))
      (pss_k (ps_if (pt_cmpR op_eq (pv 4) pe_int (nomark _)) (pss_one (ps_set (i := 3) sc_law.nd rfl (Or.inl rfl) pe_int)) pss_nil)
      (pss_cons (ps_if (pt_cmpR op_eq (pv 4) pe_int (nomark _)) (pss_one (ps_ret (pc0 (ok_law_refused T) (hr.mono (by decide)) (pa_cons (pv 5) (pa_cons (pv 3) pa_nil))))) pss_nil)
      (pss_cons (ps_if (pt_cmpR op_eq (pv 4) pe_int (nomark _)) (pss_one (ps_ret (pc0 (ok_law_refused T) (hr.mono (by decide)) (pa_cons (pv 2) (pa_cons (pv 5) pa_nil))))) pss_nil)
      (pss_cons (ps_if (pt_cmpR op_eq (pv 3) pe_int (nomark _)) (pss_one (ps_ret (pc0 (ok_law_refused T) (hr.mono (by decide)) (pa_cons (pv 2) (pa_cons (pv 3) pa_nil))))) pss_nil)
      (pss_one (ps_ret (pe_and (pc0 (ok_law_right T) (hr.mono (by decide)) (pa_cons (pcl (ok_amount T) (hr.mono (by decide)) (takes_of rfl rfl rfl rfl) (pa_cons (pv 2) (pa_cons (pv 3) pa_nil))) (pa_cons (pv 2) (pa_cons (pv 3) pa_nil)))) (pe_one (pc0 (ok_law_right T) (hr.mono (by decide)) (pa_cons (pcl (okd_amount T) (hr.mono (by decide)) (takes_of rfl rfl rfl rfl) (pa_cons (pv 2) pa_nil)) (pa_cons (pv 2) (pa_cons pe_int pa_nil))))))))))))))))))), ?_⟩
  walk_at "go"
  refine k_by (fun σ' H' => σ' = [some (.ref a), some (.int (sh1 (ns.getD 2 0))), none, none, none, none] ∧ H' = H) ?_ ?_
  · walk_at "go"
    walk_at "if"
    · intro h
      walk_at "go"
      unfold sh1; rw [if_pos h]; rfl
    · intro h
      walk_at "go"
      unfold sh1; rw [if_neg h]; rfl
  · rintro σ' H' ⟨rfl, rfl⟩
    walk_at "go"
    refine k_by (fun σ' H'' => Bx (∃ z : Int, σ' = [some (.ref a), some (.int z), none, none, none, none] ∧ H'' = H' ∧ Bit 134 z)) ?_ ?_
    · walk_at "go"
      walk_at "if"
      · intro h
        walk_at "go"
        exact ⟨_, rfl, rfl, (sh1_bit _).neg⟩
      · intro h
        exact ⟨_, rfl, rfl, sh1_bit _⟩
    · rintro σ' H' ⟨z, rfl, rfl, bz⟩
      have b0 := num1_bit (ns.getD 0 0)
      have b1 := num1_bit (ns.getD 1 0)
      walk_at "go"
      · exact mulok b0 bz (by decide)
      · exact mulok b1 bz (by decide)
      intro p1 n1
      have s1 := Same.new (o := .tup [.int 1, .int 2]) n1
      walk_at "go"
      intro p2 n2
      have s2 := Same.new (o := .lst [.int 1]) n2
      walk_at "go"
      intro p3 n3
      have s3 := Same.new (o := .dK []) n3
      walk_at "go"
      intro p4 n4
      have s4 := Same.new (o := .lst [.bl true, .bl false, .non, .str "1", .ref p1, .ref p2, .ref p3]) n4
      have odds : ∃ v, atI [V.bl true, .bl false, .non, .str "1", .ref p1, .ref p2, .ref p3] (((ns.getD 4 0).fdiv 8).fmod 7) = some v ∧ Odd K (upd (upd (upd (upd H' p1 (.tup [.int 1, .int 2])) p2 (.lst [.int 1])) p3 (.dK [])) p4 (.lst [.bl true, .bl false, .non, .str "1", .ref p1, .ref p2, .ref p3])) v := by
        have r := fmod_rng ((ns.getD 4 0).fdiv 8) (b := 7) (by decide)
        generalize ((ns.getD 4 0).fdiv 8).fmod 7 = j at r
        have hj : j = 0 ∨ j = 1 ∨ j = 2 ∨ j = 3 ∨ j = 4 ∨ j = 5 ∨ j = 6 := by omega
        rcases hj with rfl | rfl | rfl | rfl | rfl | rfl | rfl
        · exact ⟨_, atI_nat (j := 0) rfl, "bool", by decide, .base (.bl _)⟩
        · exact ⟨_, atI_nat (j := 1) rfl, "bool", by decide, .base (.bl _)⟩
        · exact ⟨_, atI_nat (j := 2) rfl, "NoneType", by decide, .base .non⟩
        · exact ⟨_, atI_nat (j := 3) rfl, "str", by decide, .base (.str _)⟩
        · exact ⟨_, atI_nat (j := 4) rfl, "tuple", by decide, .base (.tup (s4 _ _ (s3 _ _ (s2 _ _ upd_same))))⟩
        · exact ⟨_, atI_nat (j := 5) rfl, "list", by decide, .base (.lst (s4 _ _ (s3 _ _ upd_same)))⟩
        · exact ⟨_, atI_nat (j := 6) rfl, "dict", by decide, .base (.dK (s4 _ _ upd_same))⟩
      obtain ⟨v, hv, ov⟩ := odds
      generalize hH : upd (upd (upd (upd H' p1 (.tup [.int 1, .int 2])) p2 (.lst [.int 1])) p3 (.dK [])) p4 (.lst [.bl true, .bl false, .non, .str "1", .ref p1, .ref p2, .ref p3]) = H4 at *
      have hS4 : SqL K H4 a (ns.map V.int) := s4.seq (s3.seq (s2.seq (s1.seq hS)))
      have hL4 : SqL K H4 p4 [V.bl true, .bl false, .non, .str "1", .ref p1, .ref p2, .ref p3] := by rw [← hH]; exact sql_new
      walk_at "go"
      · exact hv
      refine k_by (fun σ' H'' => Bx (∃ y : Int, σ' = [some (.ref a), some (.int z), some (.int (num1 (ns.getD 0 0) * z)), some (.int y), some (.int ((ns.getD 4 0).fmod 8)), some v] ∧ H'' = H4 ∧ Bit 268 y)) ?_ ?_
      · walk_at "go"
        walk_at "if"
        · intro _
          walk_at "go"
          exact ⟨0, rfl, rfl, Bit.mono (by unfold Bit; decide : Bit 1 0) (by decide)⟩
        · intro _
          exact ⟨_, rfl, rfl, b1.mul bz⟩
      · rintro σ' H'' ⟨y, rfl, rfl, by1⟩
        have bt := b0.mul bz
        walk_at "go"
        walk_at "if"
        · intro _
          walk_at "go"
          · exact .inl ov
          · exact k
        · intro _
          walk_at "go"
          walk_at "if"
          · intro _
            walk_at "go"
            · exact .inr ⟨_, rfl, .inl ov⟩
            · exact k
          · intro _
            walk_at "go"
            walk_at "if"
            · intro hy
              walk_at "go"
              · exact .inr ⟨_, rfl, .inr (congrArg V.int hy)⟩
              · exact k
            · intro hy
              walk_at "go"
              refine .inl ⟨_, _, rfl, rfl, hy, by1.mono (by decide), fun v1 H1 e1 d1 => ?_⟩
              have z1 : Sz 268 (Rat.divInt (num1 (ns.getD 0 0) * z) y) := Sz.divInt hy bt by1
              walk_at "go"
              · exact bt
              · exact by1
              · exact worth hy
              · refine .inl ⟨_, _, rfl, rfl, by decide, Bit.mono (by unfold Bit; decide : Bit 1 1) (by decide), fun v2 H2 e2 d2 => ?_⟩
                have z2 : Sz 268 (Rat.divInt (num1 (ns.getD 0 0) * z) 1) := Sz.divInt (by decide) bt (Bit.mono (by unfold Bit; decide : Bit 1 1) (by decide))
                walk_at "go"
                · exact bt
                · exact Bit.mono (by unfold Bit; decide : Bit 1 1) (by decide)
                · exact worth (by decide)
                · exact k _
end

def dd_is_whole : He.DefD := ⟨("is_whole", none), "is_whole", "is_whole", defArgs s_is_whole, defBody s_is_whole, defScope s_is_whole, [], []⟩
def dd_divisor : He.DefD := ⟨("divisor", none), "divisor", "divisor", defArgs s_divisor, defBody s_divisor, defScope s_divisor, [], []⟩
def dd_amount : He.DefD := ⟨("amount", none), "amount", "amount", defArgs s_amount, defBody s_amount, defScope s_amount, [.int 1], []⟩
def dd_law_cell_at : He.DefD := ⟨("_law_cell_at", none), "_law_cell_at", "_law_cell_at", defArgs s_law_cell_at, defBody s_law_cell_at, defScope s_law_cell_at, [], []⟩
def dd_law_whole : He.DefD := ⟨("_law_whole", none), "_law_whole", "_law_whole", defArgs s_law_whole, defBody s_law_whole, defScope s_law_whole, [], []⟩
def dd_law_divisor : He.DefD := ⟨("_law_divisor", none), "_law_divisor", "_law_divisor", defArgs s_law_divisor, defBody s_law_divisor, defScope s_law_divisor, [], []⟩
def dd_law_number : He.DefD := ⟨("_law_number", none), "_law_number", "_law_number", defArgs s_law_number, defBody s_law_number, defScope s_law_number, [], []⟩
def dd_law_right : He.DefD := ⟨("_law_right", none), "_law_right", "_law_right", defArgs s_law_right, defBody s_law_right, defScope s_law_right, [], []⟩
def dd_law_refused : He.DefD := ⟨("_law_refused", none), "_law_refused", "_law_refused", defArgs s_law_refused, defBody s_law_refused, defScope s_law_refused, [], []⟩
def dd_law : He.DefD := ⟨("law", none), "law", "law", defArgs s_law, defBody s_law, defScope s_law, [], []⟩
def hfa : List He.Fa := [.glo "is_whole", .glo "divisor", .glo "amount", .glo "_law_cell_at", .glo "_law_whole", .glo "_law_divisor", .glo "_law_number", .glo "_law_right", .glo "_law_refused", .glo "law", .glo "TreeError", .glo "NoAmount", .glo "NoName", .glo "NoSplit", .glo "NoLength", .glo "Crossing", .glo "NoText", .glo "NoTable", .glo "NoPoint", .glo "NoTree", .glo "NoClock", .glo "NoColumn", .glo "Clash", .glo "Unlike", .glo "NoTogether", .glo "NoRow", .glo "NoStand", .free "isinstance", .free "int", .free "bool", .free "abs", .free "len", .free "tuple", .free "ValueError", .exc "NoAmount", .exm "NoAmount" "TreeError" true]
def hfn : List He.DefD := [dd_is_whole, dd_divisor, dd_amount, dd_law_cell_at, dd_law_whole, dd_law_divisor, dd_law_number, dd_law_right, dd_law_refused, dd_law]
def loose : List PySem.Str := (["TreeError", "NoAmount", "NoName", "NoSplit", "NoLength", "Crossing", "NoText", "NoTable", "NoPoint", "NoTree", "NoClock", "NoColumn", "Clash", "Unlike", "NoTogether", "NoRow", "NoStand", "is_whole", "divisor", "amount", "_law_cell_at", "_law_whole", "_law_divisor", "_law_number", "_law_right", "_law_refused"] : List PySem.Str)
abbrev R : PySem.W.OpenRow := PySem.W.OpenLaw.row PySem.Challenge.rw_limbmap_k01_an_amount
def hfx : List Fx := [fxExc "NoAmount", fxAny "NoAmount" [.own "NoSplit", .own "NoStand", .own "NoTable", .own "NoText", .own "NoTogether", .own "NoTree", .own "Unlike"] false, fxAny "NoAmount" [.own "Clash", .own "Crossing", .own "NoClock", .own "NoColumn", .own "NoLength", .own "NoName", .own "NoPoint", .own "NoRow"] false, fxKit "NoAmount" (.own "NoAmount") true, fxKit "NoAmount" (.ty "ValueError") true]
abbrev hk : PySem.W.Hook := hookP 4 hfa hfn hfx
def ob (s : PySem.W.SharedT) : He.AlD × Bool := obsP 4 hfa hfn hfx (HandSHeadRun.getT s)
theorem ob_eq (s : PySem.W.SharedT) : ob s = hk.obs s.abs := obsP_eq (HandSHeadRun.getT_eq s)
theorem run (w : World) : HandSHeadRun.RunEq R (PySem.W.view R.prog [29]) hk ob 6000 loose w := by
  intro os
  kernel_rfl
theorem txt_of {K : PySem.W.Frag} {h : Heap} {mg : Str → Option Value} (X : K.In h) (G : h.Ns mainGlobals mg) (c : SaysP hfa hfn hfx K) : Txt K mg :=
  { g_is_whole := He.glo_ok X G (c.d.fact 0 (f := .glo "is_whole") rfl),
    g_divisor := He.glo_ok X G (c.d.fact 1 (f := .glo "divisor") rfl),
    g_amount := He.glo_ok X G (c.d.fact 2 (f := .glo "amount") rfl),
    g_law_cell_at := He.glo_ok X G (c.d.fact 3 (f := .glo "_law_cell_at") rfl),
    g_law_whole := He.glo_ok X G (c.d.fact 4 (f := .glo "_law_whole") rfl),
    g_law_divisor := He.glo_ok X G (c.d.fact 5 (f := .glo "_law_divisor") rfl),
    g_law_number := He.glo_ok X G (c.d.fact 6 (f := .glo "_law_number") rfl),
    g_law_right := He.glo_ok X G (c.d.fact 7 (f := .glo "_law_right") rfl),
    g_law_refused := He.glo_ok X G (c.d.fact 8 (f := .glo "_law_refused") rfl),
    g_law := He.glo_ok X G (c.d.fact 9 (f := .glo "law") rfl),
    g_TreeError := He.glo_ok X G (c.d.fact 10 (f := .glo "TreeError") rfl),
    g_NoAmount := He.glo_ok X G (c.d.fact 11 (f := .glo "NoAmount") rfl),
    g_NoName := He.glo_ok X G (c.d.fact 12 (f := .glo "NoName") rfl),
    g_NoSplit := He.glo_ok X G (c.d.fact 13 (f := .glo "NoSplit") rfl),
    g_NoLength := He.glo_ok X G (c.d.fact 14 (f := .glo "NoLength") rfl),
    g_Crossing := He.glo_ok X G (c.d.fact 15 (f := .glo "Crossing") rfl),
    g_NoText := He.glo_ok X G (c.d.fact 16 (f := .glo "NoText") rfl),
    g_NoTable := He.glo_ok X G (c.d.fact 17 (f := .glo "NoTable") rfl),
    g_NoPoint := He.glo_ok X G (c.d.fact 18 (f := .glo "NoPoint") rfl),
    g_NoTree := He.glo_ok X G (c.d.fact 19 (f := .glo "NoTree") rfl),
    g_NoClock := He.glo_ok X G (c.d.fact 20 (f := .glo "NoClock") rfl),
    g_NoColumn := He.glo_ok X G (c.d.fact 21 (f := .glo "NoColumn") rfl),
    g_Clash := He.glo_ok X G (c.d.fact 22 (f := .glo "Clash") rfl),
    g_Unlike := He.glo_ok X G (c.d.fact 23 (f := .glo "Unlike") rfl),
    g_NoTogether := He.glo_ok X G (c.d.fact 24 (f := .glo "NoTogether") rfl),
    g_NoRow := He.glo_ok X G (c.d.fact 25 (f := .glo "NoRow") rfl),
    g_NoStand := He.glo_ok X G (c.d.fact 26 (f := .glo "NoStand") rfl),
    z_isinstance := He.free_ok X G (c.d.fact 27 (f := .free "isinstance") rfl),
    z_int := He.free_ok X G (c.d.fact 28 (f := .free "int") rfl),
    z_bool := He.free_ok X G (c.d.fact 29 (f := .free "bool") rfl),
    z_abs := He.free_ok X G (c.d.fact 30 (f := .free "abs") rfl),
    z_len := He.free_ok X G (c.d.fact 31 (f := .free "len") rfl),
    z_tuple := He.free_ok X G (c.d.fact 32 (f := .free "tuple") rfl),
    z_ValueError := He.free_ok X G (c.d.fact 33 (f := .free "ValueError") rfl),
    x_NoAmount := He.exc_ok (c.d.fact 34 (f := .exc "NoAmount") rfl),
    e_NoAmount_TreeError := He.exm_ok (c.d.fact 35 (f := .exm "NoAmount" "TreeError" true) rfl),
    d_is_whole := c.d.def_ 0 (d := dd_is_whole) rfl,
    d_divisor := c.d.def_ 1 (d := dd_divisor) rfl,
    d_amount := c.d.def_ 2 (d := dd_amount) rfl,
    d_law_cell_at := c.d.def_ 3 (d := dd_law_cell_at) rfl,
    d_law_whole := c.d.def_ 4 (d := dd_law_whole) rfl,
    d_law_divisor := c.d.def_ 5 (d := dd_law_divisor) rfl,
    d_law_number := c.d.def_ 6 (d := dd_law_number) rfl,
    d_law_right := c.d.def_ 7 (d := dd_law_right) rfl,
    d_law_refused := c.d.def_ 8 (d := dd_law_refused) rfl,
    d_law := c.d.def_ 9 (d := dd_law) rfl,
    xc_NoAmount := fxExc_ok (c.get 0 (f := fxExc "NoAmount") rfl),
    ka_98_NoAmount := fxAny_ok (c.get 1 (f := fxAny "NoAmount" [.own "NoSplit", .own "NoStand", .own "NoTable", .own "NoText", .own "NoTogether", .own "NoTree", .own "Unlike"] false) rfl),
    ka_96_NoAmount := fxAny_ok (c.get 2 (f := fxAny "NoAmount" [.own "Clash", .own "Crossing", .own "NoClock", .own "NoColumn", .own "NoLength", .own "NoName", .own "NoPoint", .own "NoRow"] false) rfl),
    k1_NoAmount_NoAmount := fxKit_ok (c.get 3 (f := fxKit "NoAmount" (.own "NoAmount") true) rfl),
    k1_ValueError_NoAmount := fxKit_ok (c.get 4 (f := fxKit "NoAmount" (.ty "ValueError") true) rfl) }
theorem facts {P : Program} {w : World} {K : PySem.W.Frag} {h : Heap} {mg : Str → Option Value} {f : Addr} (X : K.In h) (G : h.Ns mainGlobals mg) (hmg : mg ("law" : Str) = some (.ref f)) (c : SaysP hfa hfn hfx K) :
    ∃ fd : FuncData, (∀ (s : Shared) (v : Value), BindsTo s fd ⟨[v], []⟩ [("_law_script", v)]) ∧ ∀ base : Heap, K.In base → base.Ns mainGlobals mg → FnOk P w K mg base (L2.CX P w) 4 f fd ["_law_script"] (sp_law K) := by
  have T := txt_of X G c
  have e := hmg.symm.trans T.g_law
  cases e
  obtain ⟨fd, F⟩ := T.d_law
  have b := FunD.bindsA (ps := ["_law_script"]) F fun _ _ _ _ _ _ us hl => match us, hl with | [_], _ => rfl
  exact ⟨fd, fun s v => b s [v] rfl, fun base _ _ => law_fn T F⟩
end Lim
open PySem PySem.W PySem.Calls PyProof.Rows
theorem PySem.Challenge.cw_limbmap_k01_an_amount_holds : PySem.Challenge.rw_limbmap_k01_an_amount.Holds := by
  w_on; o_law
  refine HandSHeadRun.head_any (r := OpenLaw.row PySem.Challenge.rw_limbmap_k01_an_amount) (q := view (OpenLaw.row PySem.Challenge.rw_limbmap_k01_an_amount).prog [29]) (H := Lim.hk) (ob := Lim.ob) (M := 6000) (loose := Lim.loose) (d := HandSHeadRun.topDef (OpenLaw.row PySem.Challenge.rw_limbmap_k01_an_amount).prog 29) (kwd := []) Lim.ob_eq
    (by kernel_rfl) (fun s => by kernel_rfl) Lim.run (by kernel_rfl) (by kernel_rfl) (by kernel_rfl) (by rfl) (by first | assumption | decide +kernel) (by decide +kernel) ⟨rfl, rfl, rfl, rfl, rfl, by decide +kernel⟩ ?hw ?hc
  case hw => w_witness2
  case hc =>
    refine Lim.walk_ofEB (l := PySem.Challenge.rw_limbmap_k01_an_amount) (n := 63) (k := 4) (x := "_law_script") rfl (by decide) (by kernel_rfl) ⟨rfl, by decide, by decide⟩ ?F
    intro w mg fa h Y G hmg0
    obtain ⟨K, KX, c⟩ := Y
    have hmg : mg ("law" : PySem.Str) = some (.ref fa) := by
      have e : (HandSHeadRun.topDef (OpenLaw.row PySem.Challenge.rw_limbmap_k01_an_amount).prog 29).name = ("law" : PySem.Str) := by kernel_rfl
      rw [← e]
      exact hmg0
    obtain ⟨fd, hb, hF⟩ := Lim.facts (P := (PySem.Challenge.rw_limbmap_k01_an_amount).prog) (w := w) KX G hmg c
    exact ⟨K, fd, Lim.sp_law K, KX, hb, fun H a ns hl hbt hO hS => ⟨a, ns, rfl, hS, hl, hbt, fun _ => rfl⟩, hF⟩


