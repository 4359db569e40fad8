import PyProof.Rows.All
import Wide.All
import OpenK.AllK
import Wide.FinOn
import PyProof.EqAt
import PyProof.EqKinds
import PyProof.TupleCall
import HandS.ForMost
import HandS.ForExc
import HandS.Wide
import HandS.IsInst
import HandS.Evl
import HandS.Steps
import HandS.TupAny
import HandS.TupMul
import HandS.Lambda
import HandS.HotCalls
import HandS.ExcIs
import HandS.EndTab
import HandS.EndOwn
import HandS.Style
import HandS.Deep
import HandS.More
import HandS.Dict
import HandS.Conv
import HandS.List
import HandS.Comp
import KE.KNestM
import HandS.HeadHook2
import HandS.HeadWalk
import KE.KStateDown
import HandS.Defaults
import HandS.Head0
import HandS.Head1
import HandS.Head2
import HandS.HeadEnd
import HandS.HeadHook1
import HandS.ExcValue
import HandS.NoneIn
import HandS.FStr
import HandS.Text
import KE.GoesRaise
import PySem.Challenge.RW_roundwaves_k14_errors_apart
/-! plain mathematics of fractions: no program -/
set_option linter.all false
set_option maxHeartbeats 2000000
namespace RW
/-- a fraction below 2 ^ n, top and bottom -/
def Sz (n : Nat) (x : Rat) : Prop := x.num.natAbs < 2 ^ n ∧ x.den < 2 ^ n
instance (n : Nat) (x : Rat) : Decidable (Sz n x) := inferInstanceAs (Decidable (_ ∧ _))
theorem Sz.mono {n m : Nat} {x : Rat} (h : Sz n x) (hm : n ≤ m) : Sz m x :=
  ⟨Nat.lt_of_lt_of_le h.1 (Nat.pow_le_pow_right (by decide) hm), Nat.lt_of_lt_of_le h.2 (Nat.pow_le_pow_right (by decide) hm)⟩
/-- the fraction t / b in lowest terms -/
theorem low_num {t b : Int} (hb : b ≠ 0) : t.fdiv (if b < 0 then -(Int.gcd t b : Int) else (Int.gcd t b : Int)) = (Rat.divInt t b).num := by
  have hg : (Int.gcd t b : Int) ≠ 0 := by
    intro h
    exact hb (Int.gcd_eq_zero_iff.mp (Int.ofNat.inj h)).2
  have hd : (Int.gcd t b : Int) ∣ t := Int.gcd_dvd_left ..
  rw [Rat.num_divInt, Int.gcd_comm b t]
  obtain ⟨k, hk⟩ := hd
  generalize hG : (Int.gcd t b : Int) = g at *
  split
  · rename_i h
    rw [Int.sign_eq_neg_one_of_neg h, hk]
    rw [show (-1 : Int) * (g * k) = g * (-k) by rw [Int.mul_neg, Int.neg_mul, Int.one_mul]]
    rw [Int.mul_ediv_cancel_left _ hg]
    rw [show g * k = (-g) * (-k) by rw [Int.neg_mul_neg]]
    rw [Int.fdiv_eq_ediv_of_dvd (Int.dvd_mul_right ..), Int.mul_ediv_cancel_left _ (by omega)]
  · rename_i h
    rw [Int.sign_eq_one_of_pos (by omega), Int.one_mul, hk, Int.mul_ediv_cancel_left _ hg, Int.fdiv_eq_ediv_of_dvd (Int.dvd_mul_right ..), Int.mul_ediv_cancel_left _ hg]
theorem low_den {t b : Int} (hb : b ≠ 0) : b.fdiv (if b < 0 then -(Int.gcd t b : Int) else (Int.gcd t b : Int)) = ((Rat.divInt t b).den : Int) := by
  have hg : (Int.gcd t b : Int) ≠ 0 := by
    intro h
    exact hb (Int.gcd_eq_zero_iff.mp (Int.ofNat.inj h)).2
  have hd : (Int.gcd t b : Int) ∣ b := Int.gcd_dvd_right ..
  rw [Rat.den_divInt, if_neg hb, Int.gcd_comm b t, Int.natCast_ediv]
  obtain ⟨k, hk⟩ := hd
  have hn : ((b.natAbs : Nat) : Int) = if b < 0 then -b else b := by split <;> omega
  rw [hn]
  generalize hG : (Int.gcd t b : Int) = g at *
  split
  · rename_i h
    rw [hk]
    rw [show g * k = (-g) * (-k) by rw [Int.neg_mul_neg]]
    rw [Int.fdiv_eq_ediv_of_dvd (Int.dvd_mul_right ..), Int.mul_ediv_cancel_left _ (by omega)]
    rw [show -(-g * -k) = g * (-k) by rw [Int.neg_mul_neg, Int.mul_neg]]
    rw [Int.mul_ediv_cancel_left _ hg]
  · rename_i h
    rw [hk, Int.mul_ediv_cancel_left _ hg, Int.fdiv_eq_ediv_of_dvd (Int.dvd_mul_right ..), Int.mul_ediv_cancel_left _ hg]
theorem add_low (p q : Rat) : Rat.divInt (p.num * q.den + q.num * p.den) (p.den * q.den) = p + q := by
  rw [Rat.add_def', show ((p.den : Int) * (q.den : Int)) = ((p.den * q.den : Nat) : Int) by simp, Rat.divInt_ofNat]
theorem sub_low (p q : Rat) : Rat.divInt (p.num * q.den - q.num * p.den) (p.den * q.den) = p - q := by
  rw [Rat.sub_def', show ((p.den : Int) * (q.den : Int)) = ((p.den * q.den : Nat) : Int) by simp, Rat.divInt_ofNat]
theorem mul_low (p q : Rat) : Rat.divInt (p.num * q.num) (p.den * q.den) = p * q := by
  rw [Rat.mul_def', show ((p.den : Int) * (q.den : Int)) = ((p.den * q.den : Nat) : Int) by simp, Rat.divInt_ofNat]
theorem div_low (p q : Rat) : Rat.divInt (p.num * q.den) (p.den * q.num) = p / q := by
  rw [Rat.div_def, Rat.inv_def]
  conv => rhs; rw [← Rat.num_divInt_den p]
  rw [Rat.divInt_mul_divInt]
theorem divInt_sz {t b : Int} {n : Nat} (hb : b ≠ 0) (h1 : t.natAbs < 2 ^ n) (h2 : b.natAbs < 2 ^ n) : Sz n (Rat.divInt t b) := by
  constructor
  · rw [Rat.num_divInt]
    have : (b.sign * t / (b.gcd t : Int)).natAbs ≤ t.natAbs := by
      refine Nat.le_trans (Int.natAbs_ediv_le_natAbs _ _) ?_
      rw [Int.natAbs_mul]
      have : b.sign.natAbs ≤ 1 := by rcases Int.lt_trichotomy b 0 with h | h | h <;> simp [Int.sign_eq_neg_one_of_neg, Int.sign_eq_one_of_pos, h]
      calc b.sign.natAbs * t.natAbs ≤ 1 * t.natAbs := Nat.mul_le_mul_right _ this
        _ = t.natAbs := Nat.one_mul _
    omega
  · rw [Rat.den_divInt, if_neg hb]
    exact Nat.lt_of_le_of_lt (Nat.div_le_self _ _) h2
theorem natAbs_mul_lt {a b : Int} {n m : Nat} (h1 : a.natAbs < 2 ^ n) (h2 : b.natAbs < 2 ^ m) : (a * b).natAbs < 2 ^ (n + m) := by
  rw [Int.natAbs_mul, Nat.pow_add]
  exact Nat.mul_lt_mul'' h1 h2
theorem natAbs_add_lt {a b : Int} {n : Nat} (h1 : a.natAbs < 2 ^ n) (h2 : b.natAbs < 2 ^ n) : (a + b).natAbs < 2 ^ (n + 1) := by
  rw [Nat.pow_succ]
  have := Int.natAbs_add_le a b
  omega
theorem Sz.num {n : Nat} {x : Rat} (h : Sz n x) : x.num.natAbs < 2 ^ n := h.1
theorem Sz.den {n : Nat} {x : Rat} (h : Sz n x) : ((x.den : Int)).natAbs < 2 ^ n := by
  have := h.2
  omega
theorem den_ne (x : Rat) : (x.den : Int) ≠ 0 := by
  have := x.den_nz
  omega
theorem dd_ne (x y : Rat) : (x.den : Int) * (y.den : Int) ≠ 0 := Int.mul_ne_zero (den_ne x) (den_ne y)
theorem Sz.add {n m : Nat} {x y : Rat} (h : Sz n x) (g : Sz m y) : Sz (n + m + 1) (x + y) := by
  rw [← add_low]
  have e : m + n = n + m := Nat.add_comm ..
  refine divInt_sz (dd_ne x y) (natAbs_add_lt (natAbs_mul_lt h.num g.den) (by rw [← e]; exact natAbs_mul_lt g.num h.den)) ?_
  exact Nat.lt_of_lt_of_le (natAbs_mul_lt h.den g.den) (Nat.pow_le_pow_right (by decide) (by omega))
theorem Sz.sub {n m : Nat} {x y : Rat} (h : Sz n x) (g : Sz m y) : Sz (n + m + 1) (x - y) := by
  rw [Rat.sub_eq_add_neg]
  exact h.add ⟨by rw [Rat.neg_num, Int.natAbs_neg]; exact g.1, g.2⟩
theorem Sz.mul {n m : Nat} {x y : Rat} (h : Sz n x) (g : Sz m y) : Sz (n + m) (x * y) := by
  rw [← mul_low]
  exact divInt_sz (dd_ne x y) (natAbs_mul_lt h.num g.num) (natAbs_mul_lt h.den g.den)
theorem num_ne {y : Rat} (hy : y ≠ 0) : y.num ≠ 0 := fun h => hy (Rat.num_eq_zero.mp h)
theorem Sz.div {n m : Nat} {x y : Rat} (h : Sz n x) (g : Sz m y) (hy : y ≠ 0) : Sz (n + m) (x / y) := by
  rw [← div_low]
  exact divInt_sz (Int.mul_ne_zero (den_ne x) (num_ne hy)) (natAbs_mul_lt h.num g.den) (natAbs_mul_lt h.den g.num)
theorem floor_sz {n : Nat} {x : Rat} (h : Sz n x) : x.floor.natAbs < 2 ^ n := by
  rw [Rat.floor_def]
  exact Nat.lt_of_le_of_lt (Int.natAbs_ediv_le_natAbs _ _) h.1
theorem sz_int {n : Nat} {i : Int} (h : i.natAbs < 2 ^ n) (hn : 1 ≤ n) : Sz n (i : Rat) := ⟨h, by
  show 1 < 2 ^ n
  exact Nat.one_lt_two_pow (by omega)⟩
theorem sz_floor {n : Nat} {x : Rat} (h : Sz n x) (hn : 1 ≤ n) : Sz n (x.floor : Rat) := sz_int (floor_sz h) hn
theorem gcd_em {x y : Int} (hx : 0 ≤ x) (hy : 0 ≤ y) : Int.gcd y (x % y) = Int.gcd x y := by
  obtain ⟨a, rfl⟩ := Int.eq_ofNat_of_zero_le hx
  obtain ⟨b, rfl⟩ := Int.eq_ofNat_of_zero_le hy
  rw [← Int.natCast_emod]
  simp only [Int.gcd_natCast_natCast]
  rw [Nat.gcd_comm a b, Nat.gcd_rec b a, Nat.gcd_comm]
end RW

/-! plain mathematics: fractions, floors -/
set_option linter.all false
namespace RW
theorem num_mul (q : Rat) : q * (q.den : Rat) = (q.num : Rat) := by
  have h := Rat.num_divInt_den q
  rw [Rat.divInt_eq_div] at h
  have hd : (q.den : Rat) ≠ 0 := by
    intro z
    have : (q.den : Rat) = ((0 : Nat) : Rat) := z
    exact q.den_nz (Rat.natCast_inj.mp this)
  have e : (((q.den : Int)) : Rat) = (q.den : Rat) := rfl
  rw [e] at h
  grind
theorem den_pos' (q : Rat) : (0 : Rat) < (q.den : Rat) := by
  have := q.den_pos
  exact_mod_cast this
theorem fl_frac (q : Rat) : (q - (q.floor : Rat)) * (q.den : Rat) = ((q.num % (q.den : Int) : Int) : Rat) := by
  have h1 := num_mul q
  have h2 : ((q.num / (q.den : Int) : Int) : Rat) = (q.floor : Rat) := by rw [Rat.floor_def]
  have h3 : q.num % (q.den : Int) = q.num - (q.den : Int) * (q.num / (q.den : Int)) := Int.emod_def _ _
  rw [h3, Rat.intCast_sub, Rat.intCast_mul, h2]
  have e : (((q.den : Int) : Int) : Rat) = (q.den : Rat) := rfl
  grind
theorem frac_eq (q : Rat) : q - (q.floor : Rat) = 1 / 2 ↔ 2 * (q.num % (q.den : Int)) = (q.den : Int) := by
  have h := fl_frac q
  have hd := den_pos' q
  have e : (((2 * (q.num % (q.den : Int)) : Int)) : Rat) = 2 * ((q.num % (q.den : Int) : Int) : Rat) := by rw [Rat.intCast_mul]; rfl
  have e2 : (((q.den : Int) : Int) : Rat) = (q.den : Rat) := rfl
  constructor
  · intro z
    apply Rat.intCast_inj.mp
    rw [e, e2]
    grind
  · intro z
    have z := congrArg (fun i : Int => (i : Rat)) z
    simp only [e] at z
    grind
theorem frac_lt (q : Rat) : 1 / 2 < q - (q.floor : Rat) ↔ (q.den : Int) < 2 * (q.num % (q.den : Int)) := by
  have h := fl_frac q
  have hd := den_pos' q
  have e : (((2 * (q.num % (q.den : Int)) : Int)) : Rat) = 2 * ((q.num % (q.den : Int) : Int) : Rat) := by rw [Rat.intCast_mul]; rfl
  have e2 : (((q.den : Int) : Int) : Rat) = (q.den : Rat) := rfl
  rw [← Rat.intCast_lt_intCast, e, e2]
  constructor
  · intro z
    have := Rat.mul_lt_mul_of_pos_right z hd
    grind
  · intro z
    apply Classical.byContradiction
    intro h3
    have h4 : q - (q.floor : Rat) ≤ 1 / 2 := by grind
    have := Rat.mul_le_mul_of_nonneg_right h4 (Rat.le_of_lt hd)
    grind
theorem ceil_up (q : Rat) : -((-q.num) / (q.den : Int)) = if (q.floor : Rat) = q then q.floor else q.floor + 1 := by
  have hd := q.den_pos
  have h := fl_frac q
  have hp := den_pos' q
  have key : (q.floor : Rat) = q ↔ q.num % (q.den : Int) = 0 := by
    constructor
    · intro z
      apply Rat.intCast_inj.mp
      rw [← h]
      have e0 : ((0 : Int) : Rat) = 0 := rfl
      grind
    · intro z
      rw [z] at h
      have e0 : ((0 : Int) : Rat) = 0 := rfl
      grind
  rw [Rat.floor_def] at key ⊢
  have h1 := Int.emod_add_mul_ediv q.num (q.den : Int)
  have h2 := Int.emod_nonneg q.num (show (q.den : Int) ≠ 0 by omega)
  have h3 := Int.emod_lt_of_pos q.num (show (0 : Int) < (q.den : Int) by omega)
  generalize hD : (q.den : Int) = d at *
  generalize hA : q.num / d = a at *
  generalize hR : q.num % d = r at *
  by_cases hr : r = 0
  · rw [if_pos (key.mpr hr)]
    have : -q.num = d * (-a) := by rw [← h1, hr]; grind
    rw [this, Int.mul_ediv_cancel_left _ (by omega)]
    omega
  · rw [if_neg (fun z => hr (key.mp z))]
    have : -q.num = (d - r) + d * (-a - 1) := by rw [← h1]; grind
    rw [this, Int.add_mul_ediv_left _ _ (by omega), Int.ediv_eq_zero_of_lt (by omega) (by omega)]
    omega
end RW

set_option Elab.async false
set_option linter.all false
set_option maxRecDepth 100000
set_option maxHeartbeats 2000000
namespace RW
open PySem L2
open Evl (Ex fresh_back)

/-! ### data -/
/-- the dice (lists whose content is free), the tables of code objects -/
structure Gr where
  dice : Addr → Prop
  tabs : List (Addr × Str)
instance : CoeFun Gr fun _ => Addr → Prop := ⟨Gr.dice⟩
inductive D where
  | non | bl (b : Bool) | int (i : Int) | str (x : Str) | tup (xs : List D) | lst (xs : List D)
  | ins (C : Addr) (ns : List Str) (xs : List D) | dice | cls (C : Addr) | ty (n : String) | scr (ns : List Int) | ktp (xs : List D) | exc (C : Addr)
/-- an exception of the class C, held as a value -/
def exA (C : Value) (a : Addr) : HO := .ext fun h => ∃ (oe : Obj) (us : Array Value), h.get? a = some oe ∧ Zc C none oe ∧ oe.data = .fields us

mutual
def Dt (K : PySem.W.Frag) (Dc : Gr) (Hb : Hp) : D → V → Prop
  | .non, v => v = .non
  | .bl b, v => v = .bl b
  | .int i, v => v = .int i
  | .str x, v => v = .str x
  | .tup ds, v => ∃ a xs, v = .ref a ∧ Hb a = some (.tup xs) ∧ Dts K Dc Hb ds xs
  | .lst ds, v => ∃ a xs, v = .ref a ∧ Hb a = some (.lst xs) ∧ Dts K Dc Hb ds xs
  | .ins C ns ds, v => ∃ a dx fs, v = .ref a ∧ Hb a = some (.ins C dx fs) ∧ fs.map (·.1) = ns ∧ Dts K Dc Hb ds (fs.map (·.2))
  | .dice, v => ∃ a, v = .ref a ∧ Dc a
  | .cls C, v => v = .ref C
  | .ty n, v => v = .ty n
  | .scr ns, v => ∃ a, v = .ref a ∧ SqL K Hb a (ns.map V.int)
  | .ktp ds, v => ∃ a xs, v = .ref a ∧ SqT K Hb a xs ∧ Dts K Dc Hb ds xs
  | .exc C, v => ∃ a, v = .ref a ∧ Hb a = some (exA (.ref C) a)
def Dts (K : PySem.W.Frag) (Dc : Gr) (Hb : Hp) : List D → List V → Prop
  | [], vs => vs = []
  | d :: ds, vs => ∃ v r, vs = v :: r ∧ Dt K Dc Hb d v ∧ Dts K Dc Hb ds r
end

section
variable {K : PySem.W.Frag} {Dc : Gr} {Hb Hb' : Hp}
mutual
theorem Dt.mono (e : Ex Hb Hb') : ∀ {d : D} {v : V}, Dt K Dc Hb d v → Dt K Dc Hb' d v
  | .non, _, h => by simp only [Dt] at h ⊢; exact h
  | .bl _, _, h => by simp only [Dt] at h ⊢; exact h
  | .int _, _, h => by simp only [Dt] at h ⊢; exact h
  | .str _, _, h => by simp only [Dt] at h ⊢; exact h
  | .tup ds, _, h => by
    simp only [Dt] at h ⊢
    obtain ⟨a, xs, e1, e2, e3⟩ := h
    exact ⟨a, xs, e1, e _ _ e2, Dts.mono e e3⟩
  | .lst ds, _, h => by
    simp only [Dt] at h ⊢
    obtain ⟨a, xs, e1, e2, e3⟩ := h
    exact ⟨a, xs, e1, e _ _ e2, Dts.mono e e3⟩
  | .ins C ns ds, _, h => by
    simp only [Dt] at h ⊢
    obtain ⟨a, dx, fs, e1, e2, e3, e4⟩ := h
    exact ⟨a, dx, fs, e1, e _ _ e2, e3, Dts.mono e e4⟩
  | .dice, _, h => by simp only [Dt] at h ⊢; exact h
  | .cls _, _, h => by simp only [Dt] at h ⊢; exact h
  | .ty _, _, h => by simp only [Dt] at h ⊢; exact h
  | .scr _, _, h => by
    simp only [Dt] at h ⊢
    obtain ⟨a, e1, e2⟩ := h
    exact ⟨a, e1, Evl.ex_l e e2⟩
  | .ktp ds, _, h => by
    simp only [Dt] at h ⊢
    obtain ⟨a, xs, e1, e2, e3⟩ := h
    exact ⟨a, xs, e1, Evl.ex_t e e2, Dts.mono e e3⟩
  | .exc C, _, h => by
    simp only [Dt] at h ⊢
    obtain ⟨a, e1, e2⟩ := h
    exact ⟨a, e1, e _ _ e2⟩
theorem Dts.mono (e : Ex Hb Hb') : ∀ {ds : List D} {vs : List V}, Dts K Dc Hb ds vs → Dts K Dc Hb' ds vs
  | [], _, h => by simp only [Dts] at h ⊢; exact h
  | d :: ds, _, h => by
    simp only [Dts] at h ⊢
    obtain ⟨v, r, e1, e2, e3⟩ := h
    exact ⟨v, r, e1, Dt.mono e e2, Dts.mono e e3⟩
end
theorem dt_int {i : Int} : Dt K Dc Hb (.int i) (.int i) := by simp only [Dt]
theorem dt_str {i : Str} : Dt K Dc Hb (.str i) (.str i) := by simp only [Dt]
theorem dt_bl {i : Bool} : Dt K Dc Hb (.bl i) (.bl i) := by simp only [Dt]
theorem dt_non : Dt K Dc Hb .non .non := by simp only [Dt]
theorem dts_nil : Dts K Dc Hb [] [] := by simp only [Dts]
theorem dts_cons {d : D} {v : V} {ds : List D} {vs : List V} (h : Dt K Dc Hb d v) (h2 : Dts K Dc Hb ds vs) : Dts K Dc Hb (d :: ds) (v :: vs) := by
  simp only [Dts]; exact ⟨v, vs, rfl, h, h2⟩
theorem Dts.nil {vs : List V} (h : Dts K Dc Hb [] vs) : vs = [] := by simpa only [Dts] using h
theorem Dts.cons {d : D} {ds : List D} {vs : List V} (h : Dts K Dc Hb (d :: ds) vs) : ∃ v r, vs = v :: r ∧ Dt K Dc Hb d v ∧ Dts K Dc Hb ds r := by
  simpa only [Dts] using h
theorem Dts.length : ∀ {ds : List D} {vs : List V}, Dts K Dc Hb ds vs → vs.length = ds.length
  | [], _, h => by rw [h.nil]; rfl
  | d :: ds, _, h => by
    obtain ⟨v, r, e, _, h2⟩ := h.cons
    rw [e, List.length_cons, List.length_cons, h2.length]
theorem Dts.get : ∀ {ds : List D} {vs : List V} {i : Nat} {d : D}, Dts K Dc Hb ds vs → ds[i]? = some d → ∃ v, vs[i]? = some v ∧ Dt K Dc Hb d v
  | [], _, _, _, _, e => by simp at e
  | c :: ds, _, 0, d, h, e => by
    obtain ⟨v, r, e1, h1, _⟩ := h.cons
    simp at e
    subst e e1
    exact ⟨v, rfl, h1⟩
  | c :: ds, _, i + 1, d, h, e => by
    obtain ⟨v, r, e1, _, h2⟩ := h.cons
    subst e1
    simpa using Dts.get (i := i) h2 (by simpa using e)
theorem Dts.get' : ∀ {ds : List D} {vs : List V} {i : Nat} {v : V}, Dts K Dc Hb ds vs → vs[i]? = some v → ∃ d, ds[i]? = some d ∧ Dt K Dc Hb d v
  | [], _, _, _, h, e => by rw [h.nil] at e; simp at e
  | c :: ds, _, 0, w, h, e => by
    obtain ⟨v, r, e1, h1, _⟩ := h.cons
    subst e1
    simp at e
    subst e
    exact ⟨c, rfl, h1⟩
  | c :: ds, _, i + 1, w, h, e => by
    obtain ⟨v, r, e1, _, h2⟩ := h.cons
    subst e1
    simpa using Dts.get' (i := i) h2 (by simpa using e)
theorem Dts.append : ∀ {ds es : List D} {vs ws : List V}, Dts K Dc Hb ds vs → Dts K Dc Hb es ws → Dts K Dc Hb (ds ++ es) (vs ++ ws)
  | [], _, _, _, h, g => by rw [h.nil]; exact g
  | d :: ds, es, _, ws, h, g => by
    obtain ⟨v, r, e, h1, h2⟩ := h.cons
    subst e
    exact dts_cons h1 (h2.append g)
theorem Dts.drop : ∀ {ds : List D} {vs : List V} (n : Nat), Dts K Dc Hb ds vs → Dts K Dc Hb (ds.drop n) (vs.drop n)
  | [], _, n, h => by rw [h.nil]; simpa using dts_nil
  | d :: ds, _, 0, h => by simpa using h
  | d :: ds, _, n + 1, h => by
    obtain ⟨v, r, e, h1, h2⟩ := h.cons
    subst e
    simpa using h2.drop n
theorem Dts.take : ∀ {ds : List D} {vs : List V} (n : Nat), Dts K Dc Hb ds vs → Dts K Dc Hb (ds.take n) (vs.take n)
  | [], _, n, h => by rw [h.nil]; simpa using dts_nil
  | d :: ds, _, 0, h => by simpa using dts_nil
  | d :: ds, _, n + 1, h => by
    obtain ⟨v, r, e, h1, h2⟩ := h.cons
    subst e
    simpa using dts_cons h1 (h2.take n)
theorem Dts.reverse : ∀ {ds : List D} {vs : List V}, Dts K Dc Hb ds vs → Dts K Dc Hb ds.reverse vs.reverse
  | [], _, h => by rw [h.nil]; exact dts_nil
  | d :: ds, _, h => by
    obtain ⟨v, r, e, h1, h2⟩ := h.cons
    subst e
    rw [List.reverse_cons, List.reverse_cons]
    exact h2.reverse.append (dts_cons h1 dts_nil)
end

/-! ### pairs of heaps -/
/-- nothing stands there, or a tuple -/
def Fr0 (H : Hp) (a : Addr) : Prop := H a = none ∨ ∃ xs, H a = some (.tup xs)
theorem Fr0.nl {H : Hp} {a : Addr} {vs : List V} (h : Fr0 H a) (e : H a = some (.lst vs)) : False := by
  rcases h with h | ⟨xs, h⟩ <;> (rw [h] at e; cases e)
theorem Fr0.nt {H : Hp} {a : Addr} {vs : List (List Key × V)} (h : Fr0 H a) (e : H a = some (.dT vs)) : False := by
  rcases h with h | ⟨xs, h⟩ <;> (rw [h] at e; cases e)
abbrev NTb (o : HO) : Prop := ∀ ps, o ≠ .tbl ps
/-- the tables that are known -/
structure TbOk (T : List (Addr × Str)) (Hb H : Hp) : Prop where
  ta : LamX.Tabs T H
  nt : ∀ a ps, Hb a ≠ some (.tbl ps)
structure Good (Dc : Gr) (Hb0 H0 Hb H : Hp) : Prop where
  eb : Ex Hb0 Hb
  eh : ∀ a o, H0 a = some o → ¬ Dc a → (∀ ps, o ≠ .tbl ps) → H a = some o
  sub : Ex Hb H
  dom : ∀ a o, Hb a = some o → (∃ o', Hb0 a = some o') ∨ Fr0 H0 a
  dc : ∀ a, Dc a → ∃ i j, H a = some (.lst [.int i, .int j])
  dcb : ∀ a, Dc a → Hb a = none
  tk : ∀ a ps, H0 a = some (.tbl ps) → ∃ ps', H a = some (.tbl ps')
  tb : TbOk Dc.tabs Hb H
/-- an object that is no table, no code object -/
def PlO (o : HO) : Prop := (∀ ps, o ≠ .tbl ps) ∧ ∀ c q, o ≠ LamX.CodeO c q
theorem plo_lst {vs : List V} : PlO (.lst vs) := ⟨(fun _ h => nomatch h), (fun _ _ h => nomatch h)⟩
theorem plo_ins {C dx : Addr} {fs : List (Str × V)} : PlO (.ins C dx fs) := ⟨(fun _ h => nomatch h), (fun _ _ h => nomatch h)⟩
theorem plo_dT {ks : List (List Key × V)} : PlO (.dT ks) := ⟨(fun _ h => nomatch h), (fun _ _ h => nomatch h)⟩
theorem tabS_upd {H : Hp} {p P : Addr} {q : Str} {o : HO} (hp : ∀ o', H p = some o' → PlO o') (h : LamX.TabS H P q) : LamX.TabS (upd H p o) P q := by
  obtain ⟨ps, h1, h2, h3⟩ := h
  have ne : P ≠ p := fun e => (hp _ (e ▸ h1)).1 ps rfl
  refine ⟨ps, by rw [upd_ne ne]; exact h1, h2, fun pos cv hc => ?_⟩
  obtain ⟨c, e, h4⟩ := h3 pos cv hc
  have nc : c ≠ p := fun e => (hp _ (e ▸ h4)).2 c q rfl
  exact ⟨c, e, by rw [upd_ne nc]; exact h4⟩
theorem tbl_upd {H : Hp} {p a : Addr} {o : HO} {ps : Array Value} (hp : ∀ o', H p = some o' → PlO o') (h : H a = some (.tbl ps)) : ∃ ps', (upd H p o) a = some (.tbl ps') := by
  have ne : a ≠ p := fun e => (hp _ (e ▸ h)).1 ps rfl
  exact ⟨ps, by rw [upd_ne ne]; exact h⟩
theorem TbOk.ext {T : List (Addr × Str)} {Hb H H' : Hp} (t : TbOk T Hb H) (e : ∀ a o, H a = some o → H' a = some o) : TbOk T Hb H' := ⟨t.ta.ext e, t.nt⟩
theorem TbOk.updH {T : List (Addr × Str)} {Hb H : Hp} {p : Addr} {o : HO} (t : TbOk T Hb H) (hp : ∀ o', H p = some o' → PlO o') (ho : NTb o) : TbOk T Hb (upd H p o) :=
  ⟨fun q hq => tabS_upd hp (t.ta q hq), t.nt⟩
theorem TbOk.updB {T : List (Addr × Str)} {Hb H : Hp} {p : Addr} {o : HO} (t : TbOk T Hb H) (ho : NTb o) : TbOk T (upd Hb p o) H :=
  ⟨t.ta, fun a ps h => by
    by_cases e : a = p
    · subst e
      rw [upd_same] at h
      cases h
      exact absurd rfl (ho ps)
    · rw [upd_ne e] at h
      exact t.nt a ps h⟩
theorem TbOk.less {T : List (Addr × Str)} {Hb Hb' H : Hp} (t : TbOk T Hb H) (e : ∀ a o, Hb' a = some o → Hb a = some o) : TbOk T Hb' H := ⟨t.ta, fun a ps h => t.nt a ps (e a _ h)⟩
theorem no_plo {H : Hp} {p : Addr} (h : H p = none) : ∀ o', H p = some o' → PlO o' := fun o' e => by rw [h] at e; cases e
abbrev Ok (Dc : Gr) (Hb H : Hp) : Prop := Good Dc Hb H Hb H
section
variable {Dc : Gr} {Hb0 H0 Hb H Hb' H' : Hp}
theorem Good.ok (g : Good Dc Hb0 H0 Hb H) : Ok Dc Hb H := ⟨Ex.refl _, fun _ _ h _ _ => h, g.sub, fun a o h => .inl ⟨o, h⟩, g.dc, g.dcb, fun _ ps h => ⟨ps, h⟩, g.tb⟩
theorem Good.notnone (g : Good Dc Hb0 H0 Hb H) {a : Addr} (h : H a = none) : H0 a = none := by
  cases q : H0 a with
  | none => rfl
  | some o =>
    by_cases hd : Dc a
    · obtain ⟨i, j, e⟩ := g.dc a hd
      rw [e] at h
      cases h
    · by_cases ht : ∃ ps, o = .tbl ps
      · obtain ⟨ps, rfl⟩ := ht
        obtain ⟨ps', e⟩ := g.tk a ps q
        rw [e] at h
        cases h
      · rw [g.eh a o q hd (fun ps e => ht ⟨ps, e⟩)] at h
        cases h
theorem Good.fr (g : Good Dc Hb0 H0 Hb H) {a : Addr} (h : Fr0 H a) : Fr0 H0 a := by
  rcases h with h | ⟨xs, h⟩
  · exact .inl (g.notnone h)
  · cases q : H0 a with
    | none => exact .inl q
    | some o =>
      by_cases hd : Dc a
      · obtain ⟨i, j, e⟩ := g.dc a hd
        rw [h] at e
        cases e
      · by_cases ht : ∃ ps, o = .tbl ps
        · obtain ⟨ps, rfl⟩ := ht
          obtain ⟨ps', e⟩ := g.tk a ps q
          rw [e] at h
          cases h
        · have := g.eh a o q hd (fun ps e => ht ⟨ps, e⟩)
          rw [h] at this
          cases this
          exact .inr ⟨xs, q⟩
theorem Good.trans (g : Good Dc Hb0 H0 Hb H) (g' : Good Dc Hb H Hb' H') : Good Dc Hb0 H0 Hb' H' :=
  ⟨g.eb.trans g'.eb, fun a o h hd ht => g'.eh a o (g.eh a o h hd ht) hd ht, g'.sub, fun a o h => by
    rcases g'.dom a o h with ⟨o', q⟩ | q
    · exact g.dom a o' q
    · exact .inr (g.fr q), g'.dc, g'.dcb, fun a ps h => by
    obtain ⟨ps', e⟩ := g.tk a ps h
    exact g'.tk a ps' e, g'.tb⟩
/-- a tuple that stands is told -/
theorem Good.tell {p : Addr} {xs : List V} (g : Ok Dc Hb H) (h : H p = some (.tup xs)) : Good Dc Hb H (upd Hb p (.tup xs)) H := by
  refine ⟨fun a o e => ?_, fun a o e _ _ => e, fun a o e => ?_, fun a o e => ?_, g.dc, fun a z => ?_, fun _ ps h => ⟨ps, h⟩, g.tb.updB (fun _ h => nomatch h)⟩
  · by_cases ha : a = p
    · subst ha
      rw [upd_same, ← g.sub _ _ e, h]
    · rw [upd_ne ha]; exact e
  · by_cases ha : a = p
    · subst ha
      rw [upd_same] at e
      rw [h]; exact e
    · rw [upd_ne ha] at e; exact g.sub _ _ e
  · by_cases ha : a = p
    · subst ha
      exact .inr (.inr ⟨xs, h⟩)
    · rw [upd_ne ha] at e
      exact .inl ⟨o, e⟩
  · have ha : a ≠ p := fun e => by
      obtain ⟨i, j, q⟩ := g.dc a z
      rw [e, h] at q
      cases q
    rw [upd_ne ha]
    exact g.dcb a z
/-- a new object, known -/
theorem Good.new {p : Addr} {o : HO} (g : Ok Dc Hb H) (h : H p = none) (ho : NTb o := by exact fun _ h => nomatch h) : Good Dc Hb H (upd Hb p o) (upd H p o) := by
  have hb : Hb p = none := fresh_back g.sub h
  have nd : ¬ Dc p := fun z => by
    obtain ⟨i, j, e⟩ := g.dc p z
    rw [e] at h
    cases h
  refine ⟨Ex.new hb, fun a u e _ _ => by rw [upd_ne (ne_of_none e h)]; exact e, fun a u e => ?_, fun a u e => ?_, fun a z => ?_, fun a z => ?_, fun a ps e => tbl_upd (no_plo h) e, (g.tb.updH (no_plo h) ho).updB ho⟩
  · by_cases ha : a = p
    · subst ha
      rw [upd_same] at e ⊢
      exact e
    · rw [upd_ne ha] at e ⊢
      exact g.sub _ _ e
  · by_cases ha : a = p
    · subst ha
      exact .inr (.inl h)
    · rw [upd_ne ha] at e
      exact .inl ⟨u, e⟩
  · have ha : a ≠ p := fun e => nd (e ▸ z)
    rw [upd_ne ha]
    exact g.dc a z
  · have ha : a ≠ p := fun e => nd (e ▸ z)
    rw [upd_ne ha]
    exact g.dcb a z
/-- a new object, not told -/
theorem Good.newH {p : Addr} {o : HO} (g : Ok Dc Hb H) (h : H p = none) (ho : NTb o := by exact fun _ h => nomatch h) : Good Dc Hb H Hb (upd H p o) := by
  have hb : Hb p = none := fresh_back g.sub h
  have nd : ¬ Dc p := fun z => by
    obtain ⟨i, j, e⟩ := g.dc p z
    rw [e] at h
    cases h
  refine ⟨Ex.refl _, fun a u e _ _ => by rw [upd_ne (ne_of_none e h)]; exact e, fun a u e => ?_, fun a u e => .inl ⟨u, e⟩, fun a z => ?_, g.dcb, fun a ps e => tbl_upd (no_plo h) e, g.tb.updH (no_plo h) ho⟩
  · rw [upd_ne (ne_of_none e hb)]
    exact g.sub _ _ e
  · have ha : a ≠ p := fun e => nd (e ▸ z)
    rw [upd_ne ha]
    exact g.dc a z
end

/-! ### slots -/
inductive Slot where
  | un | dat (d : D) | own (ds : List D) | dct (kvs : List ((Int × Int) × D))
/-- a dict whose keys are pairs of ints -/
def KvR (K : PySem.W.Frag) (Dc : Gr) (Hb : Hp) : List ((Int × Int) × D) → List (List Key × V) → Prop
  | [], ws => ws = []
  | (k, d) :: r, ws => ∃ v ws', ws = ([Sum.inl k.1, Sum.inl k.2], v) :: ws' ∧ Dt K Dc Hb d v ∧ KvR K Dc Hb r ws'
theorem KvR.mono {K : PySem.W.Frag} {Dc : Gr} {Hb Hb' : Hp} (e : Ex Hb Hb') : ∀ {kvs : List ((Int × Int) × D)} {ws : List (List Key × V)}, KvR K Dc Hb kvs ws → KvR K Dc Hb' kvs ws
  | [], _, h => h
  | (k, d) :: r, _, ⟨v, ws', e1, e2, e3⟩ => ⟨v, ws', e1, e2.mono e, KvR.mono e e3⟩
abbrev Sd := List Slot
def SlotOk (K : PySem.W.Frag) (Dc : Gr) (H0 Hb H : Hp) : Slot → Option V → Prop
  | .un, _ => True
  | .dat d, o => ∃ v, o = some v ∧ Dt K Dc Hb d v
  | .own ds, o => ∃ p vs, o = some (.ref p) ∧ H0 p = none ∧ Hb p = none ∧ ¬ Dc p ∧ H p = some (.lst vs) ∧ Dts K Dc Hb ds vs
  | .dct kvs, o => ∃ p ws, o = some (.ref p) ∧ H0 p = none ∧ Hb p = none ∧ ¬ Dc p ∧ H p = some (.dT ws) ∧ KvR K Dc Hb kvs ws
structure M (K : PySem.W.Frag) (Dc : Gr) (Hb0 H0 Hb H : Hp) (σ : St) (sd : Sd) : Prop where
  g : Good Dc Hb0 H0 Hb H
  len : σ.length = sd.length
  sl : ∀ (i : Nat) s, sd[i]? = some s → ∃ o, σ[i]? = some o ∧ SlotOk K Dc H0 Hb H s o
  ne : ∀ (i j : Nat) ds es p, i ≠ j → sd[i]? = some (.own ds) → sd[j]? = some (.own es) → σ[i]? = some (some (.ref p)) → σ[j]? ≠ some (some (.ref p))
  nd : ∀ (i j : Nat) ks ls, sd[i]? = some (.dct ks) → sd[j]? = some (.dct ls) → i = j
section
variable {K : PySem.W.Frag} {Dc : Gr} {Hb0 H0 Hb H Hb' H' : Hp} {σ : St} {sd : Sd}
theorem M.step (m : M K Dc Hb0 H0 Hb H σ sd) (g : Good Dc Hb H Hb' H') : M K Dc Hb0 H0 Hb' H' σ sd := by
  refine ⟨m.g.trans g, m.len, fun i s e => ?_, m.ne, m.nd⟩
  obtain ⟨o, h1, h2⟩ := m.sl i s e
  refine ⟨o, h1, ?_⟩
  cases s with
  | un => trivial
  | dat d =>
    obtain ⟨v, e1, e2⟩ := h2
    exact ⟨v, e1, e2.mono g.eb⟩
  | own ds =>
    obtain ⟨p, vs, e1, e2, e3, e4, e5, e6⟩ := h2
    refine ⟨p, vs, e1, e2, ?_, e4, g.eh _ _ e5 e4 (fun _ h => nomatch h), e6.mono g.eb⟩
    cases q : Hb' p with
    | none => rfl
    | some u =>
      rcases g.dom p u q with ⟨o', z⟩ | z
      · rw [z] at e3; cases e3
      · exact (z.nl e5).elim
  | dct kvs =>
    obtain ⟨p, vs, e1, e2, e3, e4, e5, e6⟩ := h2
    refine ⟨p, vs, e1, e2, ?_, e4, g.eh _ _ e5 e4 (fun _ h => nomatch h), e6.mono g.eb⟩
    cases q : Hb' p with
    | none => rfl
    | some u =>
      rcases g.dom p u q with ⟨o', z⟩ | z
      · rw [z] at e3; cases e3
      · exact (z.nt e5).elim
/-- a slot that is no dict takes no dict's place away -/
theorem nd_set {sd : Sd} {i : Nat} {s : Slot} (hs : ∀ ks, s ≠ .dct ks) (nd : ∀ (i j : Nat) ks ls, sd[i]? = some (.dct ks) → sd[j]? = some (.dct ls) → i = j) : ∀ (j k : Nat) ks ls, (sd.set i s)[j]? = some (.dct ks) → (sd.set i s)[k]? = some (.dct ls) → j = k := fun j k ks ls e1 e2 => by
  have ne : ∀ {n : Nat} {zs}, (sd.set i s)[n]? = some (.dct zs) → sd[n]? = some (.dct zs) := fun {n zs} en => by
    by_cases hn : i = n
    · subst hn
      have hl : i < sd.length := by
        have := (List.getElem?_eq_some_iff.mp en).1
        simpa using this
      rw [List.getElem?_set_self hl] at en
      exact absurd (Option.some.inj en) (hs zs)
    · rw [List.getElem?_set_ne hn] at en
      exact en
  exact nd j k ks ls (ne e1) (ne e2)
/-- a slot takes a value -/
theorem M.set {i : Nat} {d : D} {v : V} (m : M K Dc Hb0 H0 Hb H σ sd) (h : Dt K Dc Hb d v) : M K Dc Hb0 H0 Hb H (σ.set i (some v)) (sd.set i (.dat d)) :=
  ⟨m.g, by simpa using m.len, fun j s e => by
    by_cases hj : i = j
    · subst hj
      have hl : i < sd.length := by
        have := (List.getElem?_eq_some_iff.mp e).1
        simpa using this
      rw [List.getElem?_set_self hl] at e
      cases e
      exact ⟨some v, List.getElem?_set_self (by rw [m.len]; exact hl), v, rfl, h⟩
    · rw [List.getElem?_set_ne hj] at e ⊢
      exact m.sl j s e, fun j k ds es p hjk e1 e2 e3 => by
    have hj : i ≠ j := fun z => by
      subst z
      have hl : i < sd.length := by
        have := (List.getElem?_eq_some_iff.mp e1).1
        simpa using this
      rw [List.getElem?_set_self hl] at e1
      cases e1
    have hk : i ≠ k := fun z => by
      subst z
      have hl : i < sd.length := by
        have := (List.getElem?_eq_some_iff.mp e2).1
        simpa using this
      rw [List.getElem?_set_self hl] at e2
      cases e2
    rw [List.getElem?_set_ne hj] at e1 e3
    rw [List.getElem?_set_ne hk] at e2 ⊢
    exact m.ne j k ds es p hjk e1 e2 e3, nd_set (fun _ h => nomatch h) m.nd⟩
end

/-! ### judgements -/
abbrev XF := Value → Prop
abbrev TEd := Sd → (D → Prop) → XF → Prop
abbrev TTd := Sd → (Bool → Prop) → XF → Prop
abbrev TAd := Sd → (List D → Prop) → XF → Prop
structure DEnds where
  nx : Sd → Prop
  rt : D → Prop
  bk : Sd → Prop
  ct : Sd → Prop
  rs : XF
abbrev TSd := DEnds → Sd → Prop
abbrev TGd := D → Sd → (Sd → Prop) → Prop
abbrev TGsd := List D → Sd → (Sd → Prop) → Prop
section
variable (K : PySem.W.Frag) (Dc : Gr) (Xe : XK)
/-- what is wanted of exceptions -/
def XOk (Hb0 H0 : Hp) (F : XF) : Prop := ∀ Hb H c, Good Dc Hb0 H0 Hb H → F c → Xe c none H
def RE (te : TE) (td : TEd) : Prop := ∀ (Hb0 H0 : Hp) (F : XF), XOk Dc Xe Hb0 H0 F → ∀ (Hb H : Hp) (σ : St) (sd : Sd) (P : D → Prop) (Q : VK), M K Dc Hb0 H0 Hb H σ sd → td sd P F →
  (∀ Hb' H' v d, Good Dc Hb H Hb' H' → Dt K Dc Hb' d v → P d → Q v H') → te σ H Q
/-- a new list -/
def RL (te : TE) (td : TAd) : Prop := ∀ (Hb0 H0 : Hp) (F : XF), XOk Dc Xe Hb0 H0 F → ∀ (Hb H : Hp) (σ : St) (sd : Sd) (P : List D → Prop) (Q : VK), M K Dc Hb0 H0 Hb H σ sd → td sd P F →
  (∀ Hb' H' p vs ds, Good Dc Hb H Hb' H' → H p = none → Hb' p = none → H' p = some (.lst vs) → Dts K Dc Hb' ds vs → P ds → Q (.ref p) H') → te σ H Q
def RT (tt : TT) (td : TTd) : Prop := ∀ (Hb0 H0 : Hp) (F : XF), XOk Dc Xe Hb0 H0 F → ∀ (Hb H : Hp) (σ : St) (sd : Sd) (P : Bool → Prop) (Q : Bool → Hp → Prop), M K Dc Hb0 H0 Hb H σ sd → td sd P F →
  (∀ Hb' H' b, Good Dc Hb H Hb' H' → P b → Q b H') → tt σ H Q
def RA (ta : TA) (td : TAd) : Prop := ∀ (Hb0 H0 : Hp) (F : XF), XOk Dc Xe Hb0 H0 F → ∀ (Hb H : Hp) (σ : St) (sd : Sd) (P : List D → Prop) (Q : List V → Hp → Prop), M K Dc Hb0 H0 Hb H σ sd → td sd P F →
  (∀ Hb' H' vs ds, Good Dc Hb H Hb' H' → Dts K Dc Hb' ds vs → P ds → Q vs H') → ta σ H Q
structure EndsOk (Hb0 H0 : Hp) (De : DEnds) (E : Ends) : Prop where
  nx : ∀ Hb H σ sd, M K Dc Hb0 H0 Hb H σ sd → De.nx sd → E.nx σ H
  rt : ∀ Hb H v d, Good Dc Hb0 H0 Hb H → Dt K Dc Hb d v → De.rt d → E.rt v H
  bk : ∀ Hb H σ sd, M K Dc Hb0 H0 Hb H σ sd → De.bk sd → E.bk σ H
  ct : ∀ Hb H σ sd, M K Dc Hb0 H0 Hb H σ sd → De.ct sd → E.ct σ H
  rs : XOk Dc Xe Hb0 H0 De.rs
def RS (ts : TS) (td : TSd) : Prop := ∀ (Hb0 H0 : Hp) (De : DEnds) (E : Ends), EndsOk K Dc Xe Hb0 H0 De E → ∀ (Hb H : Hp) (σ : St) (sd : Sd), M K Dc Hb0 H0 Hb H σ sd → td De sd → ts E σ H
def RG (tg : TG) (td : TGd) : Prop := ∀ (Hb0 H0 Hb H : Hp) (σ : St) (sd : Sd) (d : D) (v : V) (P : Sd → Prop) (Q : St → Hp → Prop), M K Dc Hb0 H0 Hb H σ sd → Dt K Dc Hb d v → td d sd P →
  (∀ Hb' H' σ' sd', Good Dc Hb H Hb' H' → M K Dc Hb0 H0 Hb' H' σ' sd' → P sd' → Q σ' H') → tg v σ H Q
def RGs (tg : TGs) (td : TGsd) : Prop := ∀ (Hb0 H0 Hb H : Hp) (σ : St) (sd : Sd) (ds : List D) (vs : List V) (P : Sd → Prop) (Q : St → Hp → Prop), M K Dc Hb0 H0 Hb H σ sd → Dts K Dc Hb ds vs → td ds sd P →
  (∀ Hb' H' σ' sd', Good Dc Hb H Hb' H' → M K Dc Hb0 H0 Hb' H' σ' sd' → P sd' → Q σ' H') → tg vs σ H Q
end
section
variable (X : Cx) (K : PySem.W.Frag) (Dc : Gr) (Xe : XK)
structure DE (e : Expr) (te : TE) (td : TEd) : Prop where
  hK : X.K = K
  pe : PE X e te
  rd : RE K Dc Xe te td
structure DL (e : Expr) (te : TE) (td : TAd) : Prop where
  hK : X.K = K
  pe : PE X e te
  rd : RL K Dc Xe te td
structure DT (e : Expr) (te : TT) (td : TTd) : Prop where
  hK : X.K = K
  pe : PT X e te
  rd : RT K Dc Xe te td
structure DW (e : Expr) (te : TT) (td : TTd) : Prop where
  hK : X.K = K
  pe : PW X e te
  rd : RT K Dc Xe te td
structure DA (e : List Expr) (te : TA) (td : TAd) : Prop where
  hK : X.K = K
  pe : PA X e te
  rd : RA K Dc Xe te td
structure DS (e : Stmt) (te : TS) (td : TSd) : Prop where
  hK : X.K = K
  pe : PS X e te
  rd : RS K Dc Xe te td
structure DSs (e : List Stmt) (te : TS) (td : TSd) : Prop where
  hK : X.K = K
  pe : PSs X e te
  rd : RS K Dc Xe te td
structure DG (e : Expr) (te : TG) (td : TGd) : Prop where
  hK : X.K = K
  pe : PG X e te
  rd : RG K Dc te td
structure DGs (e : List Expr) (te : TGs) (td : TGsd) : Prop where
  hK : X.K = K
  pe : PGs X e te
  rd : RGs K Dc te td
end

/-! ### expressions -/
section
variable {X : Cx} {K : PySem.W.Frag} {Dc : Gr} {Xe : XK} {e a b c : Expr} {es : List Expr} {ta tb te : TE} {da db dd : TEd} {pos : Pos} {tt tu : TT} {dt du : TTd}
@[simp] def dVar (i : Nat) : TEd := fun sd P _ => match sd[i]? with
  | some (.dat d) => P d
  | _ => False
theorem re_var (i : Nat) : RE K Dc Xe (tVar i) (dVar i) := by
  intro Hb0 H0 F hF Hb H σ sd P Q m h k
  unfold dVar at h
  split at h
  · rename_i d e
    obtain ⟨o, h1, v, h2, h3⟩ := m.sl i _ e
    subst h2
    exact ⟨v, h1, k Hb H v d m.g.ok h3 h⟩
  · exact h.elim
theorem dv (i : Nat) {x : Str} {pos : Pos} (hN : X.N[i]? = some x := by rfl) (hv : Vis X.env.scope x := by first | exact Or.inl rfl | exact Or.inr (Or.inl rfl) | exact Or.inr (Or.inr rfl)) (hd : (x == ("__debug__" : Str)) = false := by decide)
    (hcd : (x == ("__classdict__" : Str)) = false := by decide) (hK : X.K = K := by rfl) : DE X K Dc Xe (.Name x pos) (tVar i) (dVar i) := ⟨hK, pe_var hN hv hd hcd, re_var i⟩
@[simp] def dC (d : D) : TEd := fun _ P _ => P d
theorem re_c {d : D} {v : V} (h : ∀ Hb, Dt K Dc Hb d v) : RE K Dc Xe (tC v) (dC d) := fun _ _ _ _ Hb H _ _ _ _ m h' k => k Hb H v d m.g.ok (h Hb) h'
theorem de_int {i : Int} {j pos} (hK : X.K = K := by rfl) : DE X K Dc Xe (.Constant (.int i) j pos) (tC (.int i)) (dC (.int i)) := ⟨hK, pe_int, re_c fun _ => dt_int⟩
theorem de_bl {i : Bool} {j pos} (hK : X.K = K := by rfl) : DE X K Dc Xe (.Constant (.bool i) j pos) (tC (.bl i)) (dC (.bl i)) := ⟨hK, pe_bl, re_c fun _ => dt_bl⟩
theorem de_str {i : Str} {j pos} (hK : X.K = K := by rfl) : DE X K Dc Xe (.Constant (.str i) j pos) (tC (.str i)) (dC (.str i)) := ⟨hK, pe_str, re_c fun _ => dt_str⟩
theorem de_non {j pos} (hK : X.K = K := by rfl) : DE X K Dc Xe (.Constant .none j pos) (tC .non) (dC .non) := ⟨hK, pe_non, re_c fun _ => dt_non⟩
/-- a module's constant, class -/
theorem de_glob {x : Str} {d : D} {v : V} {u : Value} {pos : Pos} (hg : Gl X x) (hm : X.mg x = some u) (r : RelV v u) (hv : ∀ Hb, Dt K Dc Hb d v) (hd : (x == ("__debug__" : Str)) = false := by decide) (hK : X.K = K := by rfl) : DE X K Dc Xe (.Name x pos) (tC v) (dC d) := ⟨hK, pe_glob hg hm r hd, re_c hv⟩
theorem de_bltn {x : Str} {d : D} {v : V} {u : Value} {pos : Pos} (hg : Gl X x) (hm : X.mg x = none) (hv : bootBuiltins x = some u) (r : RelV v u) (hdt : ∀ Hb, Dt K Dc Hb d v) (hn : x ≠ "__name__" := by decide) (hd : (x == ("__debug__" : Str)) = false := by decide) (hK : X.K = K := by rfl) :
    DE X K Dc Xe (.Name x pos) (tC v) (dC d) := ⟨hK, pe_bltn hg hm hv r hn hd, re_c hdt⟩

/-- a two-place operation on values, on data -/
def R2D (K : PySem.W.Frag) (Dc : Gr) (r : R2) (rd : D → D → (D → Prop) → Prop) : Prop := ∀ (Hb H : Hp) (x y : V) (d e : D) (P : D → Prop) (Q : VK), Ok Dc Hb H → Dt K Dc Hb d x → Dt K Dc Hb e y → rd d e P →
  (∀ Hb' H' v d', Good Dc Hb H Hb' H' → Dt K Dc Hb' d' v → P d' → Q v H') → r x y H Q
def R1D (K : PySem.W.Frag) (Dc : Gr) (r : V → Hp → VK → Prop) (rd : D → (D → Prop) → Prop) : Prop := ∀ (Hb H : Hp) (x : V) (d : D) (P : D → Prop) (Q : VK), Ok Dc Hb H → Dt K Dc Hb d x → rd d P →
  (∀ Hb' H' v d', Good Dc Hb H Hb' H' → Dt K Dc Hb' d' v → P d' → Q v H') → r x H Q
/-- a call on values, on data -/
def RCD (K : PySem.W.Frag) (Dc : Gr) (r : List V → Hp → VK → Prop) (rd : List D → (D → Prop) → Prop) : Prop := ∀ (Hb H : Hp) (xs : List V) (ds : List D) (P : D → Prop) (Q : VK), Ok Dc Hb H → Dts K Dc Hb ds xs → rd ds P →
  (∀ Hb' H' v d', Good Dc Hb H Hb' H' → Dt K Dc Hb' d' v → P d' → Q v H') → r xs H Q
@[simp] def dOp (rd : D → D → (D → Prop) → Prop) (da db : TEd) : TEd := fun sd P F => da sd (fun x => db sd (fun y => rd x y P) F) F
@[simp] def dUn (rd : D → (D → Prop) → Prop) (da : TEd) : TEd := fun sd P F => da sd (fun x => rd x P) F
theorem re_op {r : R2} {rd : D → D → (D → Prop) → Prop} (h : R2D K Dc r rd) (ha : RE K Dc Xe ta da) (hb : RE K Dc Xe tb db) : RE K Dc Xe (tOp r ta tb) (dOp rd da db) := by
  intro Hb0 H0 F hF Hb H σ sd P Q m hd k
  refine ha Hb0 H0 F hF Hb H σ sd _ _ m hd fun Hb1 H1 x d g1 dx hd1 => ?_
  refine hb Hb0 H0 F hF Hb1 H1 σ sd _ _ (m.step g1) hd1 fun Hb2 H2 y e g2 dy hd2 => ?_
  exact h Hb2 H2 x y d e P Q g2.ok (dx.mono g2.eb) dy hd2 fun Hb3 H3 v d' g3 dv hp => k Hb3 H3 v d' ((g1.trans g2).trans g3) dv hp
theorem re_un {r : V → Hp → VK → Prop} {rd : D → (D → Prop) → Prop} (h : R1D K Dc r rd) (ha : RE K Dc Xe ta da) : RE K Dc Xe (tUn r ta) (dUn rd da) := by
  intro Hb0 H0 F hF Hb H σ sd P Q m hd k
  refine ha Hb0 H0 F hF Hb H σ sd _ _ m hd fun Hb1 H1 x d g1 dx hd1 => ?_
  exact h Hb1 H1 x d P Q g1.ok dx hd1 fun Hb3 H3 v d' g3 dv hp => k Hb3 H3 v d' (g1.trans g3) dv hp
theorem de_op {op : Operator} {r : R2} {rd : D → D → (D → Prop) → Prop} (ho : OpR X (binaryOp op) r) (h : R2D K Dc r rd) (ha : DE X K Dc Xe a ta da) (hb : DE X K Dc Xe b tb db) : DE X K Dc Xe (.BinOp a op b pos) (tOp r ta tb) (dOp rd da db) :=
  ⟨ha.hK, pe_op ho ha.pe hb.pe, re_op h ha.rd hb.rd⟩
theorem de_un {op : UnaryOp} {r : V → Hp → VK → Prop} {rd : D → (D → Prop) → Prop} (ho : UnR X (unaryOp op) r) (h : R1D K Dc r rd) (ha : DE X K Dc Xe a ta da) : DE X K Dc Xe (.UnaryOp op a pos) (tUn r ta) (dUn rd da) :=
  ⟨ha.hK, pe_un ho ha.pe, re_un h ha.rd⟩
theorem de_cmp {op : CmpOp} {r : R2} {rd : D → D → (D → Prop) → Prop} (ho : OpR X (compareOp op) r) (h : R2D K Dc r rd) (ha : DE X K Dc Xe a ta da) (hb : DE X K Dc Xe b tb db) (hm : behindInMarks op b = false) : DE X K Dc Xe (.Compare a [op] [b] pos) (tOp r ta tb) (dOp rd da db) :=
  ⟨ha.hK, pe_cmpR ho ha.pe hb.pe hm, re_op h ha.rd hb.rd⟩
/-- a value's reading as a test -/
@[simp] def dTest (dd : TEd) : TTd := fun sd P F => dd sd (fun x => match x with | .bl b => P b | _ => False) F
theorem rt_test (h : RE K Dc Xe te dd) : RT K Dc Xe (tTest te) (dTest dd) := by
  intro Hb0 H0 F hF Hb H σ sd P Q m hd k
  refine h Hb0 H0 F hF Hb H σ sd _ _ m hd fun Hb1 H1 x d g1 dx hd1 => ?_
  cases d <;> try exact hd1.elim
  simp only [Dt] at dx
  exact ⟨_, dx, k Hb1 H1 _ g1 hd1⟩
theorem dt_cmp {op : CmpOp} {r : R2} {rd : D → D → (D → Prop) → Prop} (ho : OpR X (compareOp op) r) (h : R2D K Dc r rd) (ha : DE X K Dc Xe a ta da) (hb : DE X K Dc Xe b tb db) (hm : behindInMarks op b = false) : DT X K Dc Xe (.Compare a [op] [b] pos) (tTest (tOp r ta tb)) (dTest (dOp rd da db)) :=
  ⟨ha.hK, pt_cmpR ho ha.pe hb.pe hm, rt_test (re_op h ha.rd hb.rd)⟩
theorem dt_val (h : DE X K Dc Xe e te dd) (he : ∀ whole, isTrue e X.env whole = (do let v ← whole; standAt e.pos; holding [v] (truthy v)) := by intro _; rfl) : DT X K Dc Xe e (tTest te) (dTest dd) := ⟨h.hK, pt_val h.pe he, rt_test h.rd⟩
/-! and, or, not, if -/
@[simp] def dAnd (t u : TTd) : TTd := fun sd P F => t sd (fun c => if c = true then u sd P F else P false) F
@[simp] def dOr (t u : TTd) : TTd := fun sd P F => t sd (fun c => if c = true then P true else u sd P F) F
@[simp] def dNot (t : TTd) : TTd := fun sd P F => t sd (fun c => P (!c)) F
theorem rt_and (ha : RT K Dc Xe tt dt) (hb : RT K Dc Xe tu du) : RT K Dc Xe (tAnd tt tu) (dAnd dt du) := by
  intro Hb0 H0 F hF Hb H σ sd P Q m hd k
  refine ha Hb0 H0 F hF Hb H σ sd _ _ m hd fun Hb1 H1 b g1 hd1 => ?_
  cases b with
  | true => exact hb Hb0 H0 F hF Hb1 H1 σ sd _ _ (m.step g1) hd1 fun Hb2 H2 c g2 hp => k Hb2 H2 c (g1.trans g2) hp
  | false => exact k Hb1 H1 false g1 hd1
theorem rt_or (ha : RT K Dc Xe tt dt) (hb : RT K Dc Xe tu du) : RT K Dc Xe (tOr tt tu) (dOr dt du) := by
  intro Hb0 H0 F hF Hb H σ sd P Q m hd k
  refine ha Hb0 H0 F hF Hb H σ sd _ _ m hd fun Hb1 H1 b g1 hd1 => ?_
  cases b with
  | false => exact hb Hb0 H0 F hF Hb1 H1 σ sd _ _ (m.step g1) hd1 fun Hb2 H2 c g2 hp => k Hb2 H2 c (g1.trans g2) hp
  | true => exact k Hb1 H1 true g1 hd1
theorem rt_not (ha : RT K Dc Xe tt dt) : RT K Dc Xe (tNot tt) (dNot dt) := by
  intro Hb0 H0 F hF Hb H σ sd P Q m hd k
  exact ha Hb0 H0 F hF Hb H σ sd _ _ m hd fun Hb1 H1 b g1 hd1 => k Hb1 H1 _ g1 hd1
theorem dw_and1 (h : DT X K Dc Xe a tt dt) : DW X K Dc Xe (.BoolOp .And [a] pos) tt dt := ⟨h.hK, pw_and1 h.pe, h.rd⟩
theorem dw_or1 (h : DT X K Dc Xe a tt dt) : DW X K Dc Xe (.BoolOp .Or [a] pos) tt dt := ⟨h.hK, pw_or1 h.pe, h.rd⟩
theorem dw_and (h : DT X K Dc Xe a tt dt) (hb : DW X K Dc Xe (.BoolOp .And (b :: es) pos) tu du) : DW X K Dc Xe (.BoolOp .And (a :: b :: es) pos) (tAnd tt tu) (dAnd dt du) := ⟨h.hK, pw_and h.pe hb.pe, rt_and h.rd hb.rd⟩
theorem dw_or (h : DT X K Dc Xe a tt dt) (hb : DW X K Dc Xe (.BoolOp .Or (b :: es) pos) tu du) : DW X K Dc Xe (.BoolOp .Or (a :: b :: es) pos) (tOr tt tu) (dOr dt du) := ⟨h.hK, pw_or h.pe hb.pe, rt_or h.rd hb.rd⟩
theorem dt_w (h : DW X K Dc Xe a tt dt) : DT X K Dc Xe a tt dt := ⟨h.hK, h.pe.pt, h.rd⟩
theorem dt_not (h : DT X K Dc Xe a tt dt) : DT X K Dc Xe (.UnaryOp .Not a pos) (tNot tt) (dNot dt) := ⟨h.hK, pt_not h.pe, rt_not h.rd⟩
@[simp] def dAndV (da db : TEd) : TEd := fun sd P F => da sd (fun x => match x with | .bl true => db sd P F | .bl false => P (.bl false) | _ => False) F
@[simp] def dOrV (da db : TEd) : TEd := fun sd P F => da sd (fun x => match x with | .bl true => P (.bl true) | .bl false => db sd P F | _ => False) F
@[simp] def dNotV (da : TEd) : TEd := fun sd P F => da sd (fun x => match x with | .bl b => P (.bl (!b)) | _ => False) F
theorem re_and (ha : RE K Dc Xe ta da) (hb : RE K Dc Xe tb db) : RE K Dc Xe (tAndV ta tb) (dAndV da db) := by
  intro Hb0 H0 F hF Hb H σ sd P Q m hd k
  refine ha Hb0 H0 F hF Hb H σ sd _ _ m hd fun Hb1 H1 x d g1 dx hd1 => ?_
  cases d <;> try exact hd1.elim
  rename_i c
  simp only [Dt] at dx
  refine ⟨c, dx, ?_⟩
  cases c with
  | true => exact hb Hb0 H0 F hF Hb1 H1 σ sd _ _ (m.step g1) hd1 fun Hb2 H2 v d g2 dv hp => k Hb2 H2 v d (g1.trans g2) dv hp
  | false => exact k Hb1 H1 _ _ g1 dt_bl hd1
theorem re_or (ha : RE K Dc Xe ta da) (hb : RE K Dc Xe tb db) : RE K Dc Xe (tOrV ta tb) (dOrV da db) := by
  intro Hb0 H0 F hF Hb H σ sd P Q m hd k
  refine ha Hb0 H0 F hF Hb H σ sd _ _ m hd fun Hb1 H1 x d g1 dx hd1 => ?_
  cases d <;> try exact hd1.elim
  rename_i c
  simp only [Dt] at dx
  refine ⟨c, dx, ?_⟩
  cases c with
  | false => exact hb Hb0 H0 F hF Hb1 H1 σ sd _ _ (m.step g1) hd1 fun Hb2 H2 v d g2 dv hp => k Hb2 H2 v d (g1.trans g2) dv hp
  | true => exact k Hb1 H1 _ _ g1 dt_bl hd1
theorem re_not (ha : RE K Dc Xe ta da) : RE K Dc Xe (tNotV ta) (dNotV da) := by
  intro Hb0 H0 F hF Hb H σ sd P Q m hd k
  refine ha Hb0 H0 F hF Hb H σ sd _ _ m hd fun Hb1 H1 x d g1 dx hd1 => ?_
  cases d <;> try exact hd1.elim
  rename_i c
  simp only [Dt] at dx
  exact ⟨c, dx, k Hb1 H1 _ _ g1 dt_bl hd1⟩
theorem de_one {op} (h : DE X K Dc Xe a ta da) : DE X K Dc Xe (.BoolOp op [a] pos) ta da := ⟨h.hK, pe_one h.pe, h.rd⟩
theorem de_and (h : DE X K Dc Xe a ta da) (hb : DE X K Dc Xe (.BoolOp .And (b :: es) pos) tb db) : DE X K Dc Xe (.BoolOp .And (a :: b :: es) pos) (tAndV ta tb) (dAndV da db) := ⟨h.hK, pe_and h.pe hb.pe, re_and h.rd hb.rd⟩
theorem de_or (h : DE X K Dc Xe a ta da) (hb : DE X K Dc Xe (.BoolOp .Or (b :: es) pos) tb db) : DE X K Dc Xe (.BoolOp .Or (a :: b :: es) pos) (tOrV ta tb) (dOrV da db) := ⟨h.hK, pe_or h.pe hb.pe, re_or h.rd hb.rd⟩
theorem de_not (h : DE X K Dc Xe a ta da) : DE X K Dc Xe (.UnaryOp .Not a pos) (tNotV ta) (dNotV da) := ⟨h.hK, pe_not h.pe, re_not h.rd⟩
@[simp] def dIf (t : TTd) (da db : TEd) : TEd := fun sd P F => t sd (fun c => if c = true then da sd P F else db sd P F) F
theorem re_if (hc : RT K Dc Xe tt dt) (ha : RE K Dc Xe ta da) (hb : RE K Dc Xe tb db) : RE K Dc Xe (tIf tt ta tb) (dIf dt da db) := by
  intro Hb0 H0 F hF Hb H σ sd P Q m hd k
  refine hc Hb0 H0 F hF Hb H σ sd _ _ m hd fun Hb1 H1 b g1 hd1 => ?_
  cases b with
  | true => exact ha Hb0 H0 F hF Hb1 H1 σ sd _ _ (m.step g1) hd1 fun Hb2 H2 v d g2 dv hp => k Hb2 H2 v d (g1.trans g2) dv hp
  | false => exact hb Hb0 H0 F hF Hb1 H1 σ sd _ _ (m.step g1) hd1 fun Hb2 H2 v d g2 dv hp => k Hb2 H2 v d (g1.trans g2) dv hp
theorem de_if (hc : DT X K Dc Xe c tt dt) (ha : DE X K Dc Xe a ta da) (hb : DE X K Dc Xe b tb db) : DE X K Dc Xe (.IfExp c a b pos) (tIf tt ta tb) (dIf dt da db) := ⟨hc.hK, pe_ifExp hc.pe ha.pe hb.pe, re_if hc.rd ha.rd hb.rd⟩
/-! arguments, displays -/
@[simp] def dNil : TAd := fun _ P _ => P []
@[simp] def dCons (da : TEd) (dr : TAd) : TAd := fun sd P F => da sd (fun x => dr sd (fun xs => P (x :: xs)) F) F
theorem ra_nil : RA K Dc Xe tNil dNil := fun _ _ _ _ Hb H _ _ _ _ m hd k => k Hb H [] [] m.g.ok dts_nil hd
theorem ra_cons {tr : TA} {dr : TAd} (ha : RE K Dc Xe ta da) (hr : RA K Dc Xe tr dr) : RA K Dc Xe (tCons ta tr) (dCons da dr) := by
  intro Hb0 H0 F hF Hb H σ sd P Q m hd k
  refine ha Hb0 H0 F hF Hb H σ sd _ _ m hd fun Hb1 H1 x d g1 dx hd1 => ?_
  exact hr Hb0 H0 F hF Hb1 H1 σ sd _ _ (m.step g1) hd1 fun Hb2 H2 vs ds g2 dv hp => k Hb2 H2 _ _ (g1.trans g2) (dts_cons (dx.mono g2.eb) dv) hp
theorem da_nil (hK : X.K = K := by rfl) : DA X K Dc Xe [] tNil dNil := ⟨hK, pa_nil, ra_nil⟩
theorem da_cons {tr : TA} {dr : TAd} (ha : DE X K Dc Xe e ta da) (hr : DA X K Dc Xe es tr dr) (hs : starEach (e :: es) X.env = (false, eval e X.env) :: starEach es X.env := by rfl) : DA X K Dc Xe (e :: es) (tCons ta tr) (dCons da dr) :=
  ⟨ha.hK, pa_cons ha.pe hr.pe hs, ra_cons ha.rd hr.rd⟩
@[simp] def dTup (da : TAd) : TEd := fun sd P F => da sd (fun ds => ds.length ≤ 100000 ∧ P (.tup ds)) F
theorem re_tup {tr : TA} {dr : TAd} (h : RA K Dc Xe tr dr) : RE K Dc Xe (tTup tr) (dTup dr) := by
  intro Hb0 H0 F hF Hb H σ sd P Q m hd k
  refine h Hb0 H0 F hF Hb H σ sd _ _ m hd fun Hb1 H1 vs ds g1 dx hd1 => ?_
  refine ⟨Evl.sz_of (by rw [dx.length]; exact hd1.1), fun p hp => ?_⟩
  have g2 := Good.new (o := .tup vs) g1.ok hp
  refine k _ _ _ (.tup ds) (g1.trans g2) ?_ hd1.2
  simp only [Dt]
  exact ⟨p, vs, rfl, upd_same, dx.mono g2.eb⟩
theorem de_tup {tr : TA} {dr : TAd} {x1} (h : DA X K Dc Xe es tr dr) : DE X K Dc Xe (.Tuple es x1 pos) (tTup tr) (dTup dr) := ⟨h.hK, pe_tup h.pe, re_tup h.rd⟩
@[simp] def dLst (da : TAd) : TAd := fun sd P F => da sd (fun ds => ds.length ≤ 100000 ∧ P ds) F
theorem rl_lst {tr : TA} {dr : TAd} (h : RA K Dc Xe tr dr) : RL K Dc Xe (tLst tr) (dLst dr) := by
  intro Hb0 H0 F hF Hb H σ sd P Q m hd k
  refine h Hb0 H0 F hF Hb H σ sd _ _ m hd fun Hb1 H1 vs ds g1 dx hd1 => ?_
  refine ⟨Evl.sz_of (by rw [dx.length]; exact hd1.1), fun p hp => ?_⟩
  have g2 := Good.newH (o := .lst vs) g1.ok hp
  exact k _ _ p vs ds (g1.trans g2) (g1.notnone hp) (fresh_back g1.sub hp) upd_same dx hd1.2
theorem dl_lst {tr : TA} {dr : TAd} (h : DA X K Dc Xe es tr dr) : DL X K Dc Xe (.List es pos) (tLst tr) (dLst dr) := ⟨h.hK, pe_lst h.pe, rl_lst h.rd⟩
/-- a new list as a value -/
@[simp] def dOfL (dr : TAd) : TEd := fun sd P F => dr sd (fun ds => P (.lst ds)) F
theorem Good.publish {Hb0 H0 Hb H : Hp} {p : Addr} {vs : List V} (g : Good Dc Hb0 H0 Hb H) (h0 : H0 p = none) (hb : Hb p = none) (h : H p = some (.lst vs)) (nd : ¬ Dc p) : Good Dc Hb0 H0 (upd Hb p (.lst vs)) H := by
  refine ⟨g.eb.trans (Ex.new hb), g.eh, fun a o e => ?_, fun a o e => ?_, g.dc, fun a z => ?_, g.tk, g.tb.updB (fun _ h => nomatch h)⟩
  · by_cases ha : a = p
    · subst ha
      rw [upd_same] at e
      rw [h]
      exact e
    · rw [upd_ne ha] at e
      exact g.sub _ _ e
  · by_cases ha : a = p
    · subst ha
      exact .inr (.inl h0)
    · rw [upd_ne ha] at e
      exact g.dom a o e
  · have ha : a ≠ p := fun e => nd (e ▸ z)
    rw [upd_ne ha]
    exact g.dcb a z
theorem Good.ndc {Hb0 H0 Hb H : Hp} {p : Addr} (g : Good Dc Hb0 H0 Hb H) (h : H p = none) : ¬ Dc p := fun z => by
  obtain ⟨i, j, e⟩ := g.dc p z
  rw [e] at h
  cases h
theorem re_ofL {dr : TAd} (h : RL K Dc Xe te dr) : RE K Dc Xe te (dOfL dr) := by
  intro Hb0 H0 F hF Hb H σ sd P Q m hd k
  refine h Hb0 H0 F hF Hb H σ sd _ _ m hd fun Hb1 H1 p vs ds g1 hp hb hh dx hd1 => ?_
  have g2 := g1.publish hp hb hh (m.g.ndc hp)
  refine k _ _ _ (.lst ds) g2 ?_ hd1
  simp only [Dt]
  exact ⟨p, vs, rfl, upd_same, dx.mono (Ex.new hb)⟩
theorem de_ofL {dr : TAd} (h : DL X K Dc Xe e te dr) : DE X K Dc Xe e te (dOfL dr) := ⟨h.hK, h.pe, re_ofL h.rd⟩
/-! built-ins by name -/
@[simp] def dCB (rd : List D → (D → Prop) → Prop) (dr : TAd) : TEd := fun sd P F => dr sd (fun ds => rd ds P) F
theorem re_cb {r : List V → Hp → VK → Prop} {rd : List D → (D → Prop) → Prop} {tr : TA} {dr : TAd} (h : RCD K Dc r rd) (ha : RA K Dc Xe tr dr) : RE K Dc Xe (tCB r tr) (dCB rd dr) := by
  intro Hb0 H0 F hF Hb H σ sd P Q m hd k
  refine ha Hb0 H0 F hF Hb H σ sd _ _ m hd fun Hb1 H1 vs ds g1 dx hd1 => ?_
  exact h Hb1 H1 vs ds P Q g1.ok dx hd1 fun Hb3 H3 v d' g3 dv hp => k Hb3 H3 v d' (g1.trans g3) dv hp
theorem de_callB {id : String} {x : Str} {p : Pos} {r : List V → Hp → VK → Prop} {rd : List D → (D → Prop) → Prop} {tr : TA} {dr : TAd} (hc : CallR X (.builtin id) r) (h : RCD K Dc r rd) (hg : Gl X x) (hm : X.mg x = none) (hv : bootBuiltins x = some (.builtin id)) (ha : DA X K Dc Xe (e :: es) tr dr)
    (hn : x ≠ "__name__" := by decide) (hdb : (x == ("__debug__" : Str)) = false := by decide)
    (he : starEach (e :: es) X.env = (false, eval e X.env) :: starEach es X.env := by rfl) (hpl : (backTo pos (starEach es X.env)).any (·.1) = false := by rfl) : DE X K Dc Xe (.Call (.Name x p) (e :: es) [] pos) (tCB r tr) (dCB rd dr) :=
  ⟨ha.hK, pe_callB hc hg hm hv ha.pe hn hdb he hpl, re_cb h ha.rd⟩
theorem de_callTy {id : String} {x : Str} {p : Pos} {r : List V → Hp → VK → Prop} {rd : List D → (D → Prop) → Prop} {tr : TA} {dr : TAd} (hc : CallR X (.type id) r) (h : RCD K Dc r rd) (hg : Gl X x) (hm : X.mg x = none) (hv : bootBuiltins x = some (.type id)) (ha : DA X K Dc Xe (e :: es) tr dr)
    (hn : x ≠ "__name__" := by decide) (hdb : (x == ("__debug__" : Str)) = false := by decide)
    (he : starEach (e :: es) X.env = (false, eval e X.env) :: starEach es X.env := by rfl) (hpl : (backTo pos (starEach es X.env)).any (·.1) = false := by rfl) : DE X K Dc Xe (.Call (.Name x p) (e :: es) [] pos) (tCB r tr) (dCB rd dr) :=
  ⟨ha.hK, pe_callTy hc hg hm hv ha.pe hn hdb he hpl, re_cb h ha.rd⟩
end
end RW

set_option Elab.async false
set_option linter.all false
set_option maxRecDepth 100000
set_option maxHeartbeats 2000000
namespace RW
open PySem L2
open Evl (Ex fresh_back)

/-! ### ints -/
@[simp] def dI (C : Int → Int → Prop) (g : Int → Int → D) : D → D → (D → Prop) → Prop := fun x y P => match x, y with
  | .int i, .int j => C i j ∧ P (g i j)
  | _, _ => False
@[simp] def dI0 (g : Int → Int → D) : D → D → (D → Prop) → Prop := fun x y P => match x, y with
  | .int i, .int j => P (g i j)
  | _, _ => False
@[simp] def dU (g : Int → D) : D → (D → Prop) → Prop := fun x P => match x with
  | .int i => P (g i)
  | _ => False
section
variable {X : Cx} {K : PySem.W.Frag} {Dc : Gr} {Xe : XK} {e a b c : Expr} {es : List Expr} {ta tb te : TE} {da db dd : TEd} {pos : Pos} {tt tu : TT} {dt du : TTd}
theorem r2_I {C : Int → Int → Prop} {g : Int → Int → Int} : R2D K Dc (rI C fun i j => .int (g i j)) (dI C fun i j => .int (g i j)) := by
  intro Hb H x y d e P Q ok hx hy h k
  cases d <;> cases e <;> try exact h.elim
  simp only [Dt] at hx hy
  exact ⟨_, _, hx, hy, h.1, k Hb H _ _ ok dt_int h.2⟩
theorem r2_I0 {g : Int → Int → Int} : R2D K Dc (rI0 fun i j => .int (g i j)) (dI0 fun i j => .int (g i j)) := by
  intro Hb H x y d e P Q ok hx hy h k
  cases d <;> cases e <;> try exact h.elim
  simp only [Dt] at hx hy
  exact ⟨_, _, hx, hy, k Hb H _ _ ok dt_int h⟩
theorem r2_B0 {g : Int → Int → Bool} : R2D K Dc (rI0 fun i j => .bl (g i j)) (dI0 fun i j => .bl (g i j)) := by
  intro Hb H x y d e P Q ok hx hy h k
  cases d <;> cases e <;> try exact h.elim
  simp only [Dt] at hx hy
  exact ⟨_, _, hx, hy, k Hb H _ _ ok dt_bl h⟩
theorem r1_U {g : Int → Int} : R1D K Dc (rU fun i => .int (g i)) (dU fun i => .int (g i)) := by
  intro Hb H x d P Q ok hx h k
  cases d <;> try exact h.elim
  simp only [Dt] at hx
  exact ⟨_, hx, k Hb H _ _ ok dt_int h⟩
/-- * -/
def CM (i j : Int) : Prop := CMul i j ∨ CMulW i j
theorem op_mulA : OpR X (binaryOp .Mult) (rI CM fun i j => .int (i * j)) := opI fun _ _ _ _ _ _ _ hc q => PyProof.Rows.mul_int q (hc.elim CMul.ok CMulW.ok)
/-- // by anything below 2 ^ 9000 -/
def CF (_ j : Int) : Prop := j ≠ 0 ∧ j.natAbs.log2 < 9000
theorem op_fdivA : OpR X (binaryOp .FloorDiv) (rI CF fun i j => .int (i.fdiv j)) := opI fun i j _ _ _ _ _ hc q => PyProof.Rows.floordiv_int hc.1 q (.inl (PyProof.noPylong_of_log2 hc.2))
def CN (_ j : Int) : Prop := j ≠ 0
theorem op_modA : OpR X (binaryOp .Mod) (rI CN fun i j => .int (i.fmod j)) := opI fun _ _ _ _ _ _ _ hc q => PyProof.Rows.mod_int' hc q
abbrev dAdd : D → D → (D → Prop) → Prop := dI0 fun i j => .int (i + j)
abbrev dSub : D → D → (D → Prop) → Prop := dI0 fun i j => .int (i - j)
abbrev dMul : D → D → (D → Prop) → Prop := dI CM fun i j => .int (i * j)
abbrev dFdv : D → D → (D → Prop) → Prop := dI CF fun i j => .int (i.fdiv j)
abbrev dMod : D → D → (D → Prop) → Prop := dI CN fun i j => .int (i.fmod j)
abbrev dPow : D → D → (D → Prop) → Prop := dI CPow fun i j => .int (i ^ j.toNat)
abbrev dLt : D → D → (D → Prop) → Prop := dI0 fun i j => .bl (decide (i < j))
abbrev dLe : D → D → (D → Prop) → Prop := dI0 fun i j => .bl (decide (i ≤ j))
abbrev dGt : D → D → (D → Prop) → Prop := dI0 fun i j => .bl (decide (j < i))
abbrev dGe : D → D → (D → Prop) → Prop := dI0 fun i j => .bl (decide (j ≤ i))
abbrev dNeg : D → (D → Prop) → Prop := dU fun i => .int (-i)
theorem de_add (ha : DE X K Dc Xe a ta da) (hb : DE X K Dc Xe b tb db) : DE X K Dc Xe (.BinOp a .Add b pos) (tOp (rI0 fun i j => .int (i + j)) ta tb) (dOp dAdd da db) := de_op op_add r2_I0 ha hb
theorem de_sub (ha : DE X K Dc Xe a ta da) (hb : DE X K Dc Xe b tb db) : DE X K Dc Xe (.BinOp a .Sub b pos) (tOp (rI0 fun i j => .int (i - j)) ta tb) (dOp dSub da db) := de_op op_sub r2_I0 ha hb
theorem de_mul (ha : DE X K Dc Xe a ta da) (hb : DE X K Dc Xe b tb db) : DE X K Dc Xe (.BinOp a .Mult b pos) (tOp (rI CM fun i j => .int (i * j)) ta tb) (dOp dMul da db) := de_op op_mulA r2_I ha hb
theorem de_fdv (ha : DE X K Dc Xe a ta da) (hb : DE X K Dc Xe b tb db) : DE X K Dc Xe (.BinOp a .FloorDiv b pos) (tOp (rI CF fun i j => .int (i.fdiv j)) ta tb) (dOp dFdv da db) := de_op op_fdivA r2_I ha hb
theorem de_mod (ha : DE X K Dc Xe a ta da) (hb : DE X K Dc Xe b tb db) : DE X K Dc Xe (.BinOp a .Mod b pos) (tOp (rI CN fun i j => .int (i.fmod j)) ta tb) (dOp dMod da db) := de_op op_modA r2_I ha hb
theorem de_pow (ha : DE X K Dc Xe a ta da) (hb : DE X K Dc Xe b tb db) : DE X K Dc Xe (.BinOp a .Pow b pos) (tOp (rI CPow fun i j => .int (i ^ j.toNat)) ta tb) (dOp dPow da db) := de_op op_pow r2_I ha hb
theorem de_neg (ha : DE X K Dc Xe a ta da) : DE X K Dc Xe (.UnaryOp .USub a pos) (tUn (rU fun i => .int (-i)) ta) (dUn dNeg da) := de_un un_neg r1_U ha
theorem de_lt (ha : DE X K Dc Xe a ta da) (hb : DE X K Dc Xe b tb db) : DE X K Dc Xe (.Compare a [.Lt] [b] pos) (tOp (rI0 fun i j => .bl (decide (i < j))) ta tb) (dOp dLt da db) := de_cmp op_lt r2_B0 ha hb (nomark _)
theorem de_le (ha : DE X K Dc Xe a ta da) (hb : DE X K Dc Xe b tb db) : DE X K Dc Xe (.Compare a [.LtE] [b] pos) (tOp (rI0 fun i j => .bl (decide (i ≤ j))) ta tb) (dOp dLe da db) := de_cmp op_le r2_B0 ha hb (nomark _)
theorem de_gt (ha : DE X K Dc Xe a ta da) (hb : DE X K Dc Xe b tb db) : DE X K Dc Xe (.Compare a [.Gt] [b] pos) (tOp (rI0 fun i j => .bl (decide (j < i))) ta tb) (dOp dGt da db) := de_cmp op_gt r2_B0 ha hb (nomark _)
theorem de_ge (ha : DE X K Dc Xe a ta da) (hb : DE X K Dc Xe b tb db) : DE X K Dc Xe (.Compare a [.GtE] [b] pos) (tOp (rI0 fun i j => .bl (decide (j ≤ i))) ta tb) (dOp dGe da db) := de_cmp op_ge r2_B0 ha hb (nomark _)
theorem dt_lt (ha : DE X K Dc Xe a ta da) (hb : DE X K Dc Xe b tb db) : DT X K Dc Xe (.Compare a [.Lt] [b] pos) (tTest (tOp (rI0 fun i j => .bl (decide (i < j))) ta tb)) (dTest (dOp dLt da db)) := dt_cmp op_lt r2_B0 ha hb (nomark _)
theorem dt_le (ha : DE X K Dc Xe a ta da) (hb : DE X K Dc Xe b tb db) : DT X K Dc Xe (.Compare a [.LtE] [b] pos) (tTest (tOp (rI0 fun i j => .bl (decide (i ≤ j))) ta tb)) (dTest (dOp dLe da db)) := dt_cmp op_le r2_B0 ha hb (nomark _)
theorem dt_gt (ha : DE X K Dc Xe a ta da) (hb : DE X K Dc Xe b tb db) : DT X K Dc Xe (.Compare a [.Gt] [b] pos) (tTest (tOp (rI0 fun i j => .bl (decide (j < i))) ta tb)) (dTest (dOp dGt da db)) := dt_cmp op_gt r2_B0 ha hb (nomark _)
theorem dt_ge (ha : DE X K Dc Xe a ta da) (hb : DE X K Dc Xe b tb db) : DT X K Dc Xe (.Compare a [.GtE] [b] pos) (tTest (tOp (rI0 fun i j => .bl (decide (j ≤ i))) ta tb)) (dTest (dOp dGe da db)) := dt_cmp op_ge r2_B0 ha hb (nomark _)

/-! ### equality -/
mutual
@[simp] def toPy : D → PyData
  | .non => .none
  | .bl b => .bool b
  | .int i => .int i
  | .str x => .str x
  | .tup ds => .tuple (toPys ds)
  | .lst ds => .list (toPys ds)
  | .ins _ _ _ => .dict []
  | .dice => .dict []
  | .cls _ => .dict []
  | .ty _ => .dict []
  | .scr ns => .list (ns.map PyData.int)
  | .ktp _ => .dict []
  | .exc _ => .dict []
@[simp] def toPys : List D → List PyData
  | [] => []
  | d :: ds => toPy d :: toPys ds
end
theorem dp_ints {Hb : Hp} : ∀ ns : List Int, DpAll K Hb (ns.map V.int) (ns.map PyData.int)
  | [] => .nil
  | n :: ns => .cons (.int n) (dp_ints ns)
mutual
theorem Dt.dp {Hb : Hp} : ∀ {d : D} {v : V}, Dt K Dc Hb d v → (toPy d).canLay0 = true → Dp K Hb v (toPy d)
  | .non, v, h, _ => by simp only [Dt] at h; subst h; exact .non
  | .bl b, v, h, _ => by simp only [Dt] at h; subst h; exact .bl b
  | .int b, v, h, _ => by simp only [Dt] at h; subst h; exact .int b
  | .str b, v, h, _ => by simp only [Dt] at h; subst h; exact .str b
  | .tup ds, v, h, c => by
    simp only [Dt] at h
    obtain ⟨a, xs, rfl, h1, h2⟩ := h
    simp only [toPy] at c ⊢
    exact .tup (SqT.of h1) (Dts.dp h2 (by simpa only [PyData.canLay0] using c))
  | .lst ds, v, h, c => by
    simp only [Dt] at h
    obtain ⟨a, xs, rfl, h1, h2⟩ := h
    simp only [toPy] at c ⊢
    exact .lst (SqL.of h1) (Dts.dp h2 (by simpa only [PyData.canLay0] using c))
  | .ins _ _ _, v, h, c => by simp [toPy, PyData.canLay0] at c
  | .dice, v, h, c => by simp [toPy, PyData.canLay0] at c
  | .cls _, v, h, c => by simp [toPy, PyData.canLay0] at c
  | .ty _, v, h, c => by simp [toPy, PyData.canLay0] at c
  | .scr ns, v, h, c => by
    simp only [Dt] at h
    obtain ⟨a, rfl, h1⟩ := h
    exact .lst h1 (dp_ints ns)
  | .ktp _, v, h, c => by simp [toPy, PyData.canLay0] at c
  | .exc _, v, h, c => by simp [toPy, PyData.canLay0] at c
theorem Dts.dp {Hb : Hp} : ∀ {ds : List D} {vs : List V}, Dts K Dc Hb ds vs → PyData.canLayAll0 (toPys ds) = true → DpAll K Hb vs (toPys ds)
  | [], vs, h, _ => by rw [h.nil]; exact .nil
  | d :: ds, vs, h, c => by
    obtain ⟨v, r, rfl, h1, h2⟩ := h.cons
    simp only [toPys, PyData.canLayAll0, Bool.and_eq_true] at c
    exact .cons (Dt.dp h1 c.1) (Dts.dp h2 c.2)
end
theorem dp_mono {Hb Hb' : Hp} (e : Ex Hb Hb') {d : D} {v : V} (h : Dt K Dc Hb d v) (c : (toPy d).canLay0 = true) : Dp K Hb' v (toPy d) := (h.mono e).dp c
def shp (d : D) : Prop := SeqAt.shaped (toPy d) = true
instance (d : D) : Decidable (shp d) := inferInstanceAs (Decidable (_ = true))
@[simp] def dEq : D → D → (D → Prop) → Prop := fun x y P => shp x ∧ shp y ∧ P (.bl (PyData.eqv (toPy x) (toPy y)))
@[simp] def dNe : D → D → (D → Prop) → Prop := fun x y P => shp x ∧ shp y ∧ P (.bl (!PyData.eqv (toPy x) (toPy y)))
theorem r2_eq : R2D K Dc (rEqD K) dEq := by
  intro Hb H x y d e P Q ok hx hy h k
  exact ⟨_, _, dp_mono ok.sub hx (SeqAt.canLay_of_shaped h.1), dp_mono ok.sub hy (SeqAt.canLay_of_shaped h.2.1), h.1, h.2.1, k Hb H _ _ ok dt_bl h.2.2⟩
theorem r2_ne : R2D K Dc (rNeD K) dNe := by
  intro Hb H x y d e P Q ok hx hy h k
  exact ⟨_, _, dp_mono ok.sub hx (SeqAt.canLay_of_shaped h.1), dp_mono ok.sub hy (SeqAt.canLay_of_shaped h.2.1), h.1, h.2.1, k Hb H _ _ ok dt_bl h.2.2⟩
theorem de_eq {k : Nat} (hr : Room k X.A) (ha : DE X K Dc Xe a ta da) (hb : DE X K Dc Xe b tb db) : DE X K Dc Xe (.Compare a [.Eq] [b] pos) (tOp (rEqD K) ta tb) (dOp dEq da db) := by obtain rfl := ha.hK; exact de_cmp (op_eqD hr.units) r2_eq ha hb (nomark _)
theorem de_ne {k : Nat} (hr : Room k X.A) (ha : DE X K Dc Xe a ta da) (hb : DE X K Dc Xe b tb db) : DE X K Dc Xe (.Compare a [.NotEq] [b] pos) (tOp (rNeD K) ta tb) (dOp dNe da db) := by obtain rfl := ha.hK; exact de_cmp (op_neD hr.units) r2_ne ha hb (nomark _)
theorem dt_eq {k : Nat} (hr : Room k X.A) (ha : DE X K Dc Xe a ta da) (hb : DE X K Dc Xe b tb db) : DT X K Dc Xe (.Compare a [.Eq] [b] pos) (tTest (tOp (rEqD K) ta tb)) (dTest (dOp dEq da db)) := by obtain rfl := ha.hK; exact dt_cmp (op_eqD hr.units) r2_eq ha hb (nomark _)
theorem dt_ne {k : Nat} (hr : Room k X.A) (ha : DE X K Dc Xe a ta da) (hb : DE X K Dc Xe b tb db) : DT X K Dc Xe (.Compare a [.NotEq] [b] pos) (tTest (tOp (rNeD K) ta tb)) (dTest (dOp dNe da db)) := by obtain rfl := ha.hK; exact dt_cmp (op_neD hr.units) r2_ne ha hb (nomark _)
/-! is None -/
@[simp] def isNon : D → Bool
  | .non => true
  | _ => false
theorem isNon_of {Hb : Hp} {d : D} {v : V} (h : Dt K Dc Hb d v) : decide (v = .non) = isNon d := by
  cases d <;> simp only [Dt] at h <;> first | (subst h; rfl) | (obtain ⟨a, _, _, rfl, _⟩ := h; rfl) | (obtain ⟨a, _, rfl, _⟩ := h; rfl) | (obtain ⟨a, rfl, _⟩ := h; rfl)
@[simp] def dIsN : D → D → (D → Prop) → Prop := fun x _ P => P (.bl (isNon x))
@[simp] def dNotN : D → D → (D → Prop) → Prop := fun x _ P => P (.bl (!isNon x))
theorem re_isN (ha : RE K Dc Xe ta da) : RE K Dc Xe (tOp rIsN ta (tC .non)) (dUn (fun x P => P (.bl (isNon x))) da) := by
  intro Hb0 H0 F hF Hb H σ sd P Q m hd k
  refine ha Hb0 H0 F hF Hb H σ sd _ _ m hd fun Hb1 H1 x d g1 dx hd1 => ?_
  refine ⟨rfl, ?_⟩
  rw [isNon_of dx]
  exact k Hb1 H1 _ _ g1 dt_bl hd1
theorem re_notN (ha : RE K Dc Xe ta da) : RE K Dc Xe (tOp rNotN ta (tC .non)) (dUn (fun x P => P (.bl (!isNon x))) da) := by
  intro Hb0 H0 F hF Hb H σ sd P Q m hd k
  refine ha Hb0 H0 F hF Hb H σ sd _ _ m hd fun Hb1 H1 x d g1 dx hd1 => ?_
  refine ⟨rfl, ?_⟩
  rw [isNon_of dx]
  exact k Hb1 H1 _ _ g1 dt_bl hd1
theorem de_isN {j pos'} (ha : DE X K Dc Xe a ta da) : DE X K Dc Xe (.Compare a [.Is] [.Constant .none j pos'] pos) (tOp rIsN ta (tC .non)) (dUn (fun x P => P (.bl (isNon x))) da) := ⟨ha.hK, pe_cmpR op_isN1 ha.pe pe_non (nomark _), re_isN ha.rd⟩
theorem de_notN {j pos'} (ha : DE X K Dc Xe a ta da) : DE X K Dc Xe (.Compare a [.IsNot] [.Constant .none j pos'] pos) (tOp rNotN ta (tC .non)) (dUn (fun x P => P (.bl (!isNon x))) da) := ⟨ha.hK, pe_cmpR op_notN1 ha.pe pe_non (nomark _), re_notN ha.rd⟩
theorem dt_isN {j pos'} (ha : DE X K Dc Xe a ta da) : DT X K Dc Xe (.Compare a [.Is] [.Constant .none j pos'] pos) (tTest (tOp rIsN ta (tC .non))) (dTest (dUn (fun x P => P (.bl (isNon x))) da)) := ⟨ha.hK, pt_cmpR op_isN1 ha.pe pe_non (nomark _), rt_test (re_isN ha.rd)⟩
theorem dt_notN {j pos'} (ha : DE X K Dc Xe a ta da) : DT X K Dc Xe (.Compare a [.IsNot] [.Constant .none j pos'] pos) (tTest (tOp rNotN ta (tC .non))) (dTest (dUn (fun x P => P (.bl (!isNon x))) da)) := ⟨ha.hK, pt_cmpR op_notN1 ha.pe pe_non (nomark _), rt_test (re_notN ha.rd)⟩

/-! ### in (flat things in a tuple or list) -/
@[simp] def flatD : D → Option V
  | .non => some .non
  | .bl b => some (.bl b)
  | .int i => some (.int i)
  | .str x => some (.str x)
  | _ => none
theorem flatD_of {Hb : Hp} {d : D} {v w : V} (h : Dt K Dc Hb d v) (hf : flatD d = some w) : v = w := by
  cases d <;> simp only [Dt] at h <;> simp only [flatD] at hf <;> first | (cases hf; done) | (cases hf; exact h)
@[simp] def flatDs : List D → Option (List V)
  | [] => some []
  | d :: ds => match flatD d, flatDs ds with
    | some v, some vs => some (v :: vs)
    | _, _ => none
theorem flatDs_of {Hb : Hp} : ∀ {ds : List D} {vs ws : List V}, Dts K Dc Hb ds vs → flatDs ds = some ws → vs = ws
  | [], vs, ws, h, hf => by rw [h.nil]; simpa [flatDs] using hf
  | d :: ds, vs, ws, h, hf => by
    obtain ⟨v, r, rfl, h1, h2⟩ := h.cons
    simp only [flatDs] at hf
    split at hf
    · rename_i v' vs' e1 e2
      cases hf
      rw [flatD_of h1 e1, flatDs_of h2 e2]
    · cases hf
theorem flatD_flat {d : D} {w : V} (hf : flatD d = some w) : flatV w = true := by
  cases d <;> simp only [flatD] at hf <;> first | (cases hf; done) | (cases hf; rfl)
theorem flatDs_flat : ∀ {ds : List D} {ws : List V}, flatDs ds = some ws → ws.all flatV = true
  | [], ws, hf => by simp [flatDs] at hf; subst hf; rfl
  | d :: ds, ws, hf => by
    simp only [flatDs] at hf
    split at hf
    · rename_i v' vs' e1 e2
      cases hf
      rw [List.all_cons, flatD_flat e1, flatDs_flat e2]; rfl
    · cases hf
@[simp] def dIn (neg : Bool) : D → D → (D → Prop) → Prop := fun x y P => match y with
  | .tup ds => (match flatD x, flatDs ds with | some v, some vs => P (.bl (if neg then !inV v vs else inV v vs)) | _, _ => False)
  | .lst ds => (match flatD x, flatDs ds with | some v, some vs => P (.bl (if neg then !inV v vs else inV v vs)) | _, _ => False)
  | .ktp ds => (match flatD x, flatDs ds with | some v, some vs => P (.bl (if neg then !inV v vs else inV v vs)) | _, _ => False)
  | _ => False
theorem r2_in {neg : Bool} : R2D K Dc (rIn K neg) (dIn neg) := by
  intro Hb H x y d e P Q ok hx hy h k
  cases e <;> try exact h.elim
  all_goals (
    rename_i ds
    simp only [dIn] at h
    split at h <;> try exact h.elim
    rename_i v vs e1 e2
    simp only [Dt] at hy
    obtain ⟨p, xs, rfl, h1, h2⟩ := hy
    have q1 := flatD_of hx e1
    have q2 := flatDs_of h2 e2
    subst q1 q2)
  · exact ⟨p, _, rfl, .inr (SqT.of (ok.sub _ _ h1)), flatD_flat e1, flatDs_flat e2, k Hb H _ _ ok dt_bl h⟩
  · exact ⟨p, _, rfl, .inl (SqL.of (ok.sub _ _ h1)), flatD_flat e1, flatDs_flat e2, k Hb H _ _ ok dt_bl h⟩
  · exact ⟨p, _, rfl, .inr (Evl.ex_t ok.sub h1), flatD_flat e1, flatDs_flat e2, k Hb H _ _ ok dt_bl h⟩
theorem de_in (ha : DE X K Dc Xe a ta da) (hb : DE X K Dc Xe b tb db) (hm : behindInMarks .In b = false := by rfl) : DE X K Dc Xe (.Compare a [.In] [b] pos) (tOp (rIn K false) ta tb) (dOp (dIn false) da db) := by obtain rfl := ha.hK; exact de_cmp op_in_seq r2_in ha hb hm
theorem de_notIn (ha : DE X K Dc Xe a ta da) (hb : DE X K Dc Xe b tb db) (hm : behindInMarks .NotIn b = false := by rfl) : DE X K Dc Xe (.Compare a [.NotIn] [b] pos) (tOp (rIn K true) ta tb) (dOp (dIn true) da db) := by obtain rfl := ha.hK; exact de_cmp op_notIn_seq r2_in ha hb hm
theorem dt_in (ha : DE X K Dc Xe a ta da) (hb : DE X K Dc Xe b tb db) (hm : behindInMarks .In b = false := by rfl) : DT X K Dc Xe (.Compare a [.In] [b] pos) (tTest (tOp (rIn K false) ta tb)) (dTest (dOp (dIn false) da db)) := by obtain rfl := ha.hK; exact dt_cmp op_in_seq r2_in ha hb hm
theorem dt_notIn (ha : DE X K Dc Xe a ta da) (hb : DE X K Dc Xe b tb db) (hm : behindInMarks .NotIn b = false := by rfl) : DT X K Dc Xe (.Compare a [.NotIn] [b] pos) (tTest (tOp (rIn K true) ta tb)) (dTest (dOp (dIn true) da db)) := by obtain rfl := ha.hK; exact dt_cmp op_notIn_seq r2_in ha hb hm

/-! ### items -/
theorem atI_dts {Hb : Hp} {ds : List D} {vs : List V} {i : Int} {d : D} (h : Dts K Dc Hb ds vs) (e : atI ds i = some d) : ∃ v, atI vs i = some v ∧ Dt K Dc Hb d v := by
  unfold atI at e ⊢
  rw [h.length]
  cases q : ixN ds.length i with
  | none => rw [q] at e; cases e
  | some j =>
    rw [q] at e
    exact h.get e
@[simp] def dIx : D → D → (D → Prop) → Prop := fun x y P => match x, y with
  | .tup ds, .int i => (match atI ds i with | some d => P d | none => False)
  | .lst ds, .int i => (match atI ds i with | some d => P d | none => False)
  | .scr ns, .int i => (match atI ns i with | some z => P (.int z) | none => False)
  | .str z, .int i => z.length ≤ 100000 ∧ (match atI z.cps.toList i with | some c => P (.str ⟨#[c]⟩) | none => False)
  | _, _ => False
theorem r2_ix : R2D K Dc (rIx K) dIx := by
  intro Hb H x y d e P Q ok hx hy h k
  cases d <;> cases e <;> try exact h.elim
  · rename_i z i
    simp only [Dt] at hx hy
    simp only [dIx] at h
    obtain ⟨hz, h⟩ := h
    split at h <;> try exact h.elim
    rename_i c ec
    exact .inr (.inr ⟨z, i, c, hx, hy, Evl.sz_of hz, ec, k Hb H _ _ ok dt_str h⟩)
  · rename_i ds i
    simp only [Dt] at hx hy
    obtain ⟨p, xs, rfl, h1, h2⟩ := hx
    simp only [dIx] at h
    split at h <;> try exact h.elim
    rename_i d ed
    obtain ⟨v, ev, hv⟩ := atI_dts h2 ed
    exact .inr (.inl ⟨p, xs, i, v, rfl, hy, SqT.of (ok.sub _ _ h1), ev, k Hb H _ _ ok hv h⟩)
  · rename_i ds i
    simp only [Dt] at hx hy
    obtain ⟨p, xs, rfl, h1, h2⟩ := hx
    simp only [dIx] at h
    split at h <;> try exact h.elim
    rename_i d ed
    obtain ⟨v, ev, hv⟩ := atI_dts h2 ed
    exact .inl ⟨p, xs, i, v, rfl, hy, SqL.of (ok.sub _ _ h1), ev, k Hb H _ _ ok hv h⟩
  · rename_i ns i
    simp only [Dt] at hx hy
    obtain ⟨p, rfl, h1⟩ := hx
    simp only [dIx] at h
    split at h <;> try exact h.elim
    rename_i z ez
    refine .inl ⟨p, _, i, .int z, rfl, hy, Evl.ex_l ok.sub h1, ?_, k Hb H _ _ ok dt_int h⟩
    unfold atI at ez ⊢
    rw [List.length_map]
    cases q : ixN ns.length i with
    | none => rw [q] at ez; cases ez
    | some j =>
      rw [q] at ez
      show (ns.map V.int)[j]? = _
      rw [List.getElem?_map]
      have ez : ns[j]? = some z := ez
      rw [ez]
      rfl
theorem de_ix (ha : DE X K Dc Xe a ta da) (hb : DE X K Dc Xe b tb db) (hs : PlainIx b := by exact fun _ _ => rfl) : DE X K Dc Xe (.Subscript a b pos) (tOp (rIx K) ta tb) (dOp dIx da db) := by obtain rfl := ha.hK; exact ⟨rfl, pe_ix ix_seq ha.pe hb.pe hs, re_op r2_ix ha.rd hb.rd⟩
/-! ### slices -/
def cutD {α : Type} (xs : List α) (lo hi : Option Int) : List α := (xs.drop (HT.sIx xs.length 0 lo)).take (HT.sIx xs.length xs.length hi - HT.sIx xs.length 0 lo)
theorem dts_cut {Hb : Hp} {ds : List D} {vs : List V} (h : Dts K Dc Hb ds vs) (lo hi : Option Int) : Dts K Dc Hb (cutD ds lo hi) (cutV vs lo hi) := by
  unfold cutD cutV
  rw [h.length]
  exact (h.drop _).take _
abbrev TOd := Sd → (Option Int → Prop) → XF → Prop
def RO (K : PySem.W.Frag) (Dc : Gr) (Xe : XK) (to : TO) (td : TOd) : Prop := ∀ (Hb0 H0 : Hp) (F : XF), XOk Dc Xe Hb0 H0 F → ∀ (Hb H : Hp) (σ : St) (sd : Sd) (P : Option Int → Prop) (Q : Option Int → Hp → Prop), M K Dc Hb0 H0 Hb H σ sd → td sd P F →
  (∀ Hb' H' o, Good Dc Hb H Hb' H' → P o → Q o H') → to σ H Q
structure DO (X : Cx) (K : PySem.W.Frag) (Dc : Gr) (Xe : XK) (e : Option Expr) (to : TO) (td : TOd) : Prop where
  hK : X.K = K
  pe : PO X e to
  rd : RO K Dc Xe to td
theorem do_none (hK : X.K = K := by rfl) : DO X K Dc Xe none tNoPart (fun _ P _ => P none) := ⟨hK, po_none, fun _ _ _ _ Hb H _ _ _ _ m hd k => k Hb H _ m.g.ok hd⟩
@[simp] def dPart (dd : TEd) : TOd := fun sd P F => dd sd (fun x => match x with | .int i => P (some i) | _ => False) F
theorem do_some (h : DE X K Dc Xe e te dd) : DO X K Dc Xe (some e) (tPart te) (dPart dd) := ⟨h.hK, po_some h.pe, by
  intro Hb0 H0 F hF Hb H σ sd P Q m hd k
  refine h.rd Hb0 H0 F hF Hb H σ sd _ _ m hd fun Hb1 H1 x d g1 dx hd1 => ?_
  cases d <;> try exact hd1.elim
  simp only [Dt] at dx
  exact ⟨_, dx, k Hb1 H1 _ g1 hd1⟩⟩
/-- t[a:b] -/
@[simp] def dSlT (dd : TEd) (dl dh : TOd) : TEd := fun sd P F => dd sd (fun x => match x with | .tup ds => dl sd (fun l => dh sd (fun h => P (.tup (cutD ds l h))) F) F | _ => False) F
theorem re_slT {tl th : TO} {dl dh : TOd} (h : RE K Dc Xe te dd) (hl : RO K Dc Xe tl dl) (hh : RO K Dc Xe th dh) : RE K Dc Xe (tSl (rSlA K) te tl th) (dSlT dd dl dh) := by
  intro Hb0 H0 F hF Hb H σ sd P Q m hd k
  refine h Hb0 H0 F hF Hb H σ sd _ _ m hd fun Hb1 H1 x d g1 dx hd1 => ?_
  cases d <;> try exact hd1.elim
  rename_i ds
  refine hl Hb0 H0 F hF Hb1 H1 σ sd _ _ (m.step g1) hd1 fun Hb2 H2 l g2 hd2 => ?_
  refine hh Hb0 H0 F hF Hb2 H2 σ sd _ _ ((m.step g1).step g2) hd2 fun Hb3 H3 u g3 hd3 => ?_
  have dx3 := (dx.mono g2.eb).mono g3.eb
  simp only [Dt] at dx3
  obtain ⟨a, xs, rfl, h1, h2⟩ := dx3
  have g := (g1.trans g2).trans g3
  refine ⟨a, xs, rfl, SqT.of (g3.sub _ _ h1), ?_, ?_⟩
  · intro hw
    refine k Hb3 H3 _ _ g ?_ hd3
    have e : cutD ds l u = ds := by
      rw [h2.length] at hw
      unfold cutD
      rw [hw.1, hw.2, List.drop_zero, Nat.sub_zero, List.take_length]
    rw [e]
    simp only [Dt]
    exact ⟨a, xs, rfl, h1, h2⟩
  · intro hw p hp
    have g4 := Good.new (o := .tup (cutV xs l u)) g.ok hp
    refine k _ _ _ _ (g.trans g4) ?_ hd3
    simp only [Dt]
    exact ⟨p, _, rfl, upd_same, (dts_cut h2 l u).mono g4.eb⟩
theorem de_slT {lo hi : Option Expr} {tl th : TO} {dl dh : TOd} {p2 : Pos} (h : DE X K Dc Xe e te dd) (hl : DO X K Dc Xe lo tl dl) (hh : DO X K Dc Xe hi th dh) : DE X K Dc Xe (.Subscript e (.Slice lo hi none p2) pos) (tSl (rSlA K) te tl th) (dSlT dd dl dh) := by obtain rfl := h.hK; exact ⟨rfl, pe_slice sl_tupA h.pe hl.pe hh.pe, re_slT h.rd hl.rd hh.rd⟩
/-- xs[a:b], a list -/
@[simp] def dSlL (dd : TEd) (dl dh : TOd) : TAd := fun sd P F => dd sd (fun x => match x with | .lst ds => dl sd (fun l => dh sd (fun h => P (cutD ds l h)) F) F | _ => False) F
theorem rl_slL {tl th : TO} {dl dh : TOd} (h : RE K Dc Xe te dd) (hl : RO K Dc Xe tl dl) (hh : RO K Dc Xe th dh) : RL K Dc Xe (tSl (rSlL K) te tl th) (dSlL dd dl dh) := by
  intro Hb0 H0 F hF Hb H σ sd P Q m hd k
  refine h Hb0 H0 F hF Hb H σ sd _ _ m hd fun Hb1 H1 x d g1 dx hd1 => ?_
  cases d <;> try exact hd1.elim
  rename_i ds
  refine hl Hb0 H0 F hF Hb1 H1 σ sd _ _ (m.step g1) hd1 fun Hb2 H2 l g2 hd2 => ?_
  refine hh Hb0 H0 F hF Hb2 H2 σ sd _ _ ((m.step g1).step g2) hd2 fun Hb3 H3 u g3 hd3 => ?_
  have dx3 := (dx.mono g2.eb).mono g3.eb
  simp only [Dt] at dx3
  obtain ⟨a, xs, rfl, h1, h2⟩ := dx3
  have g := (g1.trans g2).trans g3
  refine ⟨a, xs, rfl, SqL.of (g3.sub _ _ h1), fun p hp => ?_⟩
  have g4 := Good.newH (o := .lst (cutV xs l u)) g.ok hp
  exact k _ _ p _ _ (g.trans g4) (g.notnone hp) (fresh_back g.sub hp) upd_same (dts_cut h2 l u) hd3
theorem dl_slL {lo hi : Option Expr} {tl th : TO} {dl dh : TOd} {p2 : Pos} (h : DE X K Dc Xe e te dd) (hl : DO X K Dc Xe lo tl dl) (hh : DO X K Dc Xe hi th dh) : DL X K Dc Xe (.Subscript e (.Slice lo hi none p2) pos) (tSl (rSlL K) te tl th) (dSlL dd dl dh) := by obtain rfl := h.hK; exact ⟨rfl, pe_slice sl_list h.pe hl.pe hh.pe, rl_slL h.rd hl.rd hh.rd⟩
/-- xs[::-1], a list -/
@[simp] def dRevL (dd : TEd) : TAd := fun sd P F => dd sd (fun x => match x with | .lst ds => P ds.reverse | _ => False) F
theorem dl_revL {k : Nat} {p1 p2 p3 : Pos} (h : DE X K Dc Xe e te dd) : DL X K Dc Xe (.Subscript e (.Slice none none (some (.UnaryOp .USub (.Constant (.int 1) k p1) p2)) p3) pos) (tRevL K te) (dRevL dd) := by obtain rfl := h.hK; exact ⟨rfl, pe_revL h.pe, by
  intro Hb0 H0 F hF Hb H σ sd P Q m hd k
  refine h.rd Hb0 H0 F hF Hb H σ sd _ _ m hd fun Hb1 H1 x d g1 dx hd1 => ?_
  cases d <;> try exact hd1.elim
  rename_i ds
  simp only [Dt] at dx
  obtain ⟨a, xs, rfl, h1, h2⟩ := dx
  refine ⟨a, xs, rfl, SqL.of (g1.sub _ _ h1), fun p hp => ?_⟩
  have g4 := Good.newH (o := .lst xs.reverse) g1.ok hp
  exact k _ _ p _ _ (g1.trans g4) (g1.notnone hp) (fresh_back g1.sub hp) upd_same h2.reverse hd1⟩
/-! ### t + u, tuples; xs + ys, lists -/
@[simp] def dCatT : D → D → (D → Prop) → Prop := fun x y P => match x, y with
  | .tup ds, .tup es => ds.length + es.length ≤ 100000 ∧ P (.tup (ds ++ es))
  | _, _ => False
theorem r2_catT : R2D K Dc (rCatA K) dCatT := by
  intro Hb H x y d e P Q ok hx hy h k
  cases d <;> cases e <;> try exact h.elim
  rename_i ds es
  have hx' := hx
  have hy' := hy
  simp only [Dt] at hx hy
  obtain ⟨p, xs, rfl, h1, h2⟩ := hx
  obtain ⟨q, ys, rfl, h3, h4⟩ := hy
  refine ⟨p, q, xs, ys, rfl, rfl, SqT.of (ok.sub _ _ h1), SqT.of (ok.sub _ _ h3), Evl.sz_of (by rw [h2.length, h4.length]; exact h.1), ?_, ?_, ?_⟩
  · intro e
    subst e
    have : ds = [] := List.length_eq_zero_iff.mp (by rw [← h2.length]; rfl)
    subst this
    exact k Hb H _ _ ok (by simpa using hy') h.2
  · intro _ e
    subst e
    have : es = [] := List.length_eq_zero_iff.mp (by rw [← h4.length]; rfl)
    subst this
    exact k Hb H _ _ ok (by simpa using hx') h.2
  · intro _ _ r hr
    have g4 := Good.new (o := .tup (xs ++ ys)) ok hr
    refine k _ _ _ _ g4 ?_ h.2
    simp only [Dt]
    exact ⟨r, _, rfl, upd_same, (h2.append h4).mono g4.eb⟩
theorem de_catT (ha : DE X K Dc Xe a ta da) (hb : DE X K Dc Xe b tb db) : DE X K Dc Xe (.BinOp a .Add b pos) (tOp (rCatA K) ta tb) (dOp dCatT da db) := by obtain rfl := ha.hK; exact de_op op_catA r2_catT ha hb
@[simp] def dCatL (da db : TEd) : TAd := fun sd P F => da sd (fun x => db sd (fun y => match x, y with | .lst ds, .lst es => ds.length + es.length ≤ 100000 ∧ P (ds ++ es) | _, _ => False) F) F
theorem dl_cat (ha : DE X K Dc Xe a ta da) (hb : DE X K Dc Xe b tb db) : DL X K Dc Xe (.BinOp a .Add b pos) (tOp rCat ta tb) (dCatL da db) := ⟨ha.hK, pe_op op_cat ha.pe hb.pe, by
  intro Hb0 H0 F hF Hb H σ sd P Q m hd k
  refine ha.rd Hb0 H0 F hF Hb H σ sd _ _ m hd fun Hb1 H1 x d g1 dx hd1 => ?_
  refine hb.rd Hb0 H0 F hF Hb1 H1 σ sd _ _ (m.step g1) hd1 fun Hb2 H2 y e g2 dy hd2 => ?_
  cases d <;> cases e <;> try exact hd2.elim
  rename_i ds es
  have dx := dx.mono g2.eb
  simp only [Dt] at dx dy
  obtain ⟨p, xs, rfl, h1, h2⟩ := dx
  obtain ⟨q, ys, rfl, h3, h4⟩ := dy
  refine ⟨p, q, xs, ys, rfl, rfl, g2.sub _ _ h1, g2.sub _ _ h3, Evl.sz_of (by rw [h2.length, h4.length]; exact hd2.1), fun r hr => ?_⟩
  have g4 := Good.newH (o := .lst (xs ++ ys)) g2.ok hr
  exact k _ _ r _ _ ((g1.trans g2).trans g4) ((g1.trans g2).notnone hr) (fresh_back g2.sub hr) upd_same (h2.append h4) hd2.2⟩
end
end RW

set_option Elab.async false
set_option linter.all false
set_option maxRecDepth 100000
set_option maxHeartbeats 2000000
namespace RW
open PySem L2
open Evl (Ex fresh_back)

/-! ### contexts -/
structure Ctx (X : Cx) (Xe : XK) : Prop where
  pass : Passes (L2N.CX X.prog X.w) X Xe
  own : PySem.PassesOwn (model X.prog X.w) X.A X.env X.xe
  calm : X.calm = true
  tk : L2N.Takes X (fun cls d _ H => Xe cls d H)
theorem ctx_of {P : Program} {w : World} {K : PySem.W.Frag} {mg : Str → Option Value} {base : Heap} {N : List Str} {qual : Str} {scope : Scope} {f : Addr} {cd : Value} {A : Around} {outer : List Env} {s : Shared} {H : Hp} {E : XK} :
    Ctx (cxOf (L2N.CX P w) P w K mg base N qual scope f cd A outer s H E) E :=
  ⟨L2N.passes_call (L2N.takes_of rfl rfl rfl rfl) (fun _ _ _ _ h => h), passes_of rfl, rfl, L2N.takes_of rfl rfl rfl rfl⟩
open PySem.Spec PyProof.Rows in
theorem okXC {P : Program} {w : World} {K : PySem.W.Frag} {mg : Str → Option Value} {base : Heap} {x qual : Str} {st : Stmt} {f : Addr} {fd : FuncData} {N ps : List Str} {k : Nat} {sp : Sp} (F : Fun K x qual st f fd) (S : FnScope N ps (defScope st)) (len : ∀ vs H Q E, sp vs H Q E → vs.length = ps.length)
    (hbody : ∀ (cdv : Value) (A : Around) (outer : List Env) (s : Shared) (H : Hp) (vs : List V) (Q : VK) (E : XK), fd.code = cdv → Room k (A.deeper (envOfC qual (defScope st) s.heap.objs.size f cdv)) → sp vs H Q E →
      ∃ t, PSs (cxOf (L2N.CX P w) P w K mg base N qual (defScope st) f cdv A outer s H E) (defBody st) t ∧ t { nx := fun _ H' => Q .non H', rt := Q } (start N vs) H) : FnOk P w K mg base (L2N.CX P w) (k + 1) f fd ps sp := by
  obtain ⟨oc, od, kV, doc, pm, an, cdv, ct, osl, rfl, lk, hcd⟩ := F.ex
  exact fn_of lk hcd S len fun A outer s H vs Q E hr hsp => hbody cdv A outer s H vs Q E rfl hr hsp
open PySem.Spec PyProof.Rows in
theorem okXN {P : Program} {w : World} {K : PySem.W.Frag} {mg : Str → Option Value} {base : Heap} {x qual : Str} {st : Stmt} {f : Addr} {fd : FuncData} {N ps : List Str} {k : Nat} {sp : Sp} (F : Fun K x qual st f fd) (S : FnScope N ps (defScope st)) (len : ∀ vs H Q E, sp vs H Q E → vs.length = ps.length)
    (hbody : ∀ (cdv : Value) (A : Around) (outer : List Env) (s : Shared) (H : Hp) (vs : List V) (Q : VK) (E : XK), Room k (A.deeper (envOfC qual (defScope st) s.heap.objs.size f cdv)) → sp vs H Q E →
      ∃ t, PSs (cxOf (L2N.CX P w) P w K mg base N qual (defScope st) f cdv A outer s H E) (defBody st) t ∧ t { nx := fun _ H' => Q .non H', rt := Q } (start N vs) H) : FnOk P w K mg base (L2N.CX P w) (k + 1) f fd ps sp :=
  okXC F S len fun cdv A outer s H vs Q E _ hr hsp => hbody cdv A outer s H vs Q E hr hsp
theorem passLN {X : Cx} : Passes (L2N.CX X.prog X.w) X E0 := fun _ _ _ _ _ _ _ h => by
  obtain ⟨_, _, _, _, _, _, _, _, _, _, _, _, z⟩ := h
  exact z.elim
theorem takes0N {X : Cx} : L2N.Takes X (fun cls d _ H => E0 cls d H) := fun _ _ x => by
  obtain ⟨_, _, _, _, _, _, _, _, _, _, _, _, _, _, _, _, z⟩ := x
  exact z.elim
theorem ctx_blk {X : Cx} {s : Shared} {H : Hp} {scope : Scope} {cenv : Env} {fp : List Addr} (hc : X.calm = true) : Ctx (X.blk s H scope cenv fp) E0 := ⟨passLN, PySem.PassesOwn.never, hc, takes0N⟩

section
variable {K : PySem.W.Frag} {Dc : Gr} {Hb0 Hb1 H0 Hb H Hb' H' : Hp} {σ : St} {sd : Sd}
/-- the ground may be lifted, and let down again -/
theorem Good.lift (g : Good Dc Hb0 H0 Hb H) (e1 : Ex Hb0 Hb1) (e : Ex Hb1 Hb) : Good Dc Hb1 H0 Hb H :=
  ⟨e, g.eh, g.sub, fun a o h => (g.dom a o h).imp (fun ⟨o', q⟩ => ⟨o', e1 _ _ q⟩) id, g.dc, g.dcb, g.tk, g.tb⟩
theorem Good.down (g : Good Dc Hb1 H0 Hb H) (e1 : Ex Hb0 Hb1) (d1 : ∀ a o, Hb1 a = some o → (∃ o', Hb0 a = some o') ∨ Fr0 H0 a) : Good Dc Hb0 H0 Hb H :=
  ⟨e1.trans g.eb, g.eh, g.sub, fun a o h => (g.dom a o h).elim (fun ⟨o', q⟩ => d1 a o' q) .inr, g.dc, g.dcb, g.tk, g.tb⟩
theorem M.lift (m : M K Dc Hb0 H0 Hb H σ sd) (e1 : Ex Hb0 Hb1) (e : Ex Hb1 Hb) : M K Dc Hb1 H0 Hb H σ sd := ⟨m.g.lift e1 e, m.len, m.sl, m.ne, m.nd⟩
theorem M.down (m : M K Dc Hb1 H0 Hb H σ sd) (e1 : Ex Hb0 Hb1) (d1 : ∀ a o, Hb1 a = some o → (∃ o', Hb0 a = some o') ∨ Fr0 H0 a) : M K Dc Hb0 H0 Hb H σ sd := ⟨m.g.down e1 d1, m.len, m.sl, m.ne, m.nd⟩
/-- an object that is not told is written -/
theorem Good.mut {p : Addr} {o : HO} (g : Good Dc Hb0 H0 Hb H) (h0 : H0 p = none) (hb : Hb p = none) (nd : ¬ Dc p) (hk : ∀ o', H p = some o' → PlO o') (ho : NTb o := by exact fun _ h => nomatch h) : Good Dc Hb0 H0 Hb (upd H p o) :=
  ⟨g.eb, fun a u e hd ht => by rw [upd_ne (ne_of_none e h0)]; exact g.eh a u e hd ht, fun a u e => by rw [upd_ne (ne_of_none e hb)]; exact g.sub _ _ e, g.dom,
    fun a z => by
      have na : a ≠ p := fun e => nd (e ▸ z)
      rw [upd_ne na]
      exact g.dc a z, g.dcb, fun a ps e => by
      obtain ⟨ps', e'⟩ := g.tk a ps e
      exact tbl_upd hk e', g.tb.updH hk ho⟩
/-- a slot takes a new list -/
theorem M.setOwn {i : Nat} {p : Addr} {vs : List V} {ds : List D} (m : M K Dc Hb0 H0 Hb H σ sd) (g : Good Dc Hb H Hb' H') (hp : H p = none) (hb : Hb' p = none) (hh : H' p = some (.lst vs)) (hd : Dts K Dc Hb' ds vs) :
    M K Dc Hb0 H0 Hb' H' (σ.set i (some (.ref p))) (sd.set i (.own ds)) := by
  have m1 := m.step g
  have nd : ¬ Dc p := m.g.ndc hp
  have old : ∀ (j : Nat) es q, sd[j]? = some (.own es) → σ[j]? = some (some (.ref q)) → q ≠ p := fun j es q e1 e2 z => by
    obtain ⟨o, h1, q', vs', h2, _, _, _, h5, _⟩ := m.sl j _ e1
    rw [h1] at e2
    cases e2
    cases h2
    rw [z, hp] at h5
    cases h5
  refine ⟨m1.g, by simpa using m1.len, fun j s e => ?_, fun j k es fs q hjk e1 e2 e3 => ?_, nd_set (fun _ h => nomatch h) m.nd⟩
  · by_cases hj : i = j
    · subst hj
      have hl : i < sd.length := by
        have := (List.getElem?_eq_some_iff.mp e).1
        simpa using this
      rw [List.getElem?_set_self hl] at e
      cases e
      exact ⟨_, List.getElem?_set_self (by rw [m.len]; exact hl), p, vs, rfl, m.g.notnone hp, hb, nd, hh, hd⟩
    · rw [List.getElem?_set_ne hj] at e ⊢
      exact m1.sl j s e
  · have lt : ∀ {n : Nat} {z : Slot}, (sd.set i (.own ds))[n]? = some z → n < sd.length := fun e => by
      have := (List.getElem?_eq_some_iff.mp e).1
      simpa using this
    by_cases hj : i = j
    · subst hj
      rw [List.getElem?_set_self (by rw [m.len]; exact lt e1)] at e3
      cases e3
      rw [List.getElem?_set_ne hjk] at e2 ⊢
      exact fun z => old k fs p e2 z rfl
    · rw [List.getElem?_set_ne hj] at e1 e3
      by_cases hk : i = k
      · subst hk
        rw [List.getElem?_set_self (by rw [m.len]; exact lt e2)]
        intro z
        cases z
        exact old j es _ e1 e3 rfl
      · rw [List.getElem?_set_ne hk] at e2 ⊢
        exact m.ne j k es fs q hjk e1 e2 e3
/-- the list in a slot is written -/
theorem M.write {i : Nat} {p : Addr} {vs : List V} {ds es : List D} (m : M K Dc Hb0 H0 Hb H σ sd) (e : sd[i]? = some (.own ds)) (es' : σ[i]? = some (some (.ref p))) (hd : Dts K Dc Hb es vs) :
    M K Dc Hb0 H0 Hb (upd H p (.lst vs)) σ (sd.set i (.own es)) := by
  obtain ⟨o, h1, p', vs', h2, h3, h4, h5, h6, h7⟩ := m.sl i _ e
  rw [h1] at es'
  cases es'
  cases h2
  have hl : i < sd.length := (List.getElem?_eq_some_iff.mp e).1
  refine ⟨m.g.mut h3 h4 h5 (fun o' e => by rw [h6] at e; cases e; exact plo_lst), by simpa using m.len, fun j s ej => ?_, fun j k as bs q hjk e1 e2 e3 => ?_, nd_set (fun _ h => nomatch h) m.nd⟩
  · by_cases hj : i = j
    · subst hj
      rw [List.getElem?_set_self hl] at ej
      cases ej
      exact ⟨_, h1, p, vs, rfl, h3, h4, h5, upd_same, hd⟩
    · rw [List.getElem?_set_ne hj] at ej
      obtain ⟨o', g1, g2⟩ := m.sl j s ej
      refine ⟨o', g1, ?_⟩
      cases s with
      | un => trivial
      | dat d => exact g2
      | own fs =>
        obtain ⟨q, ws, rfl, k2, k3, k4, k5, k6⟩ := g2
        have hq : q ≠ p := fun z => m.ne i j ds fs p hj e ej h1 (by rw [g1, z])
        exact ⟨q, ws, rfl, k2, k3, k4, by rw [upd_ne hq]; exact k5, k6⟩
      | dct fs =>
        obtain ⟨q, ws, rfl, k2, k3, k4, k5, k6⟩ := g2
        have hq : q ≠ p := ne_of k5 h6 (by intro z; cases z)
        exact ⟨q, ws, rfl, k2, k3, k4, by rw [upd_ne hq]; exact k5, k6⟩
  · have get : ∀ {n : Nat} {zs : List D}, (sd.set i (.own es))[n]? = some (.own zs) → ∃ ys, sd[n]? = some (.own ys) := fun {n zs} en => by
      by_cases hn : i = n
      · subst hn
        exact ⟨ds, e⟩
      · rw [List.getElem?_set_ne hn] at en
        exact ⟨zs, en⟩
    obtain ⟨as', e1'⟩ := get e1
    obtain ⟨bs', e2'⟩ := get e2
    exact m.ne j k as' bs' q hjk e1' e2' e3
/-- the list in a slot is told: from now on it is data -/
theorem M.freeze {i : Nat} {ds : List D} (m : M K Dc Hb0 H0 Hb H σ sd) (e : sd[i]? = some (.own ds)) : ∃ p vs, σ[i]? = some (some (.ref p)) ∧ H0 p = none ∧ Hb p = none ∧ ¬ Dc p ∧ H p = some (.lst vs) ∧ Dts K Dc Hb ds vs ∧
    M K Dc Hb0 H0 (upd Hb p (.lst vs)) H σ (sd.set i (.dat (.lst ds))) := by
  obtain ⟨o, h1, p, vs, h2, h3, h4, h5, h6, h7⟩ := m.sl i _ e
  subst h2
  have hl : i < sd.length := (List.getElem?_eq_some_iff.mp e).1
  refine ⟨p, vs, h1, h3, h4, h5, h6, h7, m.g.publish h3 h4 h6 h5, by simpa using m.len, fun j s ej => ?_, fun j k as bs q hjk e1 e2 e3 => ?_, nd_set (fun _ h => nomatch h) m.nd⟩
  · by_cases hj : i = j
    · subst hj
      rw [List.getElem?_set_self hl] at ej
      cases ej
      refine ⟨_, h1, _, rfl, ?_⟩
      simp only [Dt]
      exact ⟨p, vs, rfl, upd_same, h7.mono (Ex.new h4)⟩
    · rw [List.getElem?_set_ne hj] at ej
      obtain ⟨o', g1, g2⟩ := m.sl j s ej
      refine ⟨o', g1, ?_⟩
      cases s with
      | un => trivial
      | dat d =>
        obtain ⟨v, k1, k2⟩ := g2
        exact ⟨v, k1, k2.mono (Ex.new h4)⟩
      | own fs =>
        obtain ⟨q, ws, rfl, k2, k3, k4, k5, k6⟩ := g2
        have hq : q ≠ p := fun z => m.ne i j ds fs p hj e ej h1 (by rw [g1, z])
        exact ⟨q, ws, rfl, k2, by rw [upd_ne hq]; exact k3, k4, k5, k6.mono (Ex.new h4)⟩
      | dct fs =>
        obtain ⟨q, ws, rfl, k2, k3, k4, k5, k6⟩ := g2
        have hq : q ≠ p := ne_of k5 h6 (by intro z; cases z)
        exact ⟨q, ws, rfl, k2, by rw [upd_ne hq]; exact k3, k4, k5, k6.mono (Ex.new h4)⟩
  · have ne : ∀ {n : Nat} {zs : List D}, (sd.set i (.dat (.lst ds)))[n]? = some (.own zs) → sd[n]? = some (.own zs) := fun {n zs} en => by
      by_cases hn : i = n
      · subst hn
        rw [List.getElem?_set_self hl] at en
        cases en
      · rw [List.getElem?_set_ne hn] at en
        exact en
    exact m.ne j k as bs q hjk (ne e1) (ne e2) e3
end

/-! ### statements -/
section
variable {X : Cx} {K : PySem.W.Frag} {Dc : Gr} {Xe : XK} {e a b c : Expr} {es : List Expr} {ta tb te : TE} {da db dd : TEd} {pos : Pos} {tt tu : TT} {dt du : TTd} {st : Stmt} {sts : List Stmt} {ts ts' : TS} {ds ds' : TSd}
@[simp] def dNext : TSd := fun De sd => De.nx sd
@[simp] def dSeq (t u : TSd) : TSd := fun De sd => t { De with nx := u De } sd
theorem rs_seq (h1 : RS K Dc Xe ts ds) (h2 : RS K Dc Xe ts' ds') : RS K Dc Xe (tSeq ts ts') (dSeq ds ds') := by
  intro Hb0 H0 De E ok Hb H σ sd m h
  exact h1 Hb0 H0 { De with nx := ds' De } { E with nx := ts' E } ⟨fun Hb H σ sd m h => h2 Hb0 H0 De E ok Hb H σ sd m h, ok.rt, ok.bk, ok.ct, ok.rs⟩ Hb H σ sd m h
theorem dss_nil (hK : X.K = K := by rfl) : DSs X K Dc Xe [] tNext dNext := ⟨hK, pss_nil, fun _ _ _ _ ok Hb H σ sd m h => ok.nx Hb H σ sd m h⟩
theorem dss_cons (h1 : DS X K Dc Xe st ts ds) (h2 : DSs X K Dc Xe sts ts' ds') : DSs X K Dc Xe (st :: sts) (tSeq ts ts') (dSeq ds ds') := ⟨h1.hK, pss_cons h1.pe h2.pe, rs_seq h1.rd h2.rd⟩
theorem dss_one (h1 : DS X K Dc Xe st ts ds) : DSs X K Dc Xe [st] ts ds := ⟨h1.hK, pss_one h1.pe, h1.rd⟩
theorem ds_pass (hK : X.K = K := by rfl) : DS X K Dc Xe (.Pass pos) tNext dNext := ⟨hK, ps_pass, fun _ _ _ _ ok Hb H σ sd m h => ok.nx Hb H σ sd m h⟩
theorem ds_never (hK : X.K = K := by rfl) : DS X K Dc Xe st tNever (fun _ _ => False) := ⟨hK, ps_never, fun _ _ _ _ _ _ _ _ _ _ h => h⟩
@[simp] def dRet (dd : TEd) : TSd := fun De sd => dd sd De.rt De.rs
theorem ds_ret (h : DE X K Dc Xe e te dd) : DS X K Dc Xe (.Return (some e) pos) (tRet te) (dRet dd) := ⟨h.hK, ps_ret h.pe, by
  intro Hb0 H0 De E ok Hb H σ sd m hd
  exact h.rd Hb0 H0 De.rs ok.rs Hb H σ sd De.rt E.rt m hd fun Hb1 H1 v d g dv hp => ok.rt Hb1 H1 v d (m.g.trans g) dv hp⟩
@[simp] def dDrop (dd : TEd) : TSd := fun De sd => dd sd (fun _ => De.nx sd) De.rs
theorem ds_expr (h : DE X K Dc Xe e te dd) (hs : swapsWith e none pos.line X.env = pure false := by rfl) : DS X K Dc Xe (.Expr e pos) (tDrop te) (dDrop dd) := ⟨h.hK, ps_expr h.pe hs, by
  intro Hb0 H0 De E ok Hb H σ sd m hd
  exact h.rd Hb0 H0 De.rs ok.rs Hb H σ sd _ _ m hd fun Hb1 H1 v d g dv hp => ok.nx Hb1 H1 σ sd (m.step g) hp⟩
@[simp] def dIfS (c : TTd) (t u : TSd) : TSd := fun De sd => c sd (fun b => if b = true then t De sd else u De sd) De.rs
theorem ds_if {l r : List Stmt} (hc : DT X K Dc Xe c tt dt) (h1 : DSs X K Dc Xe l ts ds) (h2 : DSs X K Dc Xe r ts' ds') : DS X K Dc Xe (.If c l r pos) (tIfS tt ts ts') (dIfS dt ds ds') := ⟨hc.hK, ps_if hc.pe h1.pe h2.pe, by
  intro Hb0 H0 De E ok Hb H σ sd m hd
  refine hc.rd Hb0 H0 De.rs ok.rs Hb H σ sd _ _ m hd fun Hb1 H1 b g hp => ?_
  cases b with
  | true => exact h1.rd Hb0 H0 De E ok Hb1 H1 σ sd (m.step g) hp
  | false => exact h2.rd Hb0 H0 De E ok Hb1 H1 σ sd (m.step g) hp⟩
/-! targets -/
@[simp] def dgName (i : Nat) : TGd := fun d sd P => P (sd.set i (.dat d))
theorem dg_name {i : Nat} {x : Str} (hN : X.N.Nodup) (hi : X.N[i]? = some x := by rfl) (hx : Loc X.env.scope x := by first | exact Or.inl rfl | exact Or.inr rfl) (hf : X.fn x = true ∨ X.env.scope.names.lookup x = some .local := by first | exact .inl rfl | exact .inr rfl | assumption) (hK : X.K = K := by rfl) : DG X K Dc (.Name x pos) (gName i) (dgName i) :=
  ⟨hK, pg_name hN hi hx hf, fun _ _ Hb H σ sd d v P Q m hd h k => k Hb H _ _ m.g.ok (m.set hd) h⟩
@[simp] def dgNil : TGsd := fun ds sd P => match ds with | [] => P sd | _ => False
@[simp] def dgCons (t : TGd) (u : TGsd) : TGsd := fun ds sd P => match ds with | d :: r => t d sd (fun sd' => u r sd' P) | _ => False
theorem dgs_nil (hK : X.K = K := by rfl) : DGs X K Dc [] gNil dgNil := ⟨hK, pgs_nil, fun _ _ Hb H σ sd ds vs P Q m hd h k => by
  cases ds with
  | nil => exact ⟨hd.nil, k Hb H σ sd m.g.ok m h⟩
  | cons d r => exact h.elim⟩
theorem dgs_cons {tg : TG} {dg : TGd} {tgs : TGs} {dgs : TGsd} (h1 : DG X K Dc e tg dg) (h2 : DGs X K Dc es tgs dgs) (hs : (assignEach (e :: es) X.env).map (·.2) = assign e X.env :: (assignEach es X.env).map (·.2) := by rfl) : DGs X K Dc (e :: es) (gCons tg tgs) (dgCons dg dgs) :=
  ⟨h1.hK, pgs_cons h1.pe h2.pe hs, fun Hb0 H0 Hb H σ sd ds vs P Q m hd h k => by
    cases ds with
    | nil => exact h.elim
    | cons d r =>
      obtain ⟨v, vr, rfl, hd1, hd2⟩ := hd.cons
      refine ⟨v, vr, rfl, h1.rd Hb0 H0 Hb H σ sd d v _ _ m hd1 h fun Hb1 H1 σ1 sd1 g1 m1 hp => ?_⟩
      exact h2.rd Hb0 H0 Hb1 H1 σ1 sd1 r vr P Q m1 (hd2.mono g1.eb) hp fun Hb2 H2 σ2 sd2 g2 m2 hp2 => k Hb2 H2 σ2 sd2 (g1.trans g2) m2 hp2⟩
@[simp] def dgTup (n : Nat) (u : TGsd) : TGd := fun d sd P => match d with | .tup ds => ds.length = n ∧ u ds sd P | _ => False
theorem dg_tup {k n : Nat} {tgs : TGs} {dgs : TGsd} (hc : X.calm = true) (h : DGs X K Dc es tgs dgs) (hn : (assignEach es X.env).length = n := by rfl) (hst : (assignEach es X.env).findIdx? (·.1) = none := by rfl) : DG X K Dc (.Tuple es k pos) (gTup K n tgs) (dgTup n dgs) := by
  obtain rfl := h.hK
  exact ⟨rfl, pg_tup hc h.pe hn hst, fun Hb0 H0 Hb H σ sd d v P Q m hd hp k => by
    cases d <;> try exact hp.elim
    simp only [Dt] at hd
    obtain ⟨a, xs, rfl, h1, h2⟩ := hd
    exact ⟨a, xs, rfl, SqT.of (m.g.sub _ _ h1), by rw [h2.length]; exact hp.1, h.rd Hb0 H0 Hb H σ sd _ xs P Q m h2 hp.2 k⟩⟩
@[simp] def dAsg (dd : TEd) (dg : TGd) : TSd := fun De sd => dd sd (fun d => dg d sd De.nx) De.rs
theorem rs_asg {tg : TG} {dg : TGd} (h : RE K Dc Xe te dd) (hg : RG K Dc tg dg) : RS K Dc Xe (tAsg te tg) (dAsg dd dg) := by
  intro Hb0 H0 De E ok Hb H σ sd m hd
  refine h Hb0 H0 De.rs ok.rs Hb H σ sd _ _ m hd fun Hb1 H1 v d g dv hp => ?_
  exact hg Hb0 H0 Hb1 H1 σ sd d v _ _ (m.step g) dv hp fun Hb2 H2 σ2 sd2 g2 m2 hp2 => ok.nx Hb2 H2 σ2 sd2 m2 hp2
theorem ds_asg {t : Expr} {tg : TG} {dg : TGd} (h : DE X K Dc Xe e te dd) (hg : DG X K Dc t tg dg) (hs : swapsWithSole [t] e pos.line X.env = pure false := by rfl) (hw : swappedStores [t] e X.env = pure none := by rfl)
    (h1 : (assignEach [t] X.env).map (·.2) = [assign t X.env] := by rfl) : DS X K Dc Xe (.Assign [t] e pos) (tAsg te tg) (dAsg dd dg) := ⟨h.hK, ps_asg h.pe hg.pe hs hw h1, rs_asg h.rd hg.rd⟩
theorem rg_name (i : Nat) : RG K Dc (gName i) (dgName i) := fun _ _ Hb H σ sd d v P Q m hd h k => k Hb H _ _ m.g.ok (m.set hd) h
theorem ds_set (i : Nat) {x : Str} {pos' : Pos} (hN : X.N.Nodup) (h : DE X K Dc Xe e te dd) (hi : X.N[i]? = some x := by rfl) (hx : Loc X.env.scope x := by first | exact Or.inl rfl | exact Or.inr rfl) (hs : swapsWith e (some (.Name x pos')) pos.line X.env = pure false := by rfl) (hf : X.fn x = true ∨ X.env.scope.names.lookup x = some .local := by first | exact .inl rfl | exact .inr rfl | assumption) :
    DS X K Dc Xe (.Assign [.Name x pos'] e pos) (tAsg te (gName i)) (dAsg dd (dgName i)) := ⟨h.hK, ps_set hN hi hx h.pe hs hf, rs_asg h.rd (rg_name i)⟩
/-- a name takes a new list, which may be written further -/
@[simp] def dSetL (i : Nat) (dl : TAd) : TSd := fun De sd => dl sd (fun ds => De.nx (sd.set i (.own ds))) De.rs
theorem rs_setL (i : Nat) {dl : TAd} (h : RL K Dc Xe te dl) : RS K Dc Xe (tAsg te (gName i)) (dSetL i dl) := by
  intro Hb0 H0 De E ok Hb H σ sd m hd
  exact h Hb0 H0 De.rs ok.rs Hb H σ sd _ _ m hd fun Hb1 H1 p vs ds g hp hb hh dv hP => ok.nx Hb1 H1 _ _ (m.setOwn g hp hb hh dv) hP
theorem ds_setL (i : Nat) {x : Str} {pos' : Pos} {dl : TAd} (hN : X.N.Nodup) (h : DL X K Dc Xe e te dl) (hi : X.N[i]? = some x := by rfl) (hx : Loc X.env.scope x := by first | exact Or.inl rfl | exact Or.inr rfl) (hs : swapsWith e (some (.Name x pos')) pos.line X.env = pure false := by rfl) (hf : X.fn x = true ∨ X.env.scope.names.lookup x = some .local := by first | exact .inl rfl | exact .inr rfl | assumption) :
    DS X K Dc Xe (.Assign [.Name x pos'] e pos) (tAsg te (gName i)) (dSetL i dl) := ⟨h.hK, ps_set hN hi hx h.pe hs hf, rs_setL i h.rd⟩
/-- a, b = x, y -/
@[simp] def dPar (i j : Nat) (dr : TAd) : TSd := fun De sd => dr sd (fun ds => match ds with | [x, y] => De.nx ((sd.set i (.dat x)).set j (.dat y)) | _ => False) De.rs
theorem ds_par (i j : Nat) {x y : Str} {tr : TA} {dr : TAd} {px py pt : Pos} {kt k2 pt2} (hc : X.calm = true) (hN : X.N.Nodup) (h : DA X K Dc Xe [a, b] tr dr) (hi : X.N[i]? = some x := by rfl) (hj : X.N[j]? = some y := by rfl) (hij : i ≠ j := by decide)
    (hx : X.env.scope.names.lookup x = some .local := by rfl) (hy : X.env.scope.names.lookup y = some .local := by rfl)
    (hw : swappedStores [.Tuple [.Name x px, .Name y py] kt pt] (.Tuple [a, b] k2 pt2) X.env = pure (some [x, y]) := by rfl)
    (hs : swapsWithSole [.Tuple [.Name x px, .Name y py] kt pt] (.Tuple [a, b] k2 pt2) pos.line X.env = pure false := by rfl) :
    DS X K Dc Xe (.Assign [.Tuple [.Name x px, .Name y py] kt pt] (.Tuple [a, b] k2 pt2) pos) (tPar i j tr) (dPar i j dr) := ⟨h.hK, ps_par hc hN hi hj hij hx hy h.pe hw hs, by
  intro Hb0 H0 De E ok Hb H σ sd m hd
  refine h.rd Hb0 H0 De.rs ok.rs Hb H σ sd _ _ m hd fun Hb1 H1 vs ds g dv hp => ?_
  match ds, dv, hp with
  | [d1, d2], dv, hp =>
    obtain ⟨v1, r1, rfl, h1, hr⟩ := dv.cons
    obtain ⟨v2, r2, rfl, h2, hr2⟩ := hr.cons
    rw [hr2.nil]
    exact ⟨v1, v2, rfl, ok.nx Hb1 H1 _ _ (((m.step g).set h1).set h2) hp⟩⟩
@[simp] def dPar3 (i j l : Nat) (dr : TAd) : TSd := fun De sd => dr sd (fun ds => match ds with | [x, y, z] => De.nx (((sd.set i (.dat x)).set j (.dat y)).set l (.dat z)) | _ => False) De.rs
/-- raise X('..') -/
theorem ds_raise {ts : TS} {cls : Value} (h : PS X st ts) (hr : ∀ D σ H, Xe cls none H → ts D σ H) (hK : X.K = K := by rfl) : DS X K Dc Xe st ts (fun De _ => De.rs cls) := ⟨hK, h, by
  intro Hb0 H0 De E ok Hb H σ sd m hd
  exact hr E σ H (ok.rs Hb H cls m.g hd)⟩
/-- the list in slot i is data from here on -/
@[simp] def dFrz (i : Nat) (ds : TSd) : TSd := fun De sd => match sd[i]? with
  | some (.own es) => ds De (sd.set i (.dat (.lst es)))
  | _ => False
theorem rs_frz (i : Nat) (h : RS K Dc Xe ts ds) : RS K Dc Xe ts (dFrz i ds) := by
  intro Hb0 H0 De E ok Hb H σ sd m hd
  unfold dFrz at hd
  split at hd <;> try exact hd.elim
  rename_i es e
  obtain ⟨p, vs, _, _, _, _, _, _, m1⟩ := m.freeze e
  exact h Hb0 H0 De E ok _ H σ _ m1 hd
theorem dss_frz (i : Nat) (h : DSs X K Dc Xe sts ts ds) : DSs X K Dc Xe sts ts (dFrz i ds) := ⟨h.hK, h.pe, rs_frz i h.rd⟩
theorem ds_frz (i : Nat) (h : DS X K Dc Xe st ts ds) : DS X K Dc Xe st ts (dFrz i ds) := ⟨h.hK, h.pe, rs_frz i h.rd⟩
/-! ### a look at the list in a slot -/
mutual
def tupOnly : D → Bool
  | .non => true
  | .bl _ => true
  | .int _ => true
  | .str _ => true
  | .tup ds => tupOnlys ds
  | .cls _ => true
  | .ty _ => true
  | _ => false
def tupOnlys : List D → Bool
  | [] => true
  | d :: ds => tupOnly d && tupOnlys ds
end
mutual
theorem Dt.without {Hb : Hp} {p : Addr} {ws : List V} (hp : Hb p = some (.lst ws)) {Hc : Hp} (hc : ∀ q, q ≠ p → Hc q = Hb q) : ∀ {d : D} {v : V}, Dt K Dc Hb d v → tupOnly d = true → Dt K Dc Hc d v
  | .non, _, h, _ => by simp only [Dt] at h ⊢; exact h
  | .bl _, _, h, _ => by simp only [Dt] at h ⊢; exact h
  | .int _, _, h, _ => by simp only [Dt] at h ⊢; exact h
  | .str _, _, h, _ => by simp only [Dt] at h ⊢; exact h
  | .tup ds, _, h, t => by
    simp only [Dt] at h ⊢
    obtain ⟨a, xs, e1, e2, e3⟩ := h
    refine ⟨a, xs, e1, ?_, Dts.without hp hc e3 (by simpa only [tupOnly] using t)⟩
    have na : a ≠ p := fun z => by
      subst z
      rw [hp] at e2
      cases e2
    rw [hc a na]
    exact e2
  | .cls _, _, h, _ => by simp only [Dt] at h ⊢; exact h
  | .ty _, _, h, _ => by simp only [Dt] at h ⊢; exact h
  | .lst _, _, _, t => by simp [tupOnly] at t
  | .ins _ _ _, _, _, t => by simp [tupOnly] at t
  | .dice, _, _, t => by simp [tupOnly] at t
  | .scr _, _, _, t => by simp [tupOnly] at t
  | .ktp _, _, _, t => by simp [tupOnly] at t
  | .exc _, _, _, t => by simp [tupOnly] at t
theorem Dts.without {Hb : Hp} {p : Addr} {ws : List V} (hp : Hb p = some (.lst ws)) {Hc : Hp} (hc : ∀ q, q ≠ p → Hc q = Hb q) : ∀ {ds : List D} {vs : List V}, Dts K Dc Hb ds vs → tupOnlys ds = true → Dts K Dc Hc ds vs
  | [], _, h, _ => by rw [h.nil]; exact dts_nil
  | d :: ds, _, h, t => by
    obtain ⟨v, r, rfl, h1, h2⟩ := h.cons
    simp only [tupOnlys, Bool.and_eq_true] at t
    exact dts_cons (Dt.without hp hc h1 t.1) (Dts.without hp hc h2 t.2)
end
/-- the ground without p -/
def wo (Hb : Hp) (p : Addr) : Hp := fun q => if q = p then none else Hb q
theorem wo_ne {Hb : Hp} {p q : Addr} (h : q ≠ p) : wo Hb p q = Hb q := if_neg h
theorem wo_same {Hb : Hp} {p : Addr} : wo Hb p p = none := if_pos rfl
theorem Good.unsee {Hb0 H0 Hb H Hb' H' : Hp} {p : Addr} {vs : List V} (hb : Hb p = none) (hp : H p = some (.lst vs)) (g : Good Dc (upd Hb p (.lst vs)) H Hb' H') : Good Dc Hb H (wo Hb' p) H' := by
  refine ⟨fun a o e => ?_, g.eh, fun a o e => ?_, fun a o e => ?_, g.dc, fun a z => ?_, g.tk, g.tb.less (fun a o e => by unfold wo at e; split at e; cases e; exact e)⟩
  · have na : a ≠ p := ne_of_none e hb
    rw [wo_ne na]
    exact g.eb a o (by rw [upd_ne na]; exact e)
  · have na : a ≠ p := fun z => by rw [z, wo_same] at e; cases e
    rw [wo_ne na] at e
    exact g.sub a o e
  · have na : a ≠ p := fun z => by rw [z, wo_same] at e; cases e
    rw [wo_ne na] at e
    rcases g.dom a o e with ⟨o', q⟩ | q
    · rw [upd_ne na] at q
      exact .inl ⟨o', q⟩
    · exact .inr q
  · by_cases na : a = p
    · rw [na, wo_same]
    · rw [wo_ne na]
      exact g.dcb a z
@[simp] def dPeek (i : Nat) (dd : TEd) : TEd := fun sd P F => match sd[i]? with
  | some (.own es) => dd (sd.set i (.dat (.lst es))) (fun d => tupOnly d = true ∧ P d) F
  | _ => False
theorem re_peek (i : Nat) (h : RE K Dc Xe te dd) : RE K Dc Xe te (dPeek i dd) := by
  intro Hb0 H0 F hF Hb H σ sd P Q m hd k
  unfold dPeek at hd
  split at hd <;> try exact hd.elim
  rename_i es e
  obtain ⟨p, vs, h1, h2, h3, h4, h5, h6, m1⟩ := m.freeze e
  refine h Hb0 H0 F hF _ H σ _ _ _ m1 hd fun Hb1 H1 v d g dv hp => ?_
  have q : Hb1 p = some (.lst vs) := g.eb p _ upd_same
  exact k _ H1 v d (Good.unsee (Hb0 := Hb0) (H0 := H0) h3 h5 g) (dv.without q (fun q hq => wo_ne hq) hp.1) hp.2
theorem de_peek (i : Nat) (h : DE X K Dc Xe e te dd) : DE X K Dc Xe e te (dPeek i dd) := ⟨h.hK, h.pe, re_peek i h.rd⟩
@[simp] def dPeekT (i : Nat) (dt : TTd) : TTd := fun sd P F => match sd[i]? with
  | some (.own es) => dt (sd.set i (.dat (.lst es))) P F
  | _ => False
theorem rt_peek (i : Nat) (h : RT K Dc Xe tt dt) : RT K Dc Xe tt (dPeekT i dt) := by
  intro Hb0 H0 F hF Hb H σ sd P Q m hd k
  unfold dPeekT at hd
  split at hd <;> try exact hd.elim
  rename_i es e
  obtain ⟨p, vs, h1, h2, h3, h4, h5, h6, m1⟩ := m.freeze e
  exact h Hb0 H0 F hF _ H σ _ _ _ m1 hd fun Hb1 H1 b g hp => k _ H1 b (Good.unsee (Hb0 := Hb0) (H0 := H0) h3 h5 g) hp
theorem dt_peek (i : Nat) (h : DT X K Dc Xe e tt dt) : DT X K Dc Xe e tt (dPeekT i dt) := ⟨h.hK, h.pe, rt_peek i h.rd⟩
/-! ### xs.append(e), xs in slot i -/
@[simp] def dApp (i : Nat) (dd : TEd) : TSd := fun De sd => match sd[i]? with
  | some (.own ds) => dd sd (fun d => ds.length < 100000 ∧ De.nx (sd.set i (.own (ds ++ [d])))) De.rs
  | _ => False
theorem rs_app {i : Nat} (h : RE K Dc Xe te dd) : RS K Dc Xe (tDrop (tBM K "list" rAppend (tVar i) (tCons te tNil))) (dApp i dd) := by
  intro Hb0 H0 De E ok Hb H σ sd m hd
  unfold dApp at hd
  split at hd <;> try exact hd.elim
  rename_i ds e
  obtain ⟨o, h1, p, vs, h2, h3, h4, h5, h6, h7⟩ := m.sl i _ e
  subst h2
  refine ⟨.ref p, h1, .inl ⟨rfl, _, SqL.of h6⟩, ?_⟩
  refine h Hb0 H0 De.rs ok.rs Hb H σ sd _ _ m hd fun Hb1 H1 v d g dv hp => ?_
  have m1 := m.step g
  refine ⟨p, vs, v, rfl, rfl, g.eh _ _ h6 h5 (fun _ h => nomatch h), Evl.sz_lt (by rw [h7.length]; exact hp.1), ?_⟩
  exact ok.nx Hb1 _ σ _ (m1.write e h1 ((h7.mono g.eb).append (dts_cons dv dts_nil))) hp.2
end
end RW

set_option Elab.async false
set_option linter.all false
set_option maxRecDepth 100000
set_option maxHeartbeats 2000000
namespace RW
open PySem L2
open Evl (Ex fresh_back)

/-! ### what is walked -/
def Wk (K : PySem.W.Frag) (Dc : Gr) (J : It) (Hb1 : Hp) (ds : List D) : Prop := ∀ Hb H, Ok Dc Hb H → Ex Hb1 Hb →
  (∀ i d, ds[i]? = some d → J.go i H ∧ ∀ x H', J.yld i H x H' → ∃ Hb', Good Dc Hb H Hb' H' ∧ Dt K Dc Hb' d x) ∧ J.stop ds.length H
def RI (K : PySem.W.Frag) (Dc : Gr) (Xe : XK) (wi : TI) (td : TAd) : Prop := ∀ (Hb0 H0 : Hp) (F : XF), XOk Dc Xe Hb0 H0 F → ∀ (Hb H : Hp) (σ : St) (sd : Sd) (P : List D → Prop) (R : It → Hp → Prop), M K Dc Hb0 H0 Hb H σ sd → td sd P F →
  (∀ Hb' H' J ds, Good Dc Hb H Hb' H' → Wk K Dc J Hb' ds → P ds → R J H') → wi σ H R
structure DI (X : Cx) (K : PySem.W.Frag) (Dc : Gr) (Xe : XK) (tg iter : Expr) (wi : TI) (td : TAd) : Prop where
  hK : X.K = K
  pe : PI X tg iter wi
  rd : RI K Dc Xe wi td
section
variable {X : Cx} {K : PySem.W.Frag} {Dc : Gr} {Xe : XK} {e a b c tg : Expr} {es : List Expr} {ta tb te : TE} {da db dd : TEd} {pos : Pos} {tt tu : TT} {dt du : TTd} {st : Stmt} {sts : List Stmt} {ts ts' : TS} {ds ds' : TSd}
@[simp] def diL (dd : TEd) : TAd := fun sd P F => dd sd (fun x => match x with | .lst ds => P ds | _ => False) F
@[simp] def diT (dd : TEd) : TAd := fun sd P F => dd sd (fun x => match x with | .tup ds => P ds | _ => False) F
theorem di_list (h : DE X K Dc Xe e te dd) : DI X K Dc Xe tg e (iList K te) (diL dd) := by
  obtain rfl := h.hK
  exact ⟨rfl, pi_list h.pe, by
  intro Hb0 H0 F hF Hb H σ sd P R m hd k
  refine h.rd Hb0 H0 F hF Hb H σ sd _ _ m hd fun Hb1 H1 x d g1 dx hd1 => ?_
  cases d <;> try exact hd1.elim
  rename_i ds
  simp only [Dt] at dx
  obtain ⟨p, xs, rfl, h1, h2⟩ := dx
  refine ⟨p, rfl, ⟨xs, SqL.of (g1.sub _ _ h1)⟩, k Hb1 H1 _ ds g1 (fun Hb H ok ex => ⟨fun i d e => ?_, ?_⟩) hd1⟩
  · obtain ⟨v, hv, dv⟩ := h2.get e
    have hp : SqL X.K H p xs := SqL.of (ok.sub _ _ (ex _ _ h1))
    refine ⟨⟨xs, v, hp, hv⟩, fun x H' y => ?_⟩
    obtain ⟨e1, e2⟩ := y
    subst e1
    have := e2 xs hp
    rw [hv] at this
    cases this
    exact ⟨Hb, ok, dv.mono ex⟩
  · exact ⟨xs, SqL.of (ok.sub _ _ (ex _ _ h1)), by rw [h2.length]; exact Nat.le_refl _⟩⟩
theorem di_tup (h : DE X K Dc Xe e te dd) : DI X K Dc Xe tg e (iTup K te) (diT dd) := by
  obtain rfl := h.hK
  exact ⟨rfl, pi_tup h.pe, by
  intro Hb0 H0 F hF Hb H σ sd P R m hd k
  refine h.rd Hb0 H0 F hF Hb H σ sd _ _ m hd fun Hb1 H1 x d g1 dx hd1 => ?_
  cases d <;> try exact hd1.elim
  rename_i ds
  simp only [Dt] at dx
  obtain ⟨p, xs, rfl, h1, h2⟩ := dx
  refine ⟨p, rfl, ⟨xs, SqT.of (g1.sub _ _ h1)⟩, k Hb1 H1 _ ds g1 (fun Hb H ok ex => ⟨fun i d e => ?_, ?_⟩) hd1⟩
  · obtain ⟨v, hv, dv⟩ := h2.get e
    have hp : SqT X.K H p xs := SqT.of ((ex.trans ok.sub) _ _ h1)
    refine ⟨⟨xs, v, hp, hv⟩, fun x H' y => ?_⟩
    obtain ⟨e1, e2⟩ := y
    subst e1
    have := e2 xs hp
    rw [hv] at this
    cases this
    exact ⟨Hb, ok, dv.mono ex⟩
  · exact ⟨xs, SqT.of ((ex.trans ok.sub) _ _ h1), by rw [h2.length]; exact Nat.le_refl _⟩⟩
def rngD (lo : Int) (n : Nat) : List D := (List.range n).map fun (i : Nat) => D.int (lo + (i : Int))
theorem rngD_len (lo : Int) (n : Nat) : (rngD lo n).length = n := by unfold rngD; rw [List.length_map, List.length_range]
theorem rngD_get {lo : Int} {n i : Nat} {d : D} (h : (rngD lo n)[i]? = some d) : i < n ∧ d = .int (lo + (i : Int)) := by
  unfold rngD at h
  rw [List.getElem?_map] at h
  cases q : (List.range n)[i]? with
  | none => rw [q] at h; cases h
  | some j =>
    rw [q] at h
    have h1 := (List.getElem?_eq_some_iff.mp q)
    obtain ⟨h1, h2⟩ := h1
    rw [List.getElem_range] at h2
    subst h2
    rw [List.length_range] at h1
    exact ⟨h1, (Option.some.inj h).symm⟩
theorem wk_range (lo : Int) (n : Nat) (Hb1 : Hp) : Wk K Dc (Itr lo n) Hb1 (rngD lo n) := fun Hb H ok ex => ⟨fun i d e => by
  obtain ⟨h1, h2⟩ := rngD_get e
  refine ⟨h1, fun x H' y => ?_⟩
  obtain ⟨e1, e2⟩ := y
  subst e1 e2 h2
  exact ⟨Hb, ok, dt_int⟩, by rw [rngD_len]; exact Nat.le_refl _⟩
@[simp] def int1 : List D → Option Int
  | [.int j] => some j
  | _ => none
@[simp] def int2 : List D → Option (Int × Int)
  | [.int i, .int j] => some (i, j)
  | _ => none
theorem int1_of {Hb : Hp} {ds : List D} {vs : List V} {j : Int} (h : Dts K Dc Hb ds vs) (e : int1 ds = some j) : vs = [.int j] := by
  unfold int1 at e
  split at e
  · cases e
    obtain ⟨v, r, rfl, h1, hr⟩ := h.cons
    rw [hr.nil]
    simp only [Dt] at h1
    rw [h1]
  · cases e
theorem int2_of {Hb : Hp} {ds : List D} {vs : List V} {i j : Int} (h : Dts K Dc Hb ds vs) (e : int2 ds = some (i, j)) : vs = [.int i, .int j] := by
  unfold int2 at e
  split at e
  · cases e
    obtain ⟨v, r, rfl, h1, hr⟩ := h.cons
    obtain ⟨v2, r2, rfl, h2, hr2⟩ := hr.cons
    rw [hr2.nil]
    simp only [Dt] at h1 h2
    rw [h1, h2]
  · cases e
@[simp] def diR1 (dr : TAd) : TAd := fun sd P F => dr sd (fun ds => match int1 ds with | some j => (j < 1152921504606846976 ∧ -1152921504606846976 < j) ∧ P (rngD 0 j.toNat) | none => False) F
@[simp] def diR2 (dr : TAd) : TAd := fun sd P F => dr sd (fun ds => match int2 ds with | some (i, j) => (-1152921504606846976 < i ∧ i < 1152921504606846976 ∧ -1152921504606846976 < j ∧ j < 1152921504606846976) ∧ P (rngD i (j - i).toNat) | none => False) F
theorem di_range1 {p : Pos} {tr : TA} {dr : TAd} (hg : Gl X "range") (hm : X.mg "range" = none) (h : DA X K Dc Xe [a] tr dr) (hs : starEach [a] X.env = [(false, eval a X.env)] := by rfl) : DI X K Dc Xe tg (.Call (.Name "range" p) [a] [] pos) (iRng1 tr) (diR1 dr) := ⟨h.hK, pi_range1 hg hm h.pe hs, by
  intro Hb0 H0 F hF Hb H σ sd P R m hd k
  refine h.rd Hb0 H0 F hF Hb H σ sd _ _ m hd fun Hb1 H1 vs ds g1 dx hd1 => ?_
  split at hd1 <;> try exact hd1.elim
  rename_i j e
  rw [int1_of dx e]
  exact ⟨j, rfl, by omega, by omega, k Hb1 H1 _ _ g1 (wk_range 0 j.toNat Hb1) hd1.2⟩⟩
theorem di_range2 {p : Pos} {tr : TA} {dr : TAd} (hg : Gl X "range") (hm : X.mg "range" = none) (h : DA X K Dc Xe [a, b] tr dr) (hs : starEach [a, b] X.env = [(false, eval a X.env), (false, eval b X.env)] := by rfl) (hs2 : starEach [b] X.env = [(false, eval b X.env)] := by rfl) : DI X K Dc Xe tg (.Call (.Name "range" p) [a, b] [] pos) (iRng2 tr) (diR2 dr) := ⟨h.hK, pi_range2 hg hm h.pe hs hs2, by
  intro Hb0 H0 F hF Hb H σ sd P R m hd k
  refine h.rd Hb0 H0 F hF Hb H σ sd _ _ m hd fun Hb1 H1 vs ds g1 dx hd1 => ?_
  split at hd1 <;> try exact hd1.elim
  rename_i i j e
  rw [int2_of dx e]
  exact ⟨i, j, rfl, ⟨by omega, by omega, by omega, by omega⟩, k Hb1 H1 _ _ g1 (wk_range i (j - i).toNat Hb1) hd1.2⟩⟩
def enumD (ds : List D) : List D := ds.mapIdx fun i d => .tup [.int (i : Int), d]
@[simp] def lst1 : List D → Option (List D)
  | [.lst es] => some es
  | _ => none
theorem lst1_of {Hb : Hp} {ds es : List D} {vs : List V} (h : Dts K Dc Hb ds vs) (e : lst1 ds = some es) : ∃ v, vs = [v] ∧ Dt K Dc Hb (.lst es) v := by
  unfold lst1 at e
  split at e
  · cases e
    obtain ⟨v, r, rfl, h1, hr⟩ := h.cons
    rw [hr.nil]
    exact ⟨v, rfl, h1⟩
  · cases e
@[simp] def diE (dr : TAd) : TAd := fun sd P F => dr sd (fun ds => match lst1 ds with | some es => P (enumD es) | none => False) F
theorem di_enum {p tpos : Pos} {elts : List Expr} {kk : Nat} {tr : TA} {dr : TAd} (hg : Gl X "enumerate") (hm : X.mg "enumerate" = none) (h : DA X K Dc Xe [e] tr dr) (hs : starEach [e] X.env = [(false, eval e X.env)] := by rfl) :
    DI X K Dc Xe (.Tuple elts kk tpos) (.Call (.Name "enumerate" p) [e] [] pos) (iEnum K tr) (diE dr) := by
  obtain rfl := h.hK
  exact ⟨rfl, pi_enum hg hm h.pe hs, by
  intro Hb0 H0 F hF Hb H σ sd P R m hd k
  refine h.rd Hb0 H0 F hF Hb H σ sd _ _ m hd fun Hb1 H1 vs ds g1 dx hd1 => ?_
  split at hd1 <;> try exact hd1.elim
  · rename_i es e
    obtain ⟨v, rfl, h1⟩ := lst1_of dx e
    simp only [Dt] at h1
    obtain ⟨p, xs, rfl, h1, h2⟩ := h1
    refine ⟨p, xs, rfl, SqL.of (g1.sub _ _ h1), k Hb1 H1 _ _ g1 (fun Hb H ok ex => ⟨fun i d e => ?_, ?_⟩) hd1⟩
    · unfold enumD at e
      rw [List.getElem?_mapIdx] at e
      cases q : es[i]? with
      | none => rw [q] at e; cases e
      | some d0 =>
        rw [q] at e
        have e := Option.some.inj e
        obtain ⟨v, hv, dv⟩ := h2.get q
        have hp : SqL X.K H p xs := SqL.of (ok.sub _ _ (ex _ _ h1))
        refine ⟨⟨xs, v, hp, hv⟩, fun x H' y => ?_⟩
        obtain ⟨T, x', rfl, hT, rfl, e2⟩ := y
        have := e2 xs hp
        rw [hv] at this
        cases this
        have g2 := Good.new (o := .tup [.int (i : Nat), v]) ok hT
        refine ⟨_, g2, ?_⟩
        rw [← e]
        simp only [Dt]
        exact ⟨T, _, rfl, upd_same, dts_cons dt_int (dts_cons ((dv.mono ex).mono g2.eb) dts_nil)⟩
    · refine ⟨xs, SqL.of (ok.sub _ _ (ex _ _ h1)), ?_⟩
      unfold enumD
      rw [List.length_mapIdx, h2.length]
      exact Nat.le_refl _⟩

/-! ### for -/
def dFor (di : TAd) (dg : TGd) (db : TSd) : TSd := fun De sd => di sd (fun xs => ∃ I : Nat → Sd → Prop, I 0 sd ∧
  (∀ i d sd', xs[i]? = some d → I i sd' → dg d sd' (fun sd2 => db { De with nx := I (i + 1), ct := I (i + 1), bk := De.nx } sd2)) ∧ (∀ sd', I xs.length sd' → De.nx sd')) De.rs
theorem rs_for {wi : TI} {di : TAd} {tg : TG} {dg : TGd} (hi : RI K Dc Xe wi di) (hg : RG K Dc tg dg) (hb : RS K Dc Xe ts ds) : RS K Dc Xe (tFor wi tg ts) (dFor di dg ds) := by
  intro Hb0 H0 De E ok Hb H σ sd m hd
  refine hi Hb0 H0 De.rs ok.rs Hb H σ sd _ _ m hd fun Hb1 H1 J xs g1 wk hp => ?_
  obtain ⟨I, i0, turn, fin⟩ := hp
  have m1 := m.step g1
  have e01 : Ex Hb0 Hb1 := m.g.eb.trans g1.eb
  have d01 : ∀ a o, Hb1 a = some o → (∃ o', Hb0 a = some o') ∨ Fr0 H0 a := m1.g.dom
  refine ⟨fun i mm σ' H' => ∃ Hb' sd', M K Dc Hb1 H0 Hb' H' σ' sd' ∧ i ≤ xs.length ∧ mm = xs.length - i ∧ I i sd', ⟨xs.length, Hb1, sd, m1.lift e01 (Ex.refl _), Nat.zero_le _, rfl, i0⟩, ?_⟩
  rintro i mm σ' H' ⟨Hb', sd', m', hi', rfl, inv⟩
  obtain ⟨w1, w2⟩ := wk Hb' H' m'.g.ok m'.g.eb
  by_cases hlt : i < xs.length
  · obtain ⟨go, yl⟩ := w1 i xs[i] (by simp [hlt])
    refine .inr ⟨go, fun σ2 H2 => ∃ Hb2 sd2, M K Dc Hb1 H0 Hb2 H2 σ2 sd2 ∧ I (i + 1) sd2, fun σ2 H2 ⟨Hb2, sd2, m2, q2⟩ => ⟨xs.length - (i + 1), by omega, Hb2, sd2, m2, hlt, rfl, q2⟩, fun x H2 y => ?_⟩
    obtain ⟨Hb2, g2, dx⟩ := yl x H2 y
    refine hg Hb1 H0 Hb2 H2 σ' sd' xs[i] x _ _ (m'.step g2) dx (turn i xs[i] sd' (by simp [hlt]) inv) fun Hb3 H3 σ3 sd3 g3 m3 hp3 => ?_
    refine hb Hb1 H0 { De with nx := I (i + 1), ct := I (i + 1), bk := De.nx } { E with nx := fun σ2 H2 => ∃ Hb2 sd2, M K Dc Hb1 H0 Hb2 H2 σ2 sd2 ∧ I (i + 1) sd2, ct := fun σ2 H2 => ∃ Hb2 sd2, M K Dc Hb1 H0 Hb2 H2 σ2 sd2 ∧ I (i + 1) sd2, bk := E.nx } ⟨fun Hb H σ sd m h => ⟨Hb, sd, m, h⟩, fun Hb H v d g dv h => ok.rt Hb H v d (g.down e01 d01) dv h, fun Hb H σ sd m h => ok.nx Hb H σ sd (m.down e01 d01) h, fun Hb H σ sd m h => ⟨Hb, sd, m, h⟩, fun Hb H c g h => ok.rs Hb H c (g.down e01 d01) h⟩ Hb3 H3 σ3 sd3 m3 hp3
  · have e : i = xs.length := by omega
    subst e
    exact .inl ⟨w2, ok.nx Hb' H' σ' sd' (m'.down e01 d01) (fin sd' inv)⟩
theorem ds_for {iter : Expr} {wi : TI} {di : TAd} {g : TG} {dg : TGd} (cx : Ctx X Xe) (hi : DI X K Dc Xe tg iter wi di) (hg : DG X K Dc tg g dg) (hb : DSs X K Dc Xe sts ts ds) (hs : ∀ x, foldedSetIterable iter X.env x = pure x := by intro _; rfl) : DS X K Dc Xe (.For tg iter sts [] pos) (tFor wi g ts) (dFor di dg ds) :=
  ⟨hi.hK, ps_for cx.own cx.calm hi.pe hg.pe hb.pe hs, rs_for hi.rd hg.rd hb.rd⟩
/-! ### while -/
def dWhile (dt : TTd) (db : TSd) : TSd := fun De sd => ∃ W : Nat → Sd → Prop, (∃ m, W m sd) ∧ ∀ m sd, W m sd → dt sd (fun b => if b = true then ∃ N : Sd → Prop, (∀ sd', N sd' → ∃ m', m' < m ∧ W m' sd') ∧ db { De with nx := N, ct := N, bk := De.nx } sd else De.nx sd) De.rs
theorem rs_while (hc : RT K Dc Xe tt dt) (hb : RS K Dc Xe ts ds) : RS K Dc Xe (tWhile tt ts) (dWhile dt ds) := by
  intro Hb0 H0 De E ok Hb H σ sd m hd
  obtain ⟨W, ⟨m0, w0⟩, turn⟩ := hd
  refine ⟨fun n σ' H' => ∃ Hb' sd', M K Dc Hb0 H0 Hb' H' σ' sd' ∧ W n sd', ⟨m0, Hb, sd, m, w0⟩, ?_⟩
  rintro n σ' H' ⟨Hb', sd', m', w'⟩
  refine hc Hb0 H0 De.rs ok.rs Hb' H' σ' sd' _ _ m' (turn n sd' w') fun Hb2 H2 b g2 hp => ?_
  cases b with
  | true =>
    obtain ⟨N, hN, hp⟩ := hp
    rw [if_pos rfl]
    refine ⟨fun σ2 H2 => ∃ Hb2 sd2, M K Dc Hb0 H0 Hb2 H2 σ2 sd2 ∧ N sd2, fun σ2 H2 ⟨Hb2, sd2, m2, q2⟩ => ?_, ?_⟩
    · obtain ⟨m', hm, hw⟩ := hN sd2 q2
      exact ⟨m', hm, Hb2, sd2, m2, hw⟩
    · exact hb Hb0 H0 { De with nx := N, ct := N, bk := De.nx } { E with nx := fun σ2 H2 => ∃ Hb2 sd2, M K Dc Hb0 H0 Hb2 H2 σ2 sd2 ∧ N sd2, ct := fun σ2 H2 => ∃ Hb2 sd2, M K Dc Hb0 H0 Hb2 H2 σ2 sd2 ∧ N sd2, bk := E.nx } ⟨fun Hb H σ sd m h => ⟨Hb, sd, m, h⟩, ok.rt, fun Hb H σ sd m h => ok.nx Hb H σ sd m h, fun Hb H σ sd m h => ⟨Hb, sd, m, h⟩, ok.rs⟩ Hb2 H2 σ' sd' (m'.step g2) hp
  | false =>
    rw [if_neg Bool.false_ne_true]
    exact ok.nx Hb2 H2 σ' sd' (m'.step g2) hp
theorem ds_while (cx : Ctx X Xe) (hc : DT X K Dc Xe c tt dt) (hb : DSs X K Dc Xe sts ts ds) : DS X K Dc Xe (.While c sts [] pos) (tWhile tt ts) (dWhile dt ds) := ⟨hc.hK, ps_while cx.own hc.pe hb.pe, rs_while hc.rd hb.rd⟩

/-! ### calls -/
abbrev Ctr := List D → (D → Prop) → XF → Prop
def spD (K : PySem.W.Frag) (C : Ctr) : Sp := fun vs H Q E => ∃ (Dc : Gr) (Hb : Hp) (ds : List D) (P : D → Prop) (F : XF), Ok Dc Hb H ∧ Dts K Dc Hb ds vs ∧ C ds P F ∧
  (∀ Hb' H' v d, Good Dc Hb H Hb' H' → Dt K Dc Hb' d v → P d → Q v H') ∧ (∀ Hb' H' c, Good Dc Hb H Hb' H' → F c → E c none H')
@[simp] def dCall (C : Ctr) (dr : TAd) : TEd := fun sd P F => dr sd (fun ds => C ds P F) F
theorem re_call {C : Ctr} {tr : TA} {dr : TAd} (ha : RA K Dc Xe tr dr) : RE K Dc Xe (tCall (spD K C) [] Xe tr) (dCall C dr) := by
  intro Hb0 H0 F hF Hb H σ sd P Q m hd k
  refine ha Hb0 H0 F hF Hb H σ sd _ _ m hd fun Hb1 H1 vs ds g1 dx hd1 => ?_
  rw [List.append_nil]
  exact ⟨Dc, Hb1, ds, P, F, g1.ok, dx, hd1, fun Hb2 H2 v d g2 dv hp => k Hb2 H2 v d (g1.trans g2) dv hp, fun Hb2 H2 c g2 hf => hF Hb2 H2 c (m.g.trans (g1.trans g2)) hf⟩
/-- a def of the text, by its name, its parameters, its contract -/
structure FnD (P : Program) (w : World) (K : PySem.W.Frag) (mg : Str → Option Value) (base : Heap) (k : Nat) (x : Str) (ps : List Str) (C : Ctr) : Prop where
  ex : ∃ (f : Addr) (fd : FuncData), FnOk P w K mg base (L2N.CX P w) k f fd ps (spD K C) ∧ mg x = some (.ref f) ∧ PySem.W.keepIn K (.ref f) = true ∧ Binds K fd ps []
theorem FnD.mono {P : Program} {w : World} {mg : Str → Option Value} {base : Heap} {j k : Nat} {x : Str} {ps : List Str} {C : Ctr} (F : FnD P w K mg base j x ps C) (h : j ≤ k) : FnD P w K mg base k x ps C := by
  obtain ⟨f, fd, a, b⟩ := F.ex
  exact ⟨f, fd, a.mono h, b⟩
theorem FnD.imp {P : Program} {w : World} {mg : Str → Option Value} {base : Heap} {k : Nat} {x : Str} {ps : List Str} {C C' : Ctr} (F : FnD P w K mg base k x ps C) (h : ∀ ds P F, C' ds P F → C ds P F) : FnD P w K mg base k x ps C' := by
  obtain ⟨f, fd, a, b⟩ := F.ex
  exact ⟨f, fd, a.imp fun vs H Q E ⟨Dc, Hb, ds, P, F, h1, h2, h3, h4⟩ => ⟨Dc, Hb, ds, P, F, h1, h2, h _ _ _ h3, h4⟩, b⟩
theorem de_call {k : Nat} {x : Str} {ps : List Str} {C : Ctr} {tr : TA} {dr : TAd} {p : Pos} (cx : Ctx X Xe) (F : FnD X.prog X.w K X.mg X.base k x ps C) (hr : Room k X.A) (ha : DA X K Dc Xe (e :: es) tr dr) (hg : Gl X x := by rfl) (hdb : (x == ("__debug__" : Str)) = false := by decide)
    (he : starEach (e :: es) X.env = (false, eval e X.env) :: starEach es X.env := by rfl) (hpl : (backTo pos (starEach es X.env)).any (·.1) = false := by rfl) : DE X K Dc Xe (.Call (.Name x p) (e :: es) [] pos) (tCall (spD K C) [] Xe tr) (dCall C dr) := by
  obtain rfl := ha.hK
  obtain ⟨f, fd, F, hm, hk, hb⟩ := F.ex
  exact ⟨rfl, pe_call F hr hg hm hk hb .nil cx.pass ha.pe hdb he hpl, re_call ha.rd⟩
theorem de_call0 {k : Nat} {x : Str} {ps : List Str} {C : Ctr} {p : Pos} (cx : Ctx X Xe) (F : FnD X.prog X.w K X.mg X.base k x ps C) (hr : Room k X.A) (hg : Gl X x := by rfl) (hdb : (x == ("__debug__" : Str)) = false := by decide) (hK : X.K = K := by rfl) : DE X K Dc Xe (.Call (.Name x p) [] [] pos) (tCall (spD K C) [] Xe tNil) (dCall C dNil) := by
  obtain rfl := hK
  obtain ⟨f, fd, F, hm, hk, hb⟩ := F.ex
  exact ⟨rfl, pe_call0 F hr hg hm hk hb .nil cx.pass hdb, re_call ra_nil⟩
end
/-! ### a def's body -/
@[simp] def startD (N : List Str) (ds : List D) : Sd := ds.map Slot.dat ++ List.replicate (N.length - ds.length) Slot.un
theorem start_ok {K : PySem.W.Frag} {Dc : Gr} {Hb H : Hp} {N : List Str} {ds : List D} {vs : List V} (ok : Ok Dc Hb H) (h : Dts K Dc Hb ds vs) : M K Dc Hb H Hb H (L2.start N vs) (startD N ds) := by
  have hl := h.length
  refine ⟨ok, ?_, fun i s e => ?_, fun i j as bs p hij e1 _ _ _ => ?_, fun i j as bs e1 _ => ?_⟩
  · unfold L2.start startD
    rw [List.length_append, List.length_append, List.length_map, List.length_map, List.length_replicate, List.length_replicate, hl]
  · unfold startD at e
    by_cases hi : i < ds.length
    · rw [List.getElem?_append_left (by rw [List.length_map]; exact hi), List.getElem?_map] at e
      cases q : ds[i]? with
      | none => rw [q] at e; cases e
      | some d =>
        rw [q] at e
        cases e
        obtain ⟨v, hv, dv⟩ := h.get q
        refine ⟨some v, ?_, v, rfl, dv⟩
        unfold L2.start
        rw [List.getElem?_append_left (by rw [List.length_map, hl]; exact hi), List.getElem?_map, hv]
        rfl
    · rw [List.getElem?_append_right (by rw [List.length_map]; omega), List.length_map] at e
      obtain ⟨h1, h2⟩ := List.getElem?_eq_some_iff.mp e
      rw [List.getElem_replicate] at h2
      subst h2
      rw [List.length_replicate] at h1
      refine ⟨none, ?_, trivial⟩
      unfold L2.start
      rw [List.getElem?_append_right (by rw [List.length_map]; omega), List.length_map, hl, List.getElem?_replicate, if_pos h1]
  · unfold startD at e1
    by_cases hi : i < ds.length
    · rw [List.getElem?_append_left (by rw [List.length_map]; exact hi), List.getElem?_map] at e1
      cases q : ds[i]? with
      | none => rw [q] at e1; cases e1
      | some d => rw [q] at e1; cases e1
    · rw [List.getElem?_append_right (by rw [List.length_map]; omega), List.length_map] at e1
      obtain ⟨h1, h2⟩ := List.getElem?_eq_some_iff.mp e1
      rw [List.getElem_replicate] at h2
      cases h2
  · unfold startD at e1
    by_cases hi : i < ds.length
    · rw [List.getElem?_append_left (by rw [List.length_map]; exact hi), List.getElem?_map] at e1
      cases q : ds[i]? with
      | none => rw [q] at e1; cases e1
      | some d => rw [q] at e1; cases e1
    · rw [List.getElem?_append_right (by rw [List.length_map]; omega), List.length_map] at e1
      obtain ⟨h1, h2⟩ := List.getElem?_eq_some_iff.mp e1
      rw [List.getElem_replicate] at h2
      cases h2
/-- the ends of a def's body -/
abbrev fnEnds (P : D → Prop) (F : XF) : DEnds := ⟨fun _ => P .non, P, fun _ => False, fun _ => False, F⟩
section
variable {P : Program} {w : World} {K : PySem.W.Frag} {mg : Str → Option Value} {base : Heap}
/-- FnOk of a def by its body -/
theorem fnOkD {x qual : Str} {st : Stmt} {f : Addr} {fd : FuncData} {N ps : List Str} {k : Nat} {C : Ctr} (F : Fun K x qual st f fd) (S : FnScope N ps (defScope st)) (hl : ∀ ds P F, C ds P F → ds.length = ps.length)
    (body : ∀ (cdv : Value) (A : Around) (outer : List Env) (s : Shared) (H : Hp) (E : XK) (Dc : Gr), Room k (A.deeper (PyProof.Rows.envOfC qual (defScope st) s.heap.objs.size f cdv)) →
      ∃ ts tsd, DSs (cxOf (L2N.CX P w) P w K mg base N qual (defScope st) f cdv A outer s H E) K Dc E (defBody st) ts tsd ∧ ∀ ds Q F, C ds Q F → tsd (fnEnds Q F) (startD N ds)) :
    FnOk P w K mg base (L2N.CX P w) (k + 1) f fd ps (spD K C) := by
  refine okXN F S (fun vs H Q E ⟨Dc, Hb, ds, Pd, Fx, ok, hd, hc, _⟩ => ?_) (fun cdv A outer s H vs Q E hr ⟨Dc, Hb, ds, Pd, Fx, ok, hd, hc, k1, k2⟩ => ?_)
  · rw [hd.length]
    exact hl _ _ _ hc
  · obtain ⟨ts, tsd, hD, hT⟩ := body cdv A outer s H E Dc hr
    refine ⟨ts, hD.pe, ?_⟩
    refine hD.rd Hb H (fnEnds Pd Fx) _ ⟨fun Hb' H' σ sd m h => k1 Hb' H' .non .non m.g dt_non h, fun Hb' H' v d g dv h => k1 Hb' H' v d g dv h, fun _ _ _ _ _ h => h.elim, fun _ _ _ _ _ h => h.elim, fun Hb' H' c g h => k2 Hb' H' c g h⟩ Hb H _ _ (start_ok ok hd) (hT ds Pd Fx hc)
theorem fnD_of {x : Str} {st : Stmt} {f : Addr} {fd : FuncData} {N ps : List Str} {k : Nat} {C : Ctr} (F : Fun K x x st f fd) (gm : mg x = some (.ref f)) (S : FnScope N ps (defScope st)) (hb : Binds K fd ps []) (hl : ∀ ds P F, C ds P F → ds.length = ps.length)
    (body : ∀ (cdv : Value) (A : Around) (outer : List Env) (s : Shared) (H : Hp) (E : XK) (Dc : Gr), Room k (A.deeper (PyProof.Rows.envOfC x (defScope st) s.heap.objs.size f cdv)) →
      ∃ ts tsd, DSs (cxOf (L2N.CX P w) P w K mg base N x (defScope st) f cdv A outer s H E) K Dc E (defBody st) ts tsd ∧ ∀ ds Q F, C ds Q F → tsd (fnEnds Q F) (startD N ds)) : FnD P w K mg base (k + 1) x ps C :=
  ⟨f, fd, fnOkD F S hl body, gm, F.kp, hb⟩
end
end RW

set_option Elab.async false
set_option linter.all false
set_option maxRecDepth 100000
set_option maxHeartbeats 2000000
namespace RW
open PySem L2
open Evl (Ex fresh_back)

/-! ### targets that touch few slots -/
def Tch (tg : TG) (tl : List Nat) : Prop := ∀ v σ H (Q Q' : St → Hp → Prop), tg v σ H Q → (∀ σ' H', Q σ' H' → σ'.length = σ.length → (∀ i, i ∉ tl → σ'[i]? = σ[i]?) → Q' σ' H') → tg v σ H Q'
def Tchs (tg : TGs) (tl : List Nat) : Prop := ∀ vs σ H (Q Q' : St → Hp → Prop), tg vs σ H Q → (∀ σ' H', Q σ' H' → σ'.length = σ.length → (∀ i, i ∉ tl → σ'[i]? = σ[i]?) → Q' σ' H') → tg vs σ H Q'
theorem tch_name {i : Nat} {tl : List Nat} (h : i ∈ tl) : Tch (gName i) tl := fun v σ H Q Q' q k => k _ _ q (by simp) fun j hj => by
  have ne : i ≠ j := fun e => hj (e ▸ h)
  rw [List.getElem?_set_ne ne]
theorem tchs_nil {tl : List Nat} : Tchs gNil tl := fun vs σ H Q Q' q k => ⟨q.1, k _ _ q.2 rfl fun _ _ => rfl⟩
theorem tchs_cons {tg : TG} {tgs : TGs} {tl : List Nat} (h : Tch tg tl) (h2 : Tchs tgs tl) : Tchs (gCons tg tgs) tl := fun vs σ H Q Q' q k => by
  obtain ⟨v, r, e, q⟩ := q
  refine ⟨v, r, e, h _ _ _ _ _ q fun σ1 H1 q1 l1 f1 => h2 _ _ _ _ _ q1 fun σ2 H2 q2 l2 f2 => k σ2 H2 q2 (l2.trans l1) fun i hi => (f2 i hi).trans (f1 i hi)⟩
theorem tch_tup {K : PySem.W.Frag} {n : Nat} {tgs : TGs} {tl : List Nat} (h : Tchs tgs tl) : Tch (gTup K n tgs) tl := fun v σ H Q Q' q k => by
  obtain ⟨a, xs, e1, e2, e3, q⟩ := q
  exact ⟨a, xs, e1, e2, e3, h _ _ _ _ _ q k⟩
theorem wipe_in {σ : St} {i : Nat} : ∀ {vs : List Nat}, i ∈ vs → i < σ.length → (wipe σ vs)[i]? = some none
  | [], h, _ => by simp at h
  | v :: vs, h, hl => by
    unfold wipe
    by_cases hv : v = i
    · subst hv
      rw [List.getElem?_set_self (by rw [wipe_length]; exact hl)]
    · rw [List.getElem?_set_ne hv]
      exact wipe_in ((List.mem_cons.mp h).resolve_left (fun e => hv e.symm)) hl
theorem wipe_wipe {σ σ' : St} {vs : List Nat} (hl : σ'.length = (wipe σ vs).length) (h : ∀ i, i ∉ vs → σ'[i]? = (wipe σ vs)[i]?) : wipe σ' vs = wipe σ vs := by
  apply List.ext_getElem?
  intro i
  by_cases hi : i ∈ vs
  · by_cases hlt : i < σ'.length
    · rw [wipe_in hi hlt, wipe_in hi (by rw [hl, wipe_length] at hlt; exact hlt)]
    · rw [List.getElem?_eq_none (by rw [wipe_length]; omega), List.getElem?_eq_none (by rw [← hl]; omega)]
  · rw [wipe_out hi, h i hi]
def wipeD (sd : Sd) : List Nat → Sd
  | [] => sd
  | v :: vs => (wipeD sd vs).set v .un
theorem M.unset {K : PySem.W.Frag} {Dc : Gr} {Hb0 H0 Hb H : Hp} {σ : St} {sd : Sd} {i : Nat} {o : Option V} (m : M K Dc Hb0 H0 Hb H σ sd) : M K Dc Hb0 H0 Hb H (σ.set i o) (sd.set i .un) := by
  refine ⟨m.g, by simpa using m.len, fun j s e => ?_, fun j k as bs p hjk e1 e2 e3 => ?_, nd_set (fun _ h => nomatch h) m.nd⟩
  · by_cases hj : i = j
    · subst hj
      have hl : i < sd.length := by
        have := (List.getElem?_eq_some_iff.mp e).1
        simpa using this
      rw [List.getElem?_set_self hl] at e
      cases e
      exact ⟨o, List.getElem?_set_self (by rw [m.len]; exact hl), trivial⟩
    · rw [List.getElem?_set_ne hj] at e ⊢
      exact m.sl j s e
  · have ne : ∀ {n : Nat} {zs : List D}, (sd.set i .un)[n]? = some (.own zs) → i ≠ n := fun {n zs} en z => by
      subst z
      have hl : i < sd.length := by
        have := (List.getElem?_eq_some_iff.mp en).1
        simpa using this
      rw [List.getElem?_set_self hl] at en
      cases en
    have n1 := ne e1
    have n2 := ne e2
    rw [List.getElem?_set_ne n1] at e1 e3
    rw [List.getElem?_set_ne n2] at e2 ⊢
    exact m.ne j k as bs p hjk e1 e2 e3
theorem M.wipe {K : PySem.W.Frag} {Dc : Gr} {Hb0 H0 Hb H : Hp} {σ : St} {sd : Sd} (m : M K Dc Hb0 H0 Hb H σ sd) : ∀ vs, M K Dc Hb0 H0 Hb H (L2.wipe σ vs) (wipeD sd vs)
  | [] => m
  | v :: vs => (M.wipe m vs).unset

/-! ### comprehensions -/
def noF : XF := fun _ => False
theorem xok0 {Dc : Gr} {Hb0 H0 : Hp} : XOk Dc E0 Hb0 H0 noF := fun _ _ _ _ h => h.elim
section
variable {X : Cx} {K : PySem.W.Frag} {Dc : Gr} {Xe : XK} {e a b c tg : Expr} {es : List Expr} {ta tb te : TE} {da db dd : TEd} {pos : Pos} {tt tu : TT} {dt du : TTd} {st : Stmt} {sts : List Stmt} {ts ts' : TS} {ds ds' : TSd}
@[simp] def dYes : TTd := fun _ P _ => P true
theorem rt_yes : RT K Dc Xe tYes dYes := fun _ _ _ _ Hb H _ _ _ _ m hd k => k Hb H true m.g.ok hd
/-- the tests of a comprehension -/
structure DTs (X : Cx) (K : PySem.W.Frag) (Dc : Gr) (Xe : XK) (e : List Expr) (te : TT) (td : TTd) : Prop where
  hK : X.K = K
  pe : PTs X e te
  rd : RT K Dc Xe te td
theorem dts_none (hK : X.K = K := by rfl) : DTs X K Dc Xe [] tYes dYes := ⟨hK, pts_nil, rt_yes⟩
theorem dts_test (h : DT X K Dc Xe e tt dt) : DTs X K Dc Xe [e] tt dt := ⟨h.hK, pts_one h.pe, h.rd⟩
def dLc (di : TAd) (dg : TGd) (dt : TTd) (de : TEd) (vs : List Nat) : TAd := fun sd P F => di sd (fun xs => ∃ I : Nat → List D → Prop, I 0 [] ∧
  (∀ i d acc, xs[i]? = some d → I i acc → dg d (wipeD sd vs) (fun sd2 => dt sd2 (fun b => if b = true then de sd2 (fun y => acc.length < 100000 ∧ I (i + 1) (acc ++ [y])) noF else I (i + 1) acc) noF)) ∧ (∀ acc, I xs.length acc → P acc)) F
theorem rl_lc {wi : TI} {di : TAd} {tg : TG} {dg : TGd} {vs : List Nat} (hi : RI K Dc Xe wi di) (hg : RG K Dc tg dg) (ht : Tch tg vs) (hc : RT K Dc E0 tt dt) (he : RE K Dc E0 te dd) : RL K Dc Xe (tLc wi tg tt te vs) (dLc di dg dt dd vs) := by
  intro Hb0 H0 F hF Hb H σ sd P Q m hd k
  refine hi Hb0 H0 F hF Hb H σ sd _ _ m hd fun Hb1 H1 J xs g1 wk hp => ?_
  obtain ⟨I, i0, turn, fin⟩ := hp
  intro p hp1
  have m1 := m.step g1
  have nd : ¬ Dc p := m1.g.ndc hp1
  have b1 : Hb1 p = none := fresh_back g1.sub hp1
  refine ⟨fun i mm H' => ∃ Hb' acc vacc, Good Dc Hb1 H1 Hb' H' ∧ Hb' p = none ∧ H' p = some (.lst vacc) ∧ Dts K Dc Hb' acc vacc ∧ i ≤ xs.length ∧ mm = xs.length - i ∧ I i acc,
    ⟨xs.length, Hb1, [], [], g1.ok.newH hp1, b1, upd_same, dts_nil, Nat.zero_le _, rfl, i0⟩, ?_⟩
  rintro i mm H' ⟨Hb', acc, vacc, g', b', h', dacc, hi', rfl, inv⟩
  obtain ⟨w1, w2⟩ := wk Hb' H' g'.ok g'.eb
  by_cases hlt : i < xs.length
  · obtain ⟨go, yl⟩ := w1 i xs[i] (by simp [hlt])
    refine .inr ⟨go, fun H2 => ∃ Hb2 acc2 vacc2, Good Dc Hb1 H1 Hb2 H2 ∧ Hb2 p = none ∧ H2 p = some (.lst vacc2) ∧ Dts K Dc Hb2 acc2 vacc2 ∧ I (i + 1) acc2,
      fun H2 ⟨Hb2, acc2, vacc2, q1, q2, q3, q4, q5⟩ => ⟨xs.length - (i + 1), by omega, Hb2, acc2, vacc2, q1, q2, q3, q4, hlt, rfl, q5⟩, fun x H2 y => ?_⟩
    obtain ⟨Hb2, g2, dx⟩ := yl x H2 y
    -- p stays untold and as it is
    have stay : ∀ {Hb3 H3 : Hp}, Good Dc Hb' H' Hb3 H3 → Hb3 p = none ∧ H3 p = some (.lst vacc) := fun {Hb3 H3} g => by
      refine ⟨?_, g.eh _ _ h' nd (fun _ h => nomatch h)⟩
      cases q : Hb3 p with
      | none => rfl
      | some u =>
        rcases g.dom p u q with ⟨o', z⟩ | z
        · rw [b'] at z; cases z
        · exact (z.nl h').elim
    have mw : M K Dc Hb0 H0 Hb2 H2 (wipe σ vs) (wipeD sd vs) := ((m1.step g').step g2).wipe vs
    refine ht x _ H2 (fun σ3 H3 => tt σ3 H3 fun b H4 => if b = true then te σ3 H4 fun y H5 => ∃ a, H5 p = some (.lst a) ∧ a.length < sizeLine ∧ (∃ Hb2 acc2 vacc2, Good Dc Hb1 H1 Hb2 (upd H5 p (.lst (a ++ [y]))) ∧ Hb2 p = none ∧ (upd H5 p (.lst (a ++ [y]))) p = some (.lst vacc2) ∧ Dts K Dc Hb2 acc2 vacc2 ∧ I (i + 1) acc2)
        else (∃ Hb2 acc2 vacc2, Good Dc Hb1 H1 Hb2 H4 ∧ Hb2 p = none ∧ H4 p = some (.lst vacc2) ∧ Dts K Dc Hb2 acc2 vacc2 ∧ I (i + 1) acc2)) _ ?_ fun σ3 H3 q3 l3 f3 => ⟨wipe_wipe l3 f3, q3⟩
    refine hg Hb0 H0 Hb2 H2 _ _ xs[i] x _ _ mw dx (turn i xs[i] acc (by simp [hlt]) inv) fun Hb3 H3 σ3 sd3 g3 m3 hp3 => ?_
    refine hc Hb0 H0 noF xok0 Hb3 H3 σ3 sd3 _ _ m3 hp3 fun Hb4 H4 bb g4 hp4 => ?_
    cases bb with
    | false =>
      rw [if_neg Bool.false_ne_true] at hp4 ⊢
      have g := (g2.trans g3).trans g4
      obtain ⟨s1, s2⟩ := stay g
      exact ⟨Hb4, acc, vacc, g'.trans g, s1, s2, dacc.mono g.eb, hp4⟩
    | true =>
      rw [if_pos rfl] at hp4 ⊢
      refine he Hb0 H0 noF xok0 Hb4 H4 σ3 sd3 _ _ (m3.step g4) hp4 fun Hb5 H5 v d g5 dv hp5 => ?_
      have g := ((g2.trans g3).trans g4).trans g5
      obtain ⟨s1, s2⟩ := stay g
      exact ⟨vacc, s2, Evl.sz_lt (by rw [dacc.length]; exact hp5.1), Hb5, acc ++ [d], vacc ++ [v], (g'.trans g).mut hp1 s1 nd (fun o' e => by rw [s2] at e; cases e; exact plo_lst), s1, upd_same, (dacc.mono g.eb).append (dts_cons dv dts_nil), hp5.2⟩
  · have e : i = xs.length := by omega
    subst e
    exact .inl ⟨w2, k Hb' H' p vacc acc (g1.trans g') (g1.notnone hp1) b' h' dacc (fin acc inv)⟩
theorem dl_lc {iter elt : Expr} {ifs : List Expr} {scope : Scope} {own : List (Str × Nat)} {wi : TI} {di : TAd} {g : TG} {dg : TGd} (cx : Ctx X Xe) (hN : X.N.Nodup) (hi : DI X K Dc Xe tg iter wi di) (ok : BlkOk X.N X.env.scope scope own)
    (hg : ∀ (s : Shared) (H : Hp) (C : Addr) (cl : List (Str × Addr)) (fp : List Addr), Ctx (X.blk s H scope (compEnvC scope cl C X.env) fp) E0 → DG (X.blk s H scope (compEnvC scope cl C X.env) fp) K Dc tg g dg) (ht : Tch g (own.map (·.2)))
    (hc : ∀ (s : Shared) (H : Hp) (C : Addr) (cl : List (Str × Addr)) (fp : List Addr), Ctx (X.blk s H scope (compEnvC scope cl C X.env) fp) E0 → DTs (X.blk s H scope (compEnvC scope cl C X.env) fp) K Dc E0 ifs tt dt)
    (he : ∀ (s : Shared) (H : Hp) (C : Addr) (cl : List (Str × Addr)) (fp : List Addr), Ctx (X.blk s H scope (compEnvC scope cl C X.env) fp) E0 → DE (X.blk s H scope (compEnvC scope cl C X.env) fp) K Dc E0 elt te dd)
    (hs : ∀ x, foldedSetIterable iter X.env x = pure x := by intro _; rfl) :
    DL X K Dc Xe (.ListComp elt [⟨tg, iter, ifs, 0⟩] scope pos) (tLc wi g tt te (own.map (·.2))) (dLc di dg dt dd (own.map (·.2))) :=
  ⟨hi.hK, pe_lc cx.calm hN hi.pe ok (fun s H C cl fp => (hg s H C cl fp (ctx_blk cx.calm)).pe) (fun s H C cl fp => (hc s H C cl fp (ctx_blk cx.calm)).pe) (fun s H C cl fp => (he s H C cl fp (ctx_blk cx.calm)).pe) hs,
    rl_lc hi.rd (hg X.s_0 X.H_0 0 [] [] (ctx_blk cx.calm)).rd ht (hc X.s_0 X.H_0 0 [] [] (ctx_blk cx.calm)).rd (he X.s_0 X.H_0 0 [] [] (ctx_blk cx.calm)).rd⟩
/-- name = [..], the name a local -/
theorem ds_setLc (i : Nat) {y : Str} {py spos : Pos} {iter elt : Expr} {ifs : List Expr} {scope : Scope} {own : List (Str × Nat)} {wi : TI} {di : TAd} {g : TG} {dg : TGd} (cx : Ctx X Xe) (hN : X.N.Nodup) (hi : DI X K Dc Xe tg iter wi di) (ok : BlkOk X.N X.env.scope scope own)
    (hg : ∀ (s : Shared) (H : Hp) (C : Addr) (cl : List (Str × Addr)) (fp : List Addr), Ctx (X.blk s H scope (compEnvC scope cl C X.env) fp) E0 → DG (X.blk s H scope (compEnvC scope cl C X.env) fp) K Dc tg g dg) (ht : Tch g (own.map (·.2)))
    (hc : ∀ (s : Shared) (H : Hp) (C : Addr) (cl : List (Str × Addr)) (fp : List Addr), Ctx (X.blk s H scope (compEnvC scope cl C X.env) fp) E0 → DTs (X.blk s H scope (compEnvC scope cl C X.env) fp) K Dc E0 ifs tt dt)
    (he : ∀ (s : Shared) (H : Hp) (C : Addr) (cl : List (Str × Addr)) (fp : List Addr), Ctx (X.blk s H scope (compEnvC scope cl C X.env) fp) E0 → DE (X.blk s H scope (compEnvC scope cl C X.env) fp) K Dc E0 elt te dd)
    (hy : X.N[i]? = some y := by rfl) (hyl : X.env.scope.names.lookup y = some .local := by rfl) (hsw : swapsWith (.ListComp elt [⟨tg, iter, ifs, 0⟩] scope pos) (some (.Name y py)) spos.line X.env = pure true := by exact sw_true rfl rfl rfl (by decide +kernel))
    (hs : ∀ x, foldedSetIterable iter X.env x = pure x := by intro _; rfl) :
    DS X K Dc Xe (.Assign [.Name y py] (.ListComp elt [⟨tg, iter, ifs, 0⟩] scope pos) spos) (tAsg (tLc wi g tt te (own.map (·.2))) (gName i)) (dSetL i (dLc di dg dt dd (own.map (·.2)))) :=
  ⟨hi.hK, ps_setLc cx.calm hN hy hyl hsw hi.pe ok (fun s H C cl fp => (hg s H C cl fp (ctx_blk cx.calm)).pe) (fun s H C cl fp => (hc s H C cl fp (ctx_blk cx.calm)).pe) (fun s H C cl fp => (he s H C cl fp (ctx_blk cx.calm)).pe) hs,
    rs_setL i (rl_lc hi.rd (hg X.s_0 X.H_0 0 [] [] (ctx_blk cx.calm)).rd ht (hc X.s_0 X.H_0 0 [] [] (ctx_blk cx.calm)).rd (he X.s_0 X.H_0 0 [] [] (ctx_blk cx.calm)).rd)⟩

/-! ### built-ins -/
def rAbs : List V → Hp → VK → Prop := fun xs H Q => ∃ i, xs = [.int i] ∧ Q (.int (if i < 0 then -i else i)) H
@[simp] def dAbs : List D → (D → Prop) → Prop := fun ds P => match int1 ds with | some i => P (.int (if i < 0 then -i else i)) | none => False
theorem rc_abs : RCD K Dc rAbs dAbs := by
  intro Hb H xs ds P Q ok hd h k
  unfold dAbs at h
  split at h <;> try exact h.elim
  rename_i i e
  exact ⟨i, int1_of hd e, k Hb H _ _ ok dt_int h⟩
theorem de_abs {p : Pos} {tr : TA} {dr : TAd} (hm : X.mg "abs" = none) (ha : DA X K Dc Xe (e :: es) tr dr) (hg : Gl X "abs" := by rfl)
    (he : starEach (e :: es) X.env = (false, eval e X.env) :: starEach es X.env := by rfl) (hpl : (backTo pos (starEach es X.env)).any (·.1) = false := by rfl) : DE X K Dc Xe (.Call (.Name "abs" p) (e :: es) [] pos) (tCB rAbs tr) (dCB dAbs dr) :=
  de_callB call_abs rc_abs hg hm (by decide +kernel) ha (by decide) (by decide) he hpl
/-- len -/
@[simp] def lenD : List D → Option Nat
  | [.tup ds] => some ds.length
  | [.lst ds] => some ds.length
  | [.scr ns] => some ns.length
  | [.str z] => if z.length ≤ 100000 then some z.length else none
  | _ => none
def rLenA (K : PySem.W.Frag) : List V → Hp → VK → Prop := fun xs H Q => (∃ p ys, xs = [.ref p] ∧ (SqL K H p ys ∨ SqT K H p ys) ∧ Q (.int ys.length) H) ∨ (∃ z, xs = [.str z] ∧ z.length ≤ sizeLine ∧ Q (.int z.length) H)
@[simp] def dLen : List D → (D → Prop) → Prop := fun ds P => match lenD ds with | some n => P (.int (n : Int)) | none => False
theorem rc_len : RCD K Dc (rLenA K) dLen := by
  intro Hb H xs ds P Q ok hd h k
  unfold dLen at h
  split at h <;> try exact h.elim
  rename_i n e
  unfold lenD at e
  split at e
  · cases e
    obtain ⟨v, r, rfl, h1, hr⟩ := hd.cons
    rw [hr.nil]
    simp only [Dt] at h1
    obtain ⟨p, ys, rfl, h1, h2⟩ := h1
    refine .inl ⟨p, ys, rfl, .inr (SqT.of (ok.sub _ _ h1)), ?_⟩
    rw [h2.length]
    exact k Hb H _ _ ok dt_int h
  · cases e
    obtain ⟨v, r, rfl, h1, hr⟩ := hd.cons
    rw [hr.nil]
    simp only [Dt] at h1
    obtain ⟨p, ys, rfl, h1, h2⟩ := h1
    refine .inl ⟨p, ys, rfl, .inl (SqL.of (ok.sub _ _ h1)), ?_⟩
    rw [h2.length]
    exact k Hb H _ _ ok dt_int h
  · cases e
    obtain ⟨v, r, rfl, h1, hr⟩ := hd.cons
    rw [hr.nil]
    simp only [Dt] at h1
    obtain ⟨p, rfl, h1⟩ := h1
    refine .inl ⟨p, _, rfl, .inl (Evl.ex_l ok.sub h1), ?_⟩
    rw [List.length_map]
    exact k Hb H _ _ ok dt_int h
  · split at e
    · rename_i hz
      cases e
      obtain ⟨v, r, rfl, h1, hr⟩ := hd.cons
      rw [hr.nil]
      simp only [Dt] at h1
      subst h1
      exact .inr ⟨_, rfl, Evl.sz_of hz, k Hb H _ _ ok dt_int h⟩
    · cases e
  · cases e
theorem de_len {p : Pos} {tr : TA} {dr : TAd} (hm : X.mg "len" = none) (ha : DA X K Dc Xe (e :: es) tr dr) (hg : Gl X "len" := by rfl)
    (he : starEach (e :: es) X.env = (false, eval e X.env) :: starEach es X.env := by rfl) (hpl : (backTo pos (starEach es X.env)).any (·.1) = false := by rfl) : DE X K Dc Xe (.Call (.Name "len" p) (e :: es) [] pos) (tCB (rLenA K) tr) (dCB dLen dr) :=
  by obtain rfl := ha.hK; exact de_callB (call_len_seq.or call_len_str) rc_len hg hm PySem.boot_len ha (by decide) (by decide) he hpl
/-- int(x), x an int or a bool -/
def rInt1 : List V → Hp → VK → Prop := fun xs H Q => (∃ i, xs = [.int i] ∧ Q (.int i) H) ∨ ∃ k, xs = [.bl k] ∧ Q (.int (if k then 1 else 0)) H
@[simp] def intD : List D → Option Int
  | [.int i] => some i
  | [.bl b] => some (if b then 1 else 0)
  | _ => none
@[simp] def dInt : List D → (D → Prop) → Prop := fun ds P => match intD ds with | some n => P (.int n) | none => False
theorem rc_int : RCD K Dc rInt1 dInt := by
  intro Hb H xs ds P Q ok hd h k
  unfold dInt at h
  split at h <;> try exact h.elim
  rename_i n e
  unfold intD at e
  split at e
  · cases e
    obtain ⟨v, r, rfl, h1, hr⟩ := hd.cons
    rw [hr.nil]
    simp only [Dt] at h1
    subst h1
    exact .inl ⟨_, rfl, k Hb H _ _ ok dt_int h⟩
  · cases e
    obtain ⟨v, r, rfl, h1, hr⟩ := hd.cons
    rw [hr.nil]
    simp only [Dt] at h1
    subst h1
    exact .inr ⟨_, rfl, k Hb H _ _ ok dt_int h⟩
  · cases e
theorem de_intc {p : Pos} {tr : TA} {dr : TAd} (hm : X.mg "int" = none) (ha : DA X K Dc Xe (e :: es) tr dr) (hg : Gl X "int" := by rfl)
    (he : starEach (e :: es) X.env = (false, eval e X.env) :: starEach es X.env := by rfl) (hpl : (backTo pos (starEach es X.env)).any (·.1) = false := by rfl) : DE X K Dc Xe (.Call (.Name "int" p) (e :: es) [] pos) (tCB rInt1 tr) (dCB dInt dr) :=
  de_callTy call_int1 rc_int hg hm (by decide +kernel) ha (by decide) (by decide) he hpl
/-- isinstance(x, T), T a built-in class -/
def tyD : D → Option String
  | .non => some "NoneType"
  | .bl _ => some "bool"
  | .int _ => some "int"
  | .str _ => some "str"
  | .tup _ => some "tuple"
  | .lst _ => some "list"
  | _ => none
theorem tyD_of {Hb H : Hp} {d : D} {v : V} {s : String} (ex : Ex Hb H) (h : Dt K Dc Hb d v) (e : tyD d = some s) : TyX K H v (.type s) := by
  cases d <;> simp only [tyD] at e <;> first | (cases e; done) | skip
  all_goals (cases e; simp only [Dt] at h)
  · subst h; exact .base .non
  · subst h; exact .base (.bl _)
  · subst h; exact .base (.int _)
  · subst h; exact .base (.str _)
  · obtain ⟨p, xs, rfl, h1, h2⟩ := h
    exact .base (.tup (ex _ _ h1))
  · obtain ⟨p, xs, rfl, h1, h2⟩ := h
    exact .base (.lst (ex _ _ h1))
@[simp] def dIsi (f : D → Option Bool) : List D → (D → Prop) → Prop := fun ds P => match ds with
  | [x, .ty _] => (match f x with | some b => P (.bl b) | none => False)
  | _ => False
def IsiOk (T : String) (f : D → Option Bool) : Prop := ∀ d r, f d = some r → ∃ s, tyD d = some s ∧ kitB s T = some r
theorem rc_isi {T : String} {f : D → Option Bool} (hf : IsiOk T f) : RE K Dc Xe ta da → RE K Dc Xe (tCB (rIsi K) (tCons ta (tCons (tC (.ty T)) tNil))) (fun sd P F => da sd (fun x => match f x with | some b => P (.bl b) | none => False) F) := by
  intro ha Hb0 H0 F hF Hb H σ sd P Q m hd k
  refine ha Hb0 H0 F hF Hb H σ sd _ _ m hd fun Hb1 H1 x d g1 dx hd1 => ?_
  split at hd1 <;> try exact hd1.elim
  rename_i b e
  obtain ⟨s, e1, e2⟩ := hf d b e
  exact ⟨x, .ty T, .type s, .type T, b, rfl, .ty T, tyD_of g1.sub dx e1, kit_ty e2, k Hb1 H1 _ _ g1 dt_bl hd1⟩
@[simp] def isIntD : D → Option Bool
  | .non => some false | .bl _ => some true | .int _ => some true | .str _ => some false | .tup _ => some false | .lst _ => some false | _ => none
@[simp] def isBoolD : D → Option Bool
  | .non => some false | .bl _ => some true | .int _ => some false | .str _ => some false | .tup _ => some false | .lst _ => some false | _ => none
@[simp] def isStrD : D → Option Bool
  | .non => some false | .bl _ => some false | .int _ => some false | .str _ => some true | .tup _ => some false | .lst _ => some false | _ => none
@[simp] def isTupD : D → Option Bool
  | .non => some false | .bl _ => some false | .int _ => some false | .str _ => some false | .tup _ => some true | .lst _ => some false | _ => none
theorem isi_int : IsiOk "int" isIntD := by
  intro d r h
  cases d <;> simp only [isIntD] at h <;> first | (cases h; done) | (cases h; exact ⟨_, rfl, by decide +kernel⟩)
theorem isi_bool : IsiOk "bool" isBoolD := by
  intro d r h
  cases d <;> simp only [isBoolD] at h <;> first | (cases h; done) | (cases h; exact ⟨_, rfl, by decide +kernel⟩)
theorem isi_str : IsiOk "str" isStrD := by
  intro d r h
  cases d <;> simp only [isStrD] at h <;> first | (cases h; done) | (cases h; exact ⟨_, rfl, by decide +kernel⟩)
theorem isi_tup : IsiOk "tuple" isTupD := by
  intro d r h
  cases d <;> simp only [isTupD] at h <;> first | (cases h; done) | (cases h; exact ⟨_, rfl, by decide +kernel⟩)
@[simp] def dIs (f : D → Option Bool) (da : TEd) : TEd := fun sd P F => da sd (fun x => match f x with | some b => P (.bl b) | none => False) F
theorem de_isi {T : String} {x : Str} {f : D → Option Bool} {p p2 : Pos} (hf : IsiOk T f) (hm : X.mg "isinstance" = none) (hmx : X.mg x = none) (hb : bootBuiltins x = some (.type T)) (ha : DE X K Dc Xe a ta da) (hg : Gl X "isinstance" := by rfl) (hgx : Gl X x := by rfl) (hn : x ≠ "__name__" := by decide) (hdx : (x == ("__debug__" : Str)) = false := by decide)
    (h1 : starEach [a, .Name x p2] X.env = (false, eval a X.env) :: starEach [.Name x p2] X.env := by rfl) (hpl : (backTo pos (starEach [.Name x p2] X.env)).any (·.1) = false := by rfl) (h2 : starEach [.Name x p2] X.env = (false, eval (.Name x p2) X.env) :: starEach [] X.env := by rfl) :
    DE X K Dc Xe (.Call (.Name "isinstance" p) [a, .Name x p2] [] pos) (tCB (rIsi K) (tCons ta (tCons (tC (.ty T)) tNil))) (dIs f da) := by
  obtain rfl := ha.hK
  exact ⟨rfl, pe_callB call_isi hg hm (by decide +kernel) (pa_cons ha.pe (pa_cons (pe_bltn (v := .ty T) hgx hmx hb rfl hn hdx) pa_nil h2) h1) (by decide) (by decide) h1 hpl, rc_isi hf ha.rd⟩
/-- tuple(xs) -/
def rTupOf (K : PySem.W.Frag) : List V → Hp → VK → Prop := fun xs H Q => ∃ p ys, xs = [.ref p] ∧ ((SqL K H p ys ∧ ∀ l, H l = none → Q (.ref l) (upd H l (.tup ys))) ∨ (SqT K H p ys ∧ Q (.ref p) H))
@[simp] def seq1 : List D → Option (List D)
  | [.lst es] => some es
  | [.tup es] => some es
  | _ => none
@[simp] def dTupOf : List D → (D → Prop) → Prop := fun ds P => match seq1 ds with | some es => P (.tup es) | none => False
theorem rc_tupOf : RCD K Dc (rTupOf K) dTupOf := by
  intro Hb H xs ds P Q ok hd h k
  unfold dTupOf at h
  split at h <;> try exact h.elim
  rename_i es e
  unfold seq1 at e
  split at e
  · cases e
    obtain ⟨v, r, rfl, h1, hr⟩ := hd.cons
    rw [hr.nil]
    simp only [Dt] at h1
    obtain ⟨p, ys, rfl, h1, h2⟩ := h1
    refine ⟨p, ys, rfl, .inl ⟨SqL.of (ok.sub _ _ h1), fun l hl => ?_⟩⟩
    have g := Good.new (o := .tup ys) ok hl
    refine k _ _ _ _ g ?_ h
    simp only [Dt]
    exact ⟨l, ys, rfl, upd_same, h2.mono g.eb⟩
  · cases e
    obtain ⟨v, r, rfl, h1, hr⟩ := hd.cons
    rw [hr.nil]
    have h1' := h1
    simp only [Dt] at h1
    obtain ⟨p, ys, rfl, h1, h2⟩ := h1
    exact ⟨p, ys, rfl, .inr ⟨SqT.of (ok.sub _ _ h1), k Hb H _ _ ok h1' h⟩⟩
  · cases e
theorem de_tupOf {p : Pos} {tr : TA} {dr : TAd} (hm : X.mg "tuple" = none) (ha : DA X K Dc Xe (e :: es) tr dr) (hg : Gl X "tuple" := by rfl)
    (he : starEach (e :: es) X.env = (false, eval e X.env) :: starEach es X.env := by rfl) (hpl : (backTo pos (starEach es X.env)).any (·.1) = false := by rfl) : DE X K Dc Xe (.Call (.Name "tuple" p) (e :: es) [] pos) (tCB (rTupOf K) tr) (dCB dTupOf dr) :=
  by obtain rfl := ha.hK; exact de_callTy call_tuple_of rc_tupOf hg hm (by decide +kernel) ha (by decide) (by decide) he hpl
/-- list(xs) -/
def rLstOf (K : PySem.W.Frag) : List V → Hp → VK → Prop := fun xs H Q => ∃ p ys, xs = [.ref p] ∧ (SqL K H p ys ∨ SqT K H p ys) ∧ ∀ l, H l = none → Q (.ref l) (upd H l (.lst ys))
@[simp] def dLstOf (dr : TAd) : TAd := fun sd P F => dr sd (fun ds => match seq1 ds with | some es => P es | none => False) F
theorem dl_lstOf {p : Pos} {tr : TA} {dr : TAd} (hm : X.mg "list" = none) (ha : DA X K Dc Xe (e :: es) tr dr) (hg : Gl X "list" := by rfl)
    (he : starEach (e :: es) X.env = (false, eval e X.env) :: starEach es X.env := by rfl) (hpl : (backTo pos (starEach es X.env)).any (·.1) = false := by rfl) : DL X K Dc Xe (.Call (.Name "list" p) (e :: es) [] pos) (tCB (rLstOf K) tr) (dLstOf dr) := by
  obtain rfl := ha.hK
  exact ⟨rfl, pe_callTy call_list_of hg hm (by decide +kernel) ha.pe (by decide) (by decide) he hpl, by
    intro Hb0 H0 F hF Hb H σ sd P Q m hd k
    refine ha.rd Hb0 H0 F hF Hb H σ sd _ _ m hd fun Hb1 H1 vs ds g1 dx h => ?_
    split at h <;> try exact h.elim
    rename_i es' e
    unfold seq1 at e
    split at e
    · cases e
      obtain ⟨v, r, rfl, h1, hr⟩ := dx.cons
      rw [hr.nil]
      simp only [Dt] at h1
      obtain ⟨p, ys, rfl, h1, h2⟩ := h1
      refine ⟨p, ys, rfl, .inl (SqL.of (g1.sub _ _ h1)), fun l hl => ?_⟩
      exact k _ _ l ys _ (g1.trans (Good.newH (o := .lst ys) g1.ok hl)) (g1.notnone hl) (fresh_back g1.sub hl) upd_same h2 h
    · cases e
      obtain ⟨v, r, rfl, h1, hr⟩ := dx.cons
      rw [hr.nil]
      simp only [Dt] at h1
      obtain ⟨p, ys, rfl, h1, h2⟩ := h1
      refine ⟨p, ys, rfl, .inr (SqT.of (g1.sub _ _ h1)), fun l hl => ?_⟩
      exact k _ _ l ys _ (g1.trans (Good.newH (o := .lst ys) g1.ok hl)) (g1.notnone hl) (fresh_back g1.sub hl) upd_same h2 h
    · cases e⟩
/-- all(xs), any(xs), xs a list of bools -/
def bls : List D → Option (List Bool)
  | [] => some []
  | .bl b :: ds => (match bls ds with | some bs => some (b :: bs) | none => none)
  | _ => none
theorem bls_of {Hb : Hp} : ∀ {ds : List D} {vs : List V} {bs : List Bool}, Dts K Dc Hb ds vs → bls ds = some bs → vs = bs.map V.bl
  | [], vs, bs, h, e => by simp only [bls] at e; cases e; rw [h.nil]; rfl
  | d :: ds, vs, bs, h, e => by
    obtain ⟨v, r, rfl, h1, h2⟩ := h.cons
    cases d <;> simp only [bls] at e <;> try (cases e; done)
    split at e <;> try (cases e; done)
    rename_i bs' e'
    cases e
    simp only [Dt] at h1
    rw [h1, bls_of h2 e']
    rfl
@[simp] def dAll : List D → (D → Prop) → Prop := fun ds P => match lst1 ds with | some es => (match bls es with | some bs => P (.bl (bs.all id)) | none => False) | none => False
@[simp] def dAny : List D → (D → Prop) → Prop := fun ds P => match lst1 ds with | some es => (match bls es with | some bs => P (.bl (bs.any id)) | none => False) | none => False
theorem rc_all : RCD K Dc (rAll K) dAll := by
  intro Hb H xs ds P Q ok hd h k
  unfold dAll at h
  split at h <;> try exact h.elim
  rename_i es e
  split at h <;> try exact h.elim
  rename_i bs eb
  obtain ⟨v, rfl, h1⟩ := lst1_of hd e
  simp only [Dt] at h1
  obtain ⟨p, ys, rfl, h1, h2⟩ := h1
  rw [bls_of h2 eb] at h1
  exact ⟨p, bs, rfl, SqL.of (ok.sub _ _ h1), k Hb H _ _ ok dt_bl h⟩
theorem rc_any : RCD K Dc (rAny K) dAny := by
  intro Hb H xs ds P Q ok hd h k
  unfold dAny at h
  split at h <;> try exact h.elim
  rename_i es e
  split at h <;> try exact h.elim
  rename_i bs eb
  obtain ⟨v, rfl, h1⟩ := lst1_of hd e
  simp only [Dt] at h1
  obtain ⟨p, ys, rfl, h1, h2⟩ := h1
  rw [bls_of h2 eb] at h1
  exact ⟨p, bs, rfl, SqL.of (ok.sub _ _ h1), k Hb H _ _ ok dt_bl h⟩
theorem de_all {p : Pos} {tr : TA} {dr : TAd} (cx : Ctx X Xe) (hm : X.mg "all" = none) (ha : DA X K Dc Xe (e :: es) tr dr) (hg : Gl X "all" := by rfl)
    (he : starEach (e :: es) X.env = (false, eval e X.env) :: starEach es X.env := by rfl) (hpl : (backTo pos (starEach es X.env)).any (·.1) = false := by rfl) : DE X K Dc Xe (.Call (.Name "all" p) (e :: es) [] pos) (tCB (rAll K) tr) (dCB dAll dr) :=
  by obtain rfl := ha.hK; exact de_callB (cr_all cx.calm) rc_all hg hm (by decide +kernel) ha (by decide) (by decide) he hpl
theorem de_any {p : Pos} {tr : TA} {dr : TAd} (cx : Ctx X Xe) (hm : X.mg "any" = none) (ha : DA X K Dc Xe (e :: es) tr dr) (hg : Gl X "any" := by rfl)
    (he : starEach (e :: es) X.env = (false, eval e X.env) :: starEach es X.env := by rfl) (hpl : (backTo pos (starEach es X.env)).any (·.1) = false := by rfl) : DE X K Dc Xe (.Call (.Name "any" p) (e :: es) [] pos) (tCB (rAny K) tr) (dCB dAny dr) :=
  by obtain rfl := ha.hK; exact de_callB (cr_any cx.calm) rc_any hg hm (by decide +kernel) ha (by decide) (by decide) he hpl
/-- max(a, b), min(a, b) -/
def rMaxA : List V → Hp → VK → Prop := fun xs H Q => ∃ i j, xs = [.int i, .int j] ∧ Q (.int (if j > i then j else i)) H
def rMinA : List V → Hp → VK → Prop := fun xs H Q => ∃ i j, xs = [.int i, .int j] ∧ Q (.int (if j < i then j else i)) H
@[simp] def dMax2 : List D → (D → Prop) → Prop := fun ds P => match int2 ds with | some (i, j) => P (.int (if j > i then j else i)) | none => False
@[simp] def dMin2 : List D → (D → Prop) → Prop := fun ds P => match int2 ds with | some (i, j) => P (.int (if j < i then j else i)) | none => False
theorem rc_max2 : RCD K Dc rMaxA dMax2 := by
  intro Hb H xs ds P Q ok hd h k
  unfold dMax2 at h
  split at h <;> try exact h.elim
  rename_i i j e
  exact ⟨i, j, int2_of hd e, k Hb H _ _ ok dt_int h⟩
theorem rc_min2 : RCD K Dc rMinA dMin2 := by
  intro Hb H xs ds P Q ok hd h k
  unfold dMin2 at h
  split at h <;> try exact h.elim
  rename_i i j e
  exact ⟨i, j, int2_of hd e, k Hb H _ _ ok dt_int h⟩
theorem de_max2 {p : Pos} {tr : TA} {dr : TAd} (cx : Ctx X Xe) (hm : X.mg "max" = none) (ha : DA X K Dc Xe (e :: es) tr dr) (hg : Gl X "max" := by rfl)
    (he : starEach (e :: es) X.env = (false, eval e X.env) :: starEach es X.env := by rfl) (hpl : (backTo pos (starEach es X.env)).any (·.1) = false := by rfl) : DE X K Dc Xe (.Call (.Name "max" p) (e :: es) [] pos) (tCB rMaxA tr) (dCB dMax2 dr) :=
  de_callB (call_max2 cx.calm) rc_max2 hg hm (by decide +kernel) ha (by decide) (by decide) he hpl
theorem de_min2 {p : Pos} {tr : TA} {dr : TAd} (cx : Ctx X Xe) (hm : X.mg "min" = none) (ha : DA X K Dc Xe (e :: es) tr dr) (hg : Gl X "min" := by rfl)
    (he : starEach (e :: es) X.env = (false, eval e X.env) :: starEach es X.env := by rfl) (hpl : (backTo pos (starEach es X.env)).any (·.1) = false := by rfl) : DE X K Dc Xe (.Call (.Name "min" p) (e :: es) [] pos) (tCB rMinA tr) (dCB dMin2 dr) :=
  de_callB (call_min2 cx.calm) rc_min2 hg hm (by decide +kernel) ha (by decide) (by decide) he hpl
/-! a < b < c -/
@[simp] def dChain (r1 r2 : D → D → (D → Prop) → Prop) (da db dc : TEd) : TEd := fun sd P F => da sd (fun x => db sd (fun y => r1 x y (fun z => match z with | .bl true => dc sd (fun w => r2 y w P) F | .bl false => P (.bl false) | _ => False)) F) F
theorem re_chain {r r' : R2} {rd rd' : D → D → (D → Prop) → Prop} {tc : TE} {dc : TEd} (h : R2D K Dc r rd) (h' : R2D K Dc r' rd') (ha : RE K Dc Xe ta da) (hb : RE K Dc Xe tb db) (hc : RE K Dc Xe tc dc) : RE K Dc Xe (tChain r r' ta tb tc) (dChain rd rd' da db dc) := by
  intro Hb0 H0 F hF Hb H σ sd P Q m hd k
  refine ha Hb0 H0 F hF Hb H σ sd _ _ m hd fun Hb1 H1 x d g1 dx hd1 => ?_
  refine hb Hb0 H0 F hF Hb1 H1 σ sd _ _ (m.step g1) hd1 fun Hb2 H2 y e g2 dy hd2 => ?_
  refine h Hb2 H2 x y d e _ _ g2.ok (dx.mono g2.eb) dy hd2 fun Hb3 H3 v d' g3 dv hp => ?_
  cases d' <;> try exact hp.elim
  rename_i bb
  simp only [Dt] at dv
  refine ⟨bb, dv, ?_⟩
  have g := (g1.trans g2).trans g3
  cases bb with
  | true =>
    rw [if_pos rfl]
    refine hc Hb0 H0 F hF Hb3 H3 σ sd _ _ (m.step g) hp fun Hb4 H4 w d4 g4 dw hp4 => ?_
    exact h' Hb4 H4 y w e d4 P Q g4.ok ((dy.mono g3.eb).mono g4.eb) dw hp4 fun Hb5 H5 v d5 g5 dv5 hp5 => k Hb5 H5 v d5 ((g.trans g4).trans g5) dv5 hp5
  | false =>
    rw [if_neg Bool.false_ne_true]
    exact k Hb3 H3 _ _ g dt_bl hp
theorem de_lele {tc : TE} {dc : TEd} (ha : DE X K Dc Xe a ta da) (hb : DE X K Dc Xe b tb db) (hc : DE X K Dc Xe c tc dc) (hm : lastMarks [.LtE, .LtE] [b, c] = false := by with_unfolding_all rfl) :
    DE X K Dc Xe (.Compare a [.LtE, .LtE] [b, c] pos) (tChain (rI0 fun i j => .bl (decide (i ≤ j))) (rI0 fun i j => .bl (decide (i ≤ j))) ta tb tc) (dChain dLe dLe da db dc) := ⟨ha.hK, pe_chain op_le op_le ha.pe hb.pe hc.pe hm, re_chain r2_B0 r2_B0 ha.rd hb.rd hc.rd⟩
theorem dt_lele {tc : TE} {dc : TEd} (ha : DE X K Dc Xe a ta da) (hb : DE X K Dc Xe b tb db) (hc : DE X K Dc Xe c tc dc) (hm : lastMarks [.LtE, .LtE] [b, c] = false := by with_unfolding_all rfl) :
    DT X K Dc Xe (.Compare a [.LtE, .LtE] [b, c] pos) (tTest (tChain (rI0 fun i j => .bl (decide (i ≤ j))) (rI0 fun i j => .bl (decide (i ≤ j))) ta tb tc)) (dTest (dChain dLe dLe da db dc)) := ⟨ha.hK, pt_chain op_le op_le ha.pe hb.pe hc.pe hm, rt_test (re_chain r2_B0 r2_B0 ha.rd hb.rd hc.rd)⟩
/-! ### xs.insert(i, e), xs[i] = e, xs in a slot -/
def rInsA : V → List V → Hp → VK → Prop := fun x vs H Q => ∃ (l : Addr) (xs : List V) (i : Int) (y : V), x = .ref l ∧ vs = [.int i, y] ∧ H l = some (.lst xs) ∧ xs.length < sizeLine ∧ 0 ≤ i ∧ i < 2 ^ 63 ∧ Q .non (upd H l (.lst (xs.take i.toNat ++ [y] ++ xs.drop i.toNat)))
@[simp] def dIns (i : Nat) (da db : TEd) : TSd := fun De sd => match sd[i]? with
  | some (.own ds) => da sd (fun x => match x with | .int k => db sd (fun d => (ds.length < 100000 ∧ 0 ≤ k ∧ k < 1152921504606846976) ∧ De.nx (sd.set i (.own (ds.take k.toNat ++ [d] ++ ds.drop k.toNat)))) De.rs | _ => False) De.rs
  | _ => False
theorem rs_ins {i : Nat} (ha : RE K Dc Xe ta da) (hb : RE K Dc Xe tb db) : RS K Dc Xe (tDrop (tBM K "list" rInsA (tVar i) (tCons ta (tCons tb tNil)))) (dIns i da db) := by
  intro Hb0 H0 De E ok Hb H σ sd m hd
  unfold dIns at hd
  split at hd <;> try exact hd.elim
  rename_i ds e
  obtain ⟨o, h1, p, vs, h2, h3, h4, h5, h6, h7⟩ := m.sl i _ e
  subst h2
  refine ⟨.ref p, h1, .inl ⟨rfl, _, SqL.of h6⟩, ?_⟩
  refine ha Hb0 H0 De.rs ok.rs Hb H σ sd _ _ m hd fun Hb1 H1 v d g dv hp => ?_
  cases d <;> try exact hp.elim
  rename_i k
  simp only [Dt] at dv
  subst dv
  refine hb Hb0 H0 De.rs ok.rs Hb1 H1 σ sd _ _ (m.step g) hp fun Hb2 H2 w d2 g2 dw hp2 => ?_
  have g' := g.trans g2
  have m1 := m.step g'
  refine ⟨p, vs, k, w, rfl, rfl, g'.eh _ _ h6 h5 (fun _ h => nomatch h), Evl.sz_lt (by rw [h7.length]; exact hp2.1.1), hp2.1.2.1, by omega, ?_⟩
  have h8 := h7.mono g'.eb
  exact ok.nx Hb2 _ σ _ (m1.write e h1 (((h8.take k.toNat).append (dts_cons dw dts_nil)).append (h8.drop k.toNat))) hp2.2
/-! ### raise X('..'), X an own class over ValueError -/
def clsOf (mg : Str → Option Value) (x : Str) : Value := (mg x).getD .none
structure XC (K : PySem.W.Frag) (mg : Str → Option Value) (x : Str) : Prop where
  ex : ∃ C : Addr, mg x = some (.ref C) ∧ PySem.W.excIn K C [.type "ValueError", .type "Exception", .type "BaseException", .type "object"] "ValueError.__new__" = true ∧ PySem.W.keepIn K (.ref C) = true ∧ PySem.W.subIn K (.ref C) (.type "BaseException") = some true ∧ PySem.W.typeIn K (.ref C) = some (.type "type")
theorem ds_raiseC {x m : Str} {j : Nat} {p p2 pos2 : Pos} (cx : Ctx X Xe) (h : XC K X.mg x) (hg : Gl X x := by rfl) (hdb : (x == ("__debug__" : Str)) = false := by decide) (hK : X.K = K := by rfl) :
    DS X K Dc Xe (.Raise (some (.Call (.Name x p) [.Constant (.str m) j p2] [] pos)) none pos2) (fun _ σ H => Xe (clsOf X.mg x) none H) (fun De _ => De.rs (clsOf X.mg x)) := by
  obtain rfl := hK
  obtain ⟨C, h1, h2, h3, h4, h5⟩ := h.ex
  have e : clsOf X.mg x = .ref C := by unfold clsOf; rw [h1]; rfl
  rw [e]
  exact ds_raise (L2N.ps_raise cx.calm cx.tk (L2N.pmk_own PySem.F.excBase_ValueError h2 h1 h3 (raises_own h4 h5) hg hdb)) fun _ _ _ q => q
/-- xs.append(e) -/
theorem ds_append (i : Nat) {x : Str} {p p2 p3 : Pos} (h : DE X K Dc Xe e te dd) (hN : X.N[i]? = some x := by rfl) (hv : Vis X.env.scope x := by first | exact Or.inl rfl | exact Or.inr (Or.inl rfl) | exact Or.inr (Or.inr rfl))
    (hd : (x == ("__debug__" : Str)) = false := by decide) (hcd : (x == ("__classdict__" : Str)) = false := by decide)
    (hst : starEach [e] X.env = (false, eval e X.env) :: starEach [] X.env := by rfl)
    (pe : PE X (.Name x p) (tVar i) → PA X [e] (tCons te tNil) → PE X (.Call (.Attribute (.Name x p) "append" p2) [e] [] p3) (tBM K "list" rAppend (tVar i) (tCons te tNil)) := by
      intro h1 h2; exact pe_bm PySem.F.plainAttrs_list PySem.F.slot_list_append PySem.F.type_list_append mt_append h1 h2)
    (hs : swapsWith (.Call (.Attribute (.Name x p) "append" p2) [e] [] p3) none pos.line X.env = pure false := by rfl) :
    DS X K Dc Xe (.Expr (.Call (.Attribute (.Name x p) "append" p2) [e] [] p3) pos) (tDrop (tBM K "list" rAppend (tVar i) (tCons te tNil))) (dApp i dd) :=
  ⟨h.hK, ps_expr (pe (pe_var hN hv hd hcd) (pa_cons h.pe pa_nil hst)) hs, rs_app h.rd⟩
end
end RW

/-! instances: fields, methods, making; a deep «in»; insert; max -/
set_option Elab.async false
set_option linter.all false
set_option maxRecDepth 100000
set_option maxHeartbeats 2000000
namespace RW
open PySem L2
open Evl (Ex fresh_back)
def ixOf (f : Str) : List Str → Option Nat
  | [] => none
  | n :: ns => if f = n then some 0 else (ixOf f ns).map (· + 1)
theorem lookup_ix {f : Str} : ∀ {fs : List (Str × V)} {i : Nat} {v : V}, ixOf f (fs.map (·.1)) = some i → (fs.map (·.2))[i]? = some v → fs.lookup f = some v
  | [], _, _, h, _ => by simp [ixOf] at h
  | (n, u) :: fs, i, v, h, e => by
    simp only [List.map_cons, ixOf] at h
    by_cases q : f = n
    · rw [if_pos q] at h
      cases h
      simp at e
      subst e q
      simp [List.lookup]
    · rw [if_neg q] at h
      cases r : ixOf f (fs.map (·.1)) with
      | none => rw [r] at h; cases h
      | some j =>
        rw [r] at h
        cases h
        have qb : (f == n) = false := by simpa using q
        have := lookup_ix (fs := fs) r (by simpa using e)
        simpa [List.lookup, qb] using this
theorem lookup_no {f : Str} : ∀ {fs : List (Str × V)}, ixOf f (fs.map (·.1)) = none → fs.lookup f = none
  | [], _ => rfl
  | (n, u) :: fs, h => by
    simp only [List.map_cons, ixOf] at h
    by_cases q : f = n
    · rw [if_pos q] at h; cases h
    · rw [if_neg q] at h
      have qb : (f == n) = false := by simpa using q
      have := lookup_no (fs := fs) (by simpa using h)
      simpa [List.lookup, qb] using this
section
variable {X : Cx} {K : PySem.W.Frag} {Dc : Gr} {Xe : XK} {e a b c tg : Expr} {es : List Expr} {ta tb te : TE} {da db dd : TEd} {pos : Pos} {tt tu : TT} {dt du : TTd} {st : Stmt} {sts : List Stmt} {ts ts' : TS} {ds ds' : TSd}
/-- the parts of an instance of C with the names ns -/
def insOf (C : Addr) (ns : List Str) (x : D) (P : List D → Prop) : Prop := match x with
  | .ins C' ns' xs => (C' = C ∧ ns' = ns) ∧ P xs
  | _ => False
@[simp] theorem insOf_ins {C : Addr} {ns : List Str} {xs : List D} {P : List D → Prop} : insOf C ns (.ins C ns xs) P ↔ P xs := by simp [insOf]
@[simp] def dFld (C : Addr) (ns : List Str) (i : Nat) (dd : TEd) : TEd := fun sd P F => dd sd (fun x => insOf C ns x fun xs => match xs[i]? with | some d => P d | none => False) F
theorem de_fld {f : Str} {C : Addr} {ns : List Str} (i : Nat) (hc : Cls K C) (hn : NoAttr K C f) (hi : ixOf f ns = some i) (he : DE X K Dc Xe e te dd) (hb : attributeBase e f X.env (eval e X.env) = eval e X.env := by rfl) : DE X K Dc Xe (.Attribute e f pos) (tFld K te f) (dFld C ns i dd) := by
  obtain rfl := he.hK
  refine ⟨rfl, pe_fld he.pe hb, ?_⟩
  intro Hb0 H0 F hF Hb H σ sd P Q m hd k
  refine he.rd Hb0 H0 F hF Hb H σ sd _ _ m hd fun Hb1 H1 x d g1 dx hd1 => ?_
  cases d <;> try exact hd1.elim
  obtain ⟨⟨rfl, rfl⟩, hd1⟩ := hd1
  split at hd1 <;> try exact hd1.elim
  rename_i d' ed
  simp only [Dt] at dx
  obtain ⟨p, dx', fs, rfl, h1, h2, h3⟩ := dx
  obtain ⟨v, ev, dv⟩ := h3.get ed
  exact ⟨p, _, dx', fs, v, rfl, g1.sub _ _ h1, hc, hn, lookup_ix (by rw [h2]; exact hi) ev, k Hb1 H1 v d' g1 dv hd1⟩
/-- a method -/
structure MtD (P : Program) (w : World) (K : PySem.W.Frag) (mg : Str → Option Value) (base : Heap) (k : Nat) (C : Addr) (m : Str) (ps : List Str) (Ct : Ctr) : Prop where
  ex : ∃ (f : Addr) (fd : FuncData), FnOk P w K mg base (L2N.CX P w) k f fd ps (spD K Ct) ∧ Meth K C m f ∧ Binds K fd ps []
@[simp] def dMeth (C : Addr) (ns : List Str) (Ct : Ctr) (dd : TEd) (dr : TAd) : TEd := fun sd P F => dd sd (fun x => insOf C ns x fun xs => dr sd (fun args => Ct (.ins C ns xs :: args) P F) F) F
theorem re_meth {C : Addr} {ns : List Str} {m : Str} {Ct : Ctr} {tr : TA} {dr : TAd} (hi : ixOf m ns = none) (he : RE K Dc Xe te dd) (ha : RA K Dc Xe tr dr) : RE K Dc Xe (tMeth C m (spD K Ct) [] Xe te tr) (dMeth C ns Ct dd dr) := by
  intro Hb0 H0 F hF Hb H σ sd P Q mm hd k
  refine he Hb0 H0 F hF Hb H σ sd _ _ mm hd fun Hb1 H1 x d g1 dx hd1 => ?_
  cases d <;> try exact hd1.elim
  obtain ⟨⟨rfl, rfl⟩, hd1⟩ := hd1
  have dx0 := dx
  simp only [Dt] at dx
  obtain ⟨p, dx', fs, rfl, h1, h2, h3⟩ := dx
  refine ⟨p, dx', fs, rfl, g1.sub _ _ h1, lookup_no (by rw [h2]; exact hi), ?_⟩
  refine ha Hb0 H0 F hF Hb1 H1 σ sd _ _ (mm.step g1) hd1 fun Hb2 H2 vs ds g2 dv hd2 => ?_
  rw [List.append_nil]
  have g := g1.trans g2
  exact ⟨Dc, Hb2, _ :: ds, P, F, g2.ok, dts_cons (dx0.mono g2.eb) dv, hd2, fun Hb3 H3 v d g3 dv hp => k Hb3 H3 v d (g.trans g3) dv hp, fun Hb3 H3 c g3 hf => hF Hb3 H3 c (mm.g.trans (g.trans g3)) hf⟩
theorem de_meth {k : Nat} {C : Addr} {m : Str} {ps : List Str} {Ct : Ctr} {ns : List Str} {tr : TA} {dr : TAd} {apos : Pos} {pl : Sem Bool} (cx : Ctx X Xe) (hc : Cls K C) (hi : ixOf m ns = none) (M : MtD X.prog X.w K X.mg X.base k C m ps Ct) (hr : Room k X.A) (he : DE X K Dc Xe e te dd) (ha : DA X K Dc Xe (a :: es) tr dr)
    (hst : starEach (a :: es) X.env = (false, eval a X.env) :: starEach es X.env := by rfl) (hpl : (backTo pos (starEach es X.env)).any (·.1) = false := by rfl)
    (ht : eval (.Call (.Attribute e m apos) (a :: es) [] pos) X.env = (do
      let ov ← eval e X.env
      standAt apos.atName
      let (f, first) ← holding [ov] (getMethod ov m pl)
      callWith pos f first (backTo pos (starEach (a :: es) X.env)) (backToKw pos (keywordEach [] X.env))) := by rfl) :
    DE X K Dc Xe (.Call (.Attribute e m apos) (a :: es) [] pos) (tMeth C m (spD K Ct) [] Xe te tr) (dMeth C ns Ct dd dr) := by
  obtain rfl := he.hK
  obtain ⟨f, fd, F, hm, hb⟩ := M.ex
  exact ⟨rfl, pe_meth (pl := pl) he.pe hc hm F hr hb .nil cx.pass ha.pe hst hpl ht, re_meth hi he.rd ha.rd⟩
/-- C(..), whose __init__ lays its arguments into fields of the names ns, in order -/
def spInit (C : Addr) (ns : List Str) : Sp := fun vs H Q _ => ∃ (x dx : Addr) (us : List V), vs = .ref x :: us ∧ us.length = ns.length ∧ H x = some (.ins C dx []) ∧ ∀ H' : Hp, (∀ b, b ≠ x → H' b = H b) → H' x = some (.ins C dx (ns.zip us)) → Q .non H'
structure MkD (P : Program) (w : World) (K : PySem.W.Frag) (mg : Str → Option Value) (base : Heap) (k : Nat) (x : Str) (C : Addr) (ps ns : List Str) : Prop where
  ex : ∃ (f : Addr) (fd : FuncData), FnOk P w K mg base (L2N.CX P w) k f fd ps (spInit C ns) ∧ Mk K C f ∧ mg x = some (.ref C) ∧ Binds K fd ps []
@[simp] def dMake (C : Addr) (ns : List Str) (dr : TAd) : TEd := fun sd P F => dr sd (fun args => args.length = ns.length ∧ P (.ins C ns args)) F
theorem re_make {C : Addr} {ns : List Str} {tr : TA} {dr : TAd} (ha : RA K Dc Xe tr dr) : RE K Dc Xe (tMake C (spInit C ns) [] Xe tr) (dMake C ns dr) := by
  intro Hb0 H0 F hF Hb H σ sd P Q mm hd k
  refine ha Hb0 H0 F hF Hb H σ sd _ _ mm hd fun Hb1 H1 vs ds g1 dv hd1 => ?_
  intro x dx hx hdx ne
  rw [List.append_nil]
  refine ⟨x, dx, vs, rfl, by rw [dv.length]; exact hd1.1, upd_same, fun H' hs hx' => ⟨rfl, ?_⟩⟩
  have hbx : Hb1 x = none := fresh_back g1.sub hx
  have old : ∀ b o, H1 b = some o → H' b = some o := fun b o e => by
    rw [hs b (ne_of_none e hx), upd_ne (ne_of_none e hx), upd_ne (ne_of_none e hdx)]
    exact e
  have g2 : Good Dc Hb1 H1 (upd Hb1 x (.ins C dx (ns.zip vs))) H' := by
    refine ⟨Ex.new hbx, fun b o e _ _ => old b o e, fun b o e => ?_, fun b o e => ?_, fun b z => ?_, fun b z => ?_, fun a ps e => ⟨ps, old a _ e⟩, (g1.tb.ext old).updB (fun _ h => nomatch h)⟩
    · by_cases hb : b = x
      · subst hb
        rw [upd_same] at e
        rw [hx']
        exact e
      · rw [upd_ne hb] at e
        exact old b o (g1.sub b o e)
    · by_cases hb : b = x
      · subst hb
        exact .inr (.inl hx)
      · rw [upd_ne hb] at e
        exact .inl ⟨o, e⟩
    · obtain ⟨i, j, q⟩ := g1.dc b z
      exact ⟨i, j, old b _ q⟩
    · have nb : b ≠ x := fun q => by
        obtain ⟨i, j, r⟩ := g1.dc b z
        rw [q, hx] at r
        cases r
      rw [upd_ne nb]
      exact g1.dcb b z
  refine k _ H' (.ref x) (.ins C ns ds) (g1.trans g2) ?_ hd1.2
  have hl : vs.length = ns.length := by rw [dv.length]; exact hd1.1
  simp only [Dt]
  refine ⟨x, dx, ns.zip vs, rfl, upd_same, ?_, ?_⟩
  · rw [List.map_fst_zip (by omega)]
  · rw [List.map_snd_zip (by omega)]
    exact dv.mono g2.eb
theorem de_make {k : Nat} {x : Str} {C : Addr} {ps ns : List Str} {tr : TA} {dr : TAd} {p : Pos} (cx : Ctx X Xe) (M : MkD X.prog X.w K X.mg X.base k x C ps ns) (hr : Room (k + 1) X.A) (ha : DA X K Dc Xe (e :: es) tr dr) (hg : Gl X x := by rfl) (hdb : (x == ("__debug__" : Str)) = false := by decide)
    (he : starEach (e :: es) X.env = (false, eval e X.env) :: starEach es X.env := by rfl) (hpl : (backTo pos (starEach es X.env)).any (·.1) = false := by rfl) : DE X K Dc Xe (.Call (.Name x p) (e :: es) [] pos) (tMake C (spInit C ns) [] Xe tr) (dMake C ns dr) := by
  obtain rfl := ha.hK
  obtain ⟨f, fd, F, M, hm, hb⟩ := M.ex
  exact ⟨rfl, pe_make M F hr hg hm hb .nil cx.pass ha.pe hdb he hpl, re_make ha.rd⟩
/-- xs.insert(i, e) -/
theorem ds_insert (i : Nat) {x : Str} {p p2 p3 : Pos} (h1 : DE X K Dc Xe a ta da) (h2 : DE X K Dc Xe b tb db) (hN : X.N[i]? = some x := by rfl) (hv : Vis X.env.scope x := by first | exact Or.inl rfl | exact Or.inr (Or.inl rfl) | exact Or.inr (Or.inr rfl))
    (hd : (x == ("__debug__" : Str)) = false := by decide) (hcd : (x == ("__classdict__" : Str)) = false := by decide)
    (hst : starEach [a, b] X.env = (false, eval a X.env) :: starEach [b] X.env := by rfl) (hst2 : starEach [b] X.env = (false, eval b X.env) :: starEach [] X.env := by rfl)
    (pe : PE X (.Name x p) (tVar i) → PA X [a, b] (tCons ta (tCons tb tNil)) → PE X (.Call (.Attribute (.Name x p) "insert" p2) [a, b] [] p3) (tBM K "list" rInsA (tVar i) (tCons ta (tCons tb tNil))) := by
      intro h1 h2; exact pe_bm PySem.F.plainAttrs_list PySem.F.slot_list_insert PySem.F.type_list_insert mt_insert h1 h2)
    (hs : swapsWith (.Call (.Attribute (.Name x p) "insert" p2) [a, b] [] p3) none pos.line X.env = pure false := by rfl) :
    DS X K Dc Xe (.Expr (.Call (.Attribute (.Name x p) "insert" p2) [a, b] [] p3) pos) (tDrop (tBM K "list" rInsA (tVar i) (tCons ta (tCons tb tNil)))) (dIns i da db) :=
  ⟨h1.hK, ps_expr (pe (pe_var hN hv hd hcd) (pa_cons h1.pe (pa_cons h2.pe pa_nil hst2) hst)) hs, rs_ins h1.rd h2.rd⟩
/-- max(xs), xs a list of ints that isn't empty -/
def intsD : List D → Option (List Int)
  | [] => some []
  | .int i :: ds => (match intsD ds with | some is => some (i :: is) | none => none)
  | _ => none
theorem intsD_of {Hb : Hp} : ∀ {ds : List D} {vs : List V} {is : List Int}, Dts K Dc Hb ds vs → intsD ds = some is → vs = is.map V.int
  | [], vs, bs, h, e => by simp only [intsD] at e; cases e; rw [h.nil]; rfl
  | d :: ds, vs, bs, h, e => by
    obtain ⟨v, r, rfl, h1, h2⟩ := h.cons
    cases d <;> simp only [intsD] at e <;> try (cases e; done)
    split at e <;> try (cases e; done)
    rename_i bs' e'
    cases e
    simp only [Dt] at h1
    rw [h1, intsD_of h2 e']
    rfl
def dMax : List D → (D → Prop) → Prop := fun ds P => match lst1 ds with | some es => (match intsD es with | some is => 0 < is.length ∧ ∀ m, m ∈ is → (∀ y, y ∈ is → y ≤ m) → P (.int m) | none => False) | none => False
theorem rc_max : RCD K Dc (rMax K) dMax := by
  intro Hb H xs ds P Q ok hd h k
  unfold dMax at h
  split at h <;> try exact h.elim
  rename_i es e
  split at h <;> try exact h.elim
  rename_i bs eb
  obtain ⟨v, rfl, h1⟩ := lst1_of hd e
  simp only [Dt] at h1
  obtain ⟨p, ys, rfl, h1, h2⟩ := h1
  rw [intsD_of h2 eb] at h1
  exact ⟨p, bs, rfl, SqL.of (ok.sub _ _ h1), h.1, fun m hm hy => k Hb H _ _ ok dt_int (h.2 m hm hy)⟩
theorem de_max {p : Pos} {tr : TA} {dr : TAd} (cx : Ctx X Xe) (hm : X.mg "max" = none) (ha : DA X K Dc Xe (e :: es) tr dr) (hg : Gl X "max" := by rfl)
    (he : starEach (e :: es) X.env = (false, eval e X.env) :: starEach es X.env := by rfl) (hpl : (backTo pos (starEach es X.env)).any (·.1) = false := by rfl) : DE X K Dc Xe (.Call (.Name "max" p) (e :: es) [] pos) (tCB (rMax K) tr) (dCB dMax dr) :=
  by obtain rfl := ha.hK; exact de_callB (cr_max cx.calm) rc_max hg hm (by decide +kernel) ha (by decide) (by decide) he hpl
end
end RW

/-! dice, a deep «in» for tuples, dicts with pairs for keys, a, b, c = .. -/
set_option Elab.async false
set_option linter.all false
set_option maxRecDepth 100000
set_option maxHeartbeats 2000000
namespace RW
open PySem L2
open Evl (Ex fresh_back)
open PyProof.Rows (room_in_shaped)
section
variable {X : Cx} {K : PySem.W.Frag} {Dc : Gr} {Xe : XK} {e a b c tg : Expr} {es : List Expr} {ta tb te : TE} {da db dd : TEd} {pos : Pos} {tt tu : TT} {dt du : TTd} {st : Stmt} {sts : List Stmt} {ts ts' : TS} {ds ds' : TSd}
/-! ### dice[k] -/
@[simp] def dDix : D → D → (D → Prop) → Prop := fun x y P => match x, y with
  | .dice, .int i => (0 ≤ i ∧ i < 2) ∧ ∀ z, P (.int z)
  | _, _ => False
theorem two_at {i : Int} (h : 0 ≤ i ∧ i < 2) {x y : V} : ∃ j v, ixN 2 i = some j ∧ atI [x, y] i = some v ∧ (v = x ∨ v = y) ∧ j < 2 := by
  have : i = 0 ∨ i = 1 := by omega
  rcases this with rfl | rfl
  · exact ⟨0, x, by decide, rfl, .inl rfl, by decide⟩
  · exact ⟨1, y, by decide, rfl, .inr rfl, by decide⟩
theorem r2_dix : R2D K Dc (rIx K) dDix := by
  intro Hb H x y d e P Q ok hx hy h k
  cases d <;> cases e <;> try exact h.elim
  rename_i i
  simp only [Dt] at hx hy
  obtain ⟨p, rfl, hp⟩ := hx
  obtain ⟨z0, z1, hl⟩ := ok.dc p hp
  obtain ⟨j, v, h1, h2, h3, h4⟩ := two_at (x := .int z0) (y := .int z1) h.1
  have : ∃ z, v = .int z := by rcases h3 with rfl | rfl <;> exact ⟨_, rfl⟩
  obtain ⟨z, rfl⟩ := this
  exact .inl ⟨p, _, i, .int z, rfl, hy, SqL.of hl, h2, k Hb H _ _ ok dt_int (h.2 z)⟩
theorem de_dix (ha : DE X K Dc Xe a ta da) (hb : DE X K Dc Xe b tb db) (hs : PlainIx b := by exact fun _ _ => rfl) : DE X K Dc Xe (.Subscript a b pos) (tOp (rIx K) ta tb) (dOp dDix da db) := by obtain rfl := ha.hK; exact ⟨rfl, pe_ix ix_seq ha.pe hb.pe hs, re_op r2_dix ha.rd hb.rd⟩
/-- dice are written -/
theorem Good.roll {Hb0 H0 Hb H : Hp} {p : Addr} {i j : Int} (g : Good Dc Hb0 H0 Hb H) (hp : Dc p) : Good Dc Hb0 H0 Hb (upd H p (.lst [.int i, .int j])) := by
  have hk : ∀ o', H p = some o' → PlO o' := fun o' e => by
    obtain ⟨i, j, q⟩ := g.dc p hp
    rw [q] at e
    cases e
    exact plo_lst
  refine ⟨g.eb, fun a o e nd ht => ?_, fun a o e => ?_, g.dom, fun a z => ?_, g.dcb, fun a ps e => by
    obtain ⟨ps', e'⟩ := g.tk a ps e
    exact tbl_upd hk e', g.tb.updH hk (fun _ h => nomatch h)⟩
  · have na : a ≠ p := fun e => nd (e ▸ hp)
    rw [upd_ne na]; exact g.eh a o e nd ht
  · have na : a ≠ p := ne_of_none e (g.dcb p hp)
    rw [upd_ne na]; exact g.sub a o e
  · by_cases na : a = p
    · subst na
      exact ⟨i, j, upd_same⟩
    · rw [upd_ne na]; exact g.dc a z
theorem M.roll {Hb0 H0 Hb H : Hp} {σ : St} {sd : Sd} {p : Addr} {i j : Int} (m : M K Dc Hb0 H0 Hb H σ sd) (hp : Dc p) : M K Dc Hb0 H0 Hb (upd H p (.lst [.int i, .int j])) σ sd := by
  refine ⟨m.g.roll hp, m.len, fun n s e => ?_, m.ne, m.nd⟩
  obtain ⟨o, h1, h2⟩ := m.sl n s e
  refine ⟨o, h1, ?_⟩
  cases s with
  | un => trivial
  | dat d => exact h2
  | own ds =>
    obtain ⟨q, vs, e1, e2, e3, e4, e5, e6⟩ := h2
    have nq : q ≠ p := fun e => e4 (e ▸ hp)
    exact ⟨q, vs, e1, e2, e3, e4, by rw [upd_ne nq]; exact e5, e6⟩
  | dct ds =>
    obtain ⟨q, vs, e1, e2, e3, e4, e5, e6⟩ := h2
    have nq : q ≠ p := fun e => e4 (e ▸ hp)
    exact ⟨q, vs, e1, e2, e3, e4, by rw [upd_ne nq]; exact e5, e6⟩
@[simp] def dDput (da db dd : TEd) : TSd := fun De sd => dd sd (fun x => match x with
  | .int _ => da sd (fun o => match o with
    | .dice => db sd (fun k => match k with | .int k => (0 ≤ k ∧ k < 2) ∧ De.nx sd | _ => False) De.rs
    | _ => False) De.rs
  | _ => False) De.rs
theorem ds_diceput {v : Expr} {pos' : Pos} (ha : DE X K Dc Xe a ta da) (hb : DE X K Dc Xe b tb db) (h : DE X K Dc Xe v te dd)
    (hs : swapsWithSole [.Subscript a b pos'] v pos.line X.env = pure false := by rfl) (hw : swappedStores [.Subscript a b pos'] v X.env = pure none := by rfl)
    (h1 : (assignEach [.Subscript a b pos'] X.env).map (·.2) = [assign (.Subscript a b pos') X.env] := by rfl)
    (hx : ∀ v, assign (.Subscript a b pos') X.env v = (do
      let ov ← holding [v] (eval a X.env)
      let iv ← holding [v, ov] (eval b X.env)
      standAt pos'
      holding [v, ov, iv] (setItem ov iv v)
      release [v, ov, iv] []) := by intro _; rfl) : DS X K Dc Xe (.Assign [.Subscript a b pos'] v pos) (tAsg te (gSub ta tb rSetL)) (dDput da db dd) :=
  ⟨h.hK, ps_asg h.pe (pg_sub ha.pe hb.pe set_list hx) hs hw h1, by
    intro Hb0 H0 De E ok Hb H σ sd m hd
    refine h.rd Hb0 H0 De.rs ok.rs Hb H σ sd _ _ m hd fun Hb1 H1 v d g dv hp => ?_
    cases d <;> try exact hp.elim
    simp only [Dt] at dv
    subst dv
    refine ha.rd Hb0 H0 De.rs ok.rs Hb1 H1 σ sd _ _ (m.step g) hp fun Hb2 H2 v2 d2 g2 dv2 hp2 => ?_
    cases d2 <;> try exact hp2.elim
    refine hb.rd Hb0 H0 De.rs ok.rs Hb2 H2 σ sd _ _ ((m.step g).step g2) hp2 fun Hb3 H3 v3 d3 g3 dv3 hp3 => ?_
    cases d3 <;> try exact hp3.elim
    simp only [Dt] at dv2 dv3
    obtain ⟨p, rfl, hpd⟩ := dv2
    subst dv3
    rename_i k
    have m3 := ((m.step g).step g2).step g3
    obtain ⟨z0, z1, hl⟩ := m3.g.dc p hpd
    refine ⟨p, _, k, (if k = 0 then 0 else 1), rfl, rfl, hl, ?_, ?_⟩
    · have : k = 0 ∨ k = 1 := by have := hp3.1; omega
      rcases this with rfl | rfl <;> rfl
    · have : k = 0 ∨ k = 1 := by have := hp3.1; omega
      rcases this with rfl | rfl
      · exact ok.nx Hb3 _ σ sd (m3.roll hpd) hp3.2
      · exact ok.nx Hb3 _ σ sd (m3.roll hpd) hp3.2⟩
/-! ### x in (..), deep -/
theorem u65 {k : Nat} {A : Around} (r : Room k A) : A.units + 65 < cLine := by have := r.un; omega
def rInT (K : PySem.W.Frag) : R2 := fun x y H Q => ∃ d ds, Dp K H x d ∧ Dp K H y (.tuple ds) ∧ SeqAt.shaped d = true ∧ SeqAt.shaped (.tuple ds) = true ∧ Q (.bl (ds.any fun z => PyData.eqv z d)) H
theorem op_inT (hu : X.A.units + 65 < cLine) : OpR X (compareOp .In) (rInT X.K) := by
  intro pins s σ H x y v u Q I rx ry h
  obtain ⟨d, ds, hd, he, sd, se, q⟩ := h
  obtain ⟨as, r1⟩ := Dp.reads I d x v hd rx
  obtain ⟨bs, r2⟩ := Dp.reads I (.tuple ds) y u he ry
  exact SeqAt.in_tuple_reads r2 r1 (SeqAt.canLay_of_shaped se) (SeqAt.canLay_of_shaped sd) (room_in_shaped sd hu) ⟨.bl _, H, I, rfl, q⟩
@[simp] def dInT : D → D → (D → Prop) → Prop := fun x y P => match y with
  | .tup ds => (shp x ∧ shp (.tup ds)) ∧ P (.bl ((toPys ds).any fun z => PyData.eqv z (toPy x)))
  | _ => False
theorem r2_inT : R2D K Dc (rInT K) dInT := by
  intro Hb H x y d e P Q ok hx hy h k
  cases e <;> try exact h.elim
  exact ⟨_, _, dp_mono ok.sub hx (SeqAt.canLay_of_shaped h.1.1), dp_mono ok.sub hy (SeqAt.canLay_of_shaped h.1.2), h.1.1, h.1.2, k Hb H _ _ ok dt_bl h.2⟩
theorem de_inT {k : Nat} (hr : Room k X.A) (ha : DE X K Dc Xe a ta da) (hb : DE X K Dc Xe b tb db) (hm : behindInMarks .In b = false := by rfl) : DE X K Dc Xe (.Compare a [.In] [b] pos) (tOp (rInT K) ta tb) (dOp dInT da db) := by obtain rfl := ha.hK; exact de_cmp (op_inT (u65 hr)) r2_inT ha hb hm
theorem dt_inT {k : Nat} (hr : Room k X.A) (ha : DE X K Dc Xe a ta da) (hb : DE X K Dc Xe b tb db) (hm : behindInMarks .In b = false := by rfl) : DT X K Dc Xe (.Compare a [.In] [b] pos) (tTest (tOp (rInT K) ta tb)) (dTest (dOp dInT da db)) := by obtain rfl := ha.hK; exact dt_cmp (op_inT (u65 hr)) r2_inT ha hb hm
@[simp] def dInL (neg : Bool) : D → D → (D → Prop) → Prop := fun x y P => match y with
  | .lst ds => (shp x ∧ shp (.lst ds)) ∧ P (.bl (if neg then !((toPys ds).any fun z => PyData.eqv z (toPy x)) else (toPys ds).any fun z => PyData.eqv z (toPy x)))
  | _ => False
theorem r2_inD : R2D K Dc (rInD K) (dInL false) := by
  intro Hb H x y d e P Q ok hx hy h k
  cases e <;> try exact h.elim
  exact ⟨_, _, dp_mono ok.sub hx (SeqAt.canLay_of_shaped h.1.1), dp_mono ok.sub hy (SeqAt.canLay_of_shaped h.1.2), h.1.1, h.1.2, k Hb H _ _ ok dt_bl h.2⟩
theorem r2_notInD : R2D K Dc (rNotInD K) (dInL true) := by
  intro Hb H x y d e P Q ok hx hy h k
  cases e <;> try exact h.elim
  exact ⟨_, _, dp_mono ok.sub hx (SeqAt.canLay_of_shaped h.1.1), dp_mono ok.sub hy (SeqAt.canLay_of_shaped h.1.2), h.1.1, h.1.2, k Hb H _ _ ok dt_bl h.2⟩
theorem de_inD {k : Nat} (hr : Room k X.A) (ha : DE X K Dc Xe a ta da) (hb : DE X K Dc Xe b tb db) (hm : behindInMarks .In b = false := by rfl) : DE X K Dc Xe (.Compare a [.In] [b] pos) (tOp (rInD K) ta tb) (dOp (dInL false) da db) := by obtain rfl := ha.hK; exact de_cmp (op_inD (u65 hr)) r2_inD ha hb hm
theorem dt_inD {k : Nat} (hr : Room k X.A) (ha : DE X K Dc Xe a ta da) (hb : DE X K Dc Xe b tb db) (hm : behindInMarks .In b = false := by rfl) : DT X K Dc Xe (.Compare a [.In] [b] pos) (tTest (tOp (rInD K) ta tb)) (dTest (dOp (dInL false) da db)) := by obtain rfl := ha.hK; exact dt_cmp (op_inD (u65 hr)) r2_inD ha hb hm
theorem dt_notInD {k : Nat} (hr : Room k X.A) (ha : DE X K Dc Xe a ta da) (hb : DE X K Dc Xe b tb db) (hm : behindInMarks .NotIn b = false := by rfl) : DT X K Dc Xe (.Compare a [.NotIn] [b] pos) (tTest (tOp (rNotInD K) ta tb)) (dTest (dOp (dInL true) da db)) := by obtain rfl := ha.hK; exact dt_cmp (op_notInD (u65 hr)) r2_notInD ha hb hm
/-! ### a, b, c = x, y, z -/
theorem ds_par3 (i j l : Nat) {x y z : Str} {tr : TA} {dr : TAd} {px py pz pt : Pos} {kt k2 pt2} (hc : X.calm = true) (hN : X.N.Nodup) (h : DA X K Dc Xe [a, b, c] tr dr) (hi : X.N[i]? = some x := by rfl) (hj : X.N[j]? = some y := by rfl) (hl : X.N[l]? = some z := by rfl) (hij : i ≠ j := by decide) (hil : i ≠ l := by decide) (hjl : j ≠ l := by decide)
    (hx : X.env.scope.names.lookup x = some .local := by rfl) (hy : X.env.scope.names.lookup y = some .local := by rfl) (hz : X.env.scope.names.lookup z = some .local := by rfl)
    (hw : swappedStores [.Tuple [.Name x px, .Name y py, .Name z pz] kt pt] (.Tuple [a, b, c] k2 pt2) X.env = pure (some [x, y, z]) := by rfl)
    (hs : swapsWithSole [.Tuple [.Name x px, .Name y py, .Name z pz] kt pt] (.Tuple [a, b, c] k2 pt2) pos.line X.env = pure false := by rfl) :
    DS X K Dc Xe (.Assign [.Tuple [.Name x px, .Name y py, .Name z pz] kt pt] (.Tuple [a, b, c] k2 pt2) pos) (tPar3 i j l tr) (dPar3 i j l dr) := ⟨h.hK, ps_par3 hc hN hi hj hl hij hil hjl hx hy hz h.pe hw hs, by
  intro Hb0 H0 De E ok Hb H σ sd m hd
  refine h.rd Hb0 H0 De.rs ok.rs Hb H σ sd _ _ m hd fun Hb1 H1 vs ds g dv hp => ?_
  rcases ds with _ | ⟨d1, _ | ⟨d2, _ | ⟨d3, _ | ⟨d4, r⟩⟩⟩⟩ <;> try exact hp.elim
  · obtain ⟨v1, r1, rfl, h1, hr⟩ := dv.cons
    obtain ⟨v2, r2, rfl, h2, hr2⟩ := hr.cons
    obtain ⟨v3, r3, rfl, h3, hr3⟩ := hr2.cons
    rw [hr3.nil]
    exact ⟨v1, v2, v3, rfl, ok.nx Hb1 H1 _ _ ((((m.step g).set h1).set h2).set h3) hp⟩⟩
/-! ### dicts -/
def putD (kvs : List ((Int × Int) × D)) (k : Int × Int) (d : D) : List ((Int × Int) × D) := if (kvs.lookup k).isSome then kvs.map (fun r => if r.1 = k then (k, d) else r) else kvs ++ [(k, d)]
abbrev keyK (k : Int × Int) : List Key := [Sum.inl k.1, Sum.inl k.2]
theorem keyK_inj {k l : Int × Int} : keyK k = keyK l ↔ k = l := by
  constructor
  · intro h
    simp at h
    exact Prod.ext h.1 h.2
  · rintro rfl; rfl
theorem kvr_val {Hb : Hp} {k : Int × Int} : ∀ {kvs : List ((Int × Int) × D)} {ws : List (List Key × V)}, KvR K Dc Hb kvs ws → match kvs.lookup k with | some d => ∃ v, valV ws (keyK k) = some v ∧ Dt K Dc Hb d v | none => valV ws (keyK k) = none
  | [], _, h => by
    have h : _ = [] := h
    subst h
    rfl
  | (l, d) :: r, _, ⟨v, ws', e1, e2, e3⟩ => by
    subst e1
    by_cases q : k = l
    · subst q
      simp only [List.lookup, beq_self_eq_true]
      exact ⟨v, valV_pos rfl, e2⟩
    · have qb : (k == l) = false := by simpa using q
      have nk : ¬ (keyK l = keyK k) := fun z => q (keyK_inj.mp z).symm
      have ih := kvr_val (k := k) e3
      simp only [List.lookup, qb]
      rw [valV_neg nk]
      exact ih
theorem kvr_len {Hb : Hp} : ∀ {kvs : List ((Int × Int) × D)} {ws : List (List Key × V)}, KvR K Dc Hb kvs ws → ws.length = kvs.length
  | [], _, h => by
    have h : _ = [] := h
    subst h
    rfl
  | (l, d) :: r, _, ⟨v, ws', e1, e2, e3⟩ => by
    subst e1
    rw [List.length_cons, List.length_cons, kvr_len e3]
theorem kvr_map {Hb : Hp} {k : Int × Int} {d : D} {v : V} (hd : Dt K Dc Hb d v) : ∀ {kvs : List ((Int × Int) × D)} {ws : List (List Key × V)}, KvR K Dc Hb kvs ws → KvR K Dc Hb (kvs.map (fun r => if r.1 = k then (k, d) else r)) (ws.map (fun kv => if kv.1 = keyK k then (kv.1, v) else kv))
  | [], _, h => by
    have h : _ = [] := h
    subst h
    rfl
  | (l, c) :: r, _, ⟨u, ws', e1, e2, e3⟩ => by
    subst e1
    have ih := kvr_map (k := k) hd e3
    by_cases q : l = k
    · subst q
      simp only [List.map_cons, if_true]
      exact ⟨v, _, rfl, hd, ih⟩
    · have nk : ¬ (keyK l = keyK k) := fun z => q (keyK_inj.mp z)
      simp only [List.map_cons, if_neg q, if_neg nk]
      exact ⟨u, _, rfl, e2, ih⟩
theorem kvr_snoc {Hb : Hp} {k : Int × Int} {d : D} {v : V} (hd : Dt K Dc Hb d v) : ∀ {kvs : List ((Int × Int) × D)} {ws : List (List Key × V)}, KvR K Dc Hb kvs ws → KvR K Dc Hb (kvs ++ [(k, d)]) (ws ++ [(keyK k, v)])
  | [], _, h => by
    have h : _ = [] := h
    subst h
    exact ⟨v, [], rfl, hd, rfl⟩
  | (l, c) :: r, _, ⟨u, ws', e1, e2, e3⟩ => by
    subst e1
    exact ⟨u, _, rfl, e2, kvr_snoc hd e3⟩
theorem kvr_put {Hb : Hp} {k : Int × Int} {d : D} {v : V} {kvs : List ((Int × Int) × D)} {ws : List (List Key × V)} (h : KvR K Dc Hb kvs ws) (hd : Dt K Dc Hb d v) : KvR K Dc Hb (putD kvs k d) (putK ws (keyK k) v) := by
  have hv := kvr_val (k := k) h
  unfold putD putK
  rw [valV_any]
  cases q : kvs.lookup k with
  | none =>
    rw [q] at hv
    rw [hv]
    exact kvr_snoc hd h
  | some c =>
    rw [q] at hv
    obtain ⟨u, e, _⟩ := hv
    rw [e]
    simp only [Option.isSome_some, if_true]
    exact kvr_map hd h
/-- a slot takes a new dict -/
theorem M.setDct {Hb0 H0 Hb H : Hp} {σ : St} {sd : Sd} {i : Nat} {p : Addr} (m : M K Dc Hb0 H0 Hb H σ sd) (hp : H p = none) (hn : ∀ (j : Nat) ks, j ≠ i → sd[j]? ≠ some (.dct ks)) : M K Dc Hb0 H0 Hb (upd H p (.dT [])) (σ.set i (some (.ref p))) (sd.set i (.dct [])) := by
  have g := Good.newH (o := .dT []) m.g.ok hp
  have m1 := m.step g
  have nd : ¬ Dc p := m.g.ndc hp
  have lt : ∀ {n : Nat} {z : Slot}, (sd.set i (.dct []))[n]? = some z → n < sd.length := fun e => by
    have := (List.getElem?_eq_some_iff.mp e).1
    simpa using this
  refine ⟨m1.g, by simpa using m1.len, fun j s e => ?_, fun j k es fs q hjk e1 e2 e3 => ?_, fun j k es fs e1 e2 => ?_⟩
  · by_cases hj : i = j
    · subst hj
      have hl := lt e
      rw [List.getElem?_set_self hl] at e
      cases e
      exact ⟨_, List.getElem?_set_self (by rw [m.len]; exact hl), p, [], rfl, m.g.notnone hp, fresh_back m.g.sub hp, nd, upd_same, rfl⟩
    · rw [List.getElem?_set_ne hj] at e ⊢
      exact m1.sl j s e
  · have ne : ∀ {n : Nat} {zs : List D}, (sd.set i (.dct []))[n]? = some (.own zs) → i ≠ n := fun {n zs} en z => by
      subst z
      rw [List.getElem?_set_self (lt en)] at en
      cases en
    have n1 := ne e1
    have n2 := ne e2
    rw [List.getElem?_set_ne n1] at e1 e3
    rw [List.getElem?_set_ne n2] at e2 ⊢
    exact m.ne j k es fs q hjk e1 e2 e3
  · have eq : ∀ {n : Nat} {zs}, (sd.set i (.dct []))[n]? = some (.dct zs) → n = i := fun {n zs} en => by
      by_cases hn' : i = n
      · exact hn'.symm
      · rw [List.getElem?_set_ne hn'] at en
        exact absurd en (hn n zs (fun z => hn' z.symm))
    rw [eq e1, eq e2]
def noDct : Sd → Bool
  | [] => true
  | .dct _ :: _ => false
  | _ :: r => noDct r
theorem noDct_of : ∀ {sd : Sd} {j : Nat} {ks}, noDct sd = true → sd[j]? ≠ some (.dct ks)
  | [], j, ks, _ => by simp
  | s :: r, 0, ks, h => by
    intro e
    simp at e
    subst e
    simp [noDct] at h
  | s :: r, j + 1, ks, h => by
    have : noDct r = true := by cases s <;> simp_all [noDct]
    simpa using noDct_of (j := j) (ks := ks) this
@[simp] def dDNew (i : Nat) : TSd := fun De sd => noDct sd = true ∧ De.nx (sd.set i (.dct []))
theorem ds_dnew (i : Nat) {x : Str} {pos' p2 : Pos} (hN : X.N.Nodup) (hi : X.N[i]? = some x := by rfl) (hx : Loc X.env.scope x := by first | exact Or.inl rfl | exact Or.inr rfl) (hs : swapsWith (.Dict [] [] p2) (some (.Name x pos')) pos.line X.env = pure false := by rfl) (hf : X.fn x = true ∨ X.env.scope.names.lookup x = some .local := by first | exact .inl rfl | exact .inr rfl | assumption) (hK : X.K = K := by rfl) :
    DS X K Dc Xe (.Assign [.Name x pos'] (.Dict [] [] p2) pos) (tAsg tDNewT (gName i)) (dDNew i) := ⟨hK, ps_set hN hi hx pe_dnewT hs hf, by
  intro Hb0 H0 De E ok Hb H σ sd m hd p hp
  exact ok.nx _ _ _ _ (m.setDct hp fun j ks _ => noDct_of hd.1) hd.2⟩
@[simp] def pairOf : D → Option (Int × Int)
  | .tup [.int a, .int b] => some (a, b)
  | _ => none
theorem pairOf_of {Hb : Hp} {d : D} {v : V} {k : Int × Int} (h : Dt K Dc Hb d v) (e : pairOf d = some k) : ∃ b, v = .ref b ∧ Hb b = some (.tup ((keyK k).map kV)) := by
  unfold pairOf at e
  split at e
  · cases e
    simp only [Dt, Dts] at h
    obtain ⟨p, xs, rfl, h1, v, r, rfl, rfl, v2, r2, rfl, rfl, rfl⟩ := h
    exact ⟨p, rfl, h1⟩
  · cases e
/-- the dict in a slot is written -/
theorem M.writeD {Hb0 H0 Hb H : Hp} {σ : St} {sd : Sd} {i : Nat} {p : Addr} {ws : List (List Key × V)} {ks ls : List ((Int × Int) × D)} (m : M K Dc Hb0 H0 Hb H σ sd) (e : sd[i]? = some (.dct ks)) (es' : σ[i]? = some (some (.ref p))) (hd : KvR K Dc Hb ls ws) :
    M K Dc Hb0 H0 Hb (upd H p (.dT ws)) σ (sd.set i (.dct ls)) := by
  obtain ⟨o, h1, p', vs', h2, h3, h4, h5, h6, h7⟩ := m.sl i _ e
  rw [h1] at es'
  cases es'
  cases h2
  have hl : i < sd.length := (List.getElem?_eq_some_iff.mp e).1
  have ne : ∀ {n : Nat} {zs : List D}, (sd.set i (.dct ls))[n]? = some (.own zs) → sd[n]? = some (.own zs) := fun {n zs} en => by
    by_cases hn : i = n
    · subst hn
      rw [List.getElem?_set_self hl] at en
      cases en
    · rw [List.getElem?_set_ne hn] at en
      exact en
  refine ⟨m.g.mut h3 h4 h5 (fun o' e => by rw [h6] at e; cases e; exact plo_dT), by simpa using m.len, fun j s ej => ?_, fun j k as bs q hjk e1 e2 e3 => m.ne j k as bs q hjk (ne e1) (ne e2) e3, fun j k as bs e1 e2 => ?_⟩
  · by_cases hj : i = j
    · subst hj
      rw [List.getElem?_set_self hl] at ej
      cases ej
      exact ⟨_, h1, p, ws, rfl, h3, h4, h5, upd_same, hd⟩
    · rw [List.getElem?_set_ne hj] at ej
      obtain ⟨o', g1, g2⟩ := m.sl j s ej
      refine ⟨o', g1, ?_⟩
      cases s with
      | un => trivial
      | dat d => exact g2
      | own fs =>
        obtain ⟨q, ws, rfl, k2, k3, k4, k5, k6⟩ := g2
        have hq : q ≠ p := ne_of k5 h6 (by intro z; cases z)
        exact ⟨q, ws, rfl, k2, k3, k4, by rw [upd_ne hq]; exact k5, k6⟩
      | dct fs => exact absurd (m.nd i j ks fs e ej) hj
  · have get : ∀ {n : Nat} {zs}, (sd.set i (.dct ls))[n]? = some (.dct zs) → ∃ ys, sd[n]? = some (.dct ys) := fun {n zs} en => by
      by_cases hn : i = n
      · subst hn
        exact ⟨ks, e⟩
      · rw [List.getElem?_set_ne hn] at en
        exact ⟨zs, en⟩
    obtain ⟨as', e1'⟩ := get e1
    obtain ⟨bs', e2'⟩ := get e2
    exact m.nd j k as' bs' e1' e2'
@[simp] def dDPutS (i : Nat) (dk dv : TEd) : TSd := fun De sd => match sd[i]? with
  | some (.dct ks) => dv sd (fun d => dk sd (fun k => match pairOf k with | some k => ks.length < 100000 ∧ De.nx (sd.set i (.dct (putD ks k d))) | none => False) De.rs) De.rs
  | _ => False
theorem ds_dictput (i : Nat) {x : Str} {v : Expr} {p pos' : Pos} {k : Nat} (hr : Room k X.A) (hb : DE X K Dc Xe b tb db) (h : DE X K Dc Xe v te dd) (hN : X.N[i]? = some x := by rfl) (hv : Vis X.env.scope x := by first | exact Or.inl rfl | exact Or.inr (Or.inl rfl) | exact Or.inr (Or.inr rfl))
    (hd : (x == ("__debug__" : Str)) = false := by decide) (hcd : (x == ("__classdict__" : Str)) = false := by decide) (hs : swapsWith v (some (.Subscript (.Name x p) b pos')) pos.line X.env = pure false := by rfl) :
    DS X K Dc Xe (.Assign [.Subscript (.Name x p) b pos'] v pos) (sDPut (tVar i) tb te) (dDPutS i db dd) := ⟨h.hK, ps_dput (by have := hr.units; omega) (pe_var hN hv hd hcd) hb.pe h.pe hs, by
  intro Hb0 H0 De E ok Hb H σ sd m hd
  unfold dDPutS at hd
  split at hd <;> try exact hd.elim
  rename_i ks e
  refine h.rd Hb0 H0 De.rs ok.rs Hb H σ sd _ _ m hd fun Hb1 H1 v d g dv hp => ?_
  obtain ⟨o, h1, p, ws, h2, h3, h4, h5, h6, h7⟩ := (m.step g).sl i _ e
  subst h2
  refine ⟨.ref p, h1, ?_⟩
  refine hb.rd Hb0 H0 De.rs ok.rs Hb1 H1 σ sd _ _ (m.step g) hp fun Hb2 H2 v2 d2 g2 dv2 hp2 => ?_
  split at hp2 <;> try exact hp2.elim
  rename_i k ek
  obtain ⟨b, rfl, hbk⟩ := pairOf_of dv2 ek
  have m2 := (m.step g).step g2
  exact ⟨p, _, rfl, DPut.t (g2.eh _ _ h6 h5 (fun _ h => nomatch h)) (g2.sub _ _ hbk) (Evl.sz_lt (by rw [kvr_len h7]; exact hp2.1)), ok.nx Hb2 _ σ _ (m2.writeD e h1 (kvr_put (h7.mono g2.eb) (dv.mono g2.eb))) hp2.2⟩⟩
@[simp] def dDGetS (i : Nat) (dk : TEd) : TEd := fun sd P F => match sd[i]? with
  | some (.dct ks) => dk sd (fun k => match pairOf k with | some k => (match ks.lookup k with | some d => P d | none => False) | none => False) F
  | _ => False
theorem de_dictget (i : Nat) {x : Str} {p : Pos} (hr : X.A.units + 1 < cLine) (hb : DE X K Dc Xe b tb db) (hN : X.N[i]? = some x := by rfl) (hv : Vis X.env.scope x := by first | exact Or.inl rfl | exact Or.inr (Or.inl rfl) | exact Or.inr (Or.inr rfl))
    (hd : (x == ("__debug__" : Str)) = false := by decide) (hcd : (x == ("__classdict__" : Str)) = false := by decide) (hs : NoSl b := by exact fun _ _ => rfl) :
    DE X K Dc Xe (.Subscript (.Name x p) b pos) (tDGet (tVar i) tb) (dDGetS i db) := ⟨hb.hK, pe_dget hr (pe_var hN hv hd hcd) hb.pe hs, by
  intro Hb0 H0 F hF Hb H σ sd P Q m hd k
  unfold dDGetS at hd
  split at hd <;> try exact hd.elim
  rename_i ks e
  obtain ⟨o, h1, p, ws, h2, h3, h4, h5, h6, h7⟩ := m.sl i _ e
  subst h2
  refine ⟨.ref p, h1, ?_⟩
  refine hb.rd Hb0 H0 F hF Hb H σ sd _ _ m hd fun Hb2 H2 v2 d2 g2 dv2 hp2 => ?_
  split at hp2 <;> try exact hp2.elim
  rename_i kk ek
  split at hp2 <;> try exact hp2.elim
  rename_i d ed
  obtain ⟨b, rfl, hbk⟩ := pairOf_of dv2 ek
  have hv := kvr_val (k := kk) (h7.mono g2.eb)
  rw [ed] at hv
  obtain ⟨u, e1, e2⟩ := hv
  have q := DGet.t (g2.eh _ _ h6 h5 (fun _ h => nomatch h)) (g2.sub _ _ hbk)
  rw [e1] at q
  exact ⟨p, u, rfl, q, k Hb2 H2 u d g2 e2 hp2⟩⟩
/-- list(d) -/
def keyD (k : Int × Int) : D := .tup [.int k.1, .int k.2]
theorem tell_keys {H : Hp} : ∀ {ks : List ((Int × Int) × D)} {ws : List (List Key × V)} {bs : List Addr} {Hb : Hp}, Ok Dc Hb H → True → KvR K Dc Hb ks ws → IsKeys H ws bs → ∃ Hb', Good Dc Hb H Hb' H ∧ Dts K Dc Hb' (ks.map fun r => keyD r.1) (bs.map V.ref)
  | [], _, bs, Hb, ok, _, h, hk => by
    have h : _ = [] := h
    subst h
    cases hk
    exact ⟨Hb, ok, dts_nil⟩
  | (l, d) :: r, _, bs, Hb, ok, t, ⟨v, ws', e1, e2, e3⟩, hk => by
    subst e1
    cases hk with
    | cons h1 h2 =>
      rename_i b bs
      have g := Good.tell (p := b) (xs := (keyK l).map kV) ok h1
      obtain ⟨Hb', g2, h3⟩ := tell_keys g.ok t (e3.mono g.eb) h2
      refine ⟨Hb', g.trans g2, dts_cons ?_ h3⟩
      have hb : Hb' b = some (.tup ((keyK l).map kV)) := g2.eb _ _ upd_same
      unfold keyD
      simp only [Dt]
      exact ⟨b, _, rfl, hb, dts_cons dt_int (dts_cons dt_int dts_nil)⟩
@[simp] def dKeys (i : Nat) : TAd := fun sd P _ => match sd[i]? with
  | some (.dct ks) => P (ks.map fun r => keyD r.1)
  | _ => False
def rKeysT : List V → Hp → VK → Prop := fun xs H Q => ∃ d kvs, xs = [V.ref d] ∧ Rd H d (.dT kvs) ∧ ∀ p bs, H p = none → IsKeys H kvs bs → Q (.ref p) (upd H p (.lst (bs.map V.ref)))
theorem dl_keys (i : Nat) {x : Str} {p p2 : Pos} (cx : Ctx X Xe) (hm : X.mg "list" = none) (hN : X.N[i]? = some x := by rfl) (hv : Vis X.env.scope x := by first | exact Or.inl rfl | exact Or.inr (Or.inl rfl) | exact Or.inr (Or.inr rfl))
    (hd : (x == ("__debug__" : Str)) = false := by decide) (hcd : (x == ("__classdict__" : Str)) = false := by decide) (hg : Gl X "list" := by rfl)
    (he : starEach [.Name x p] X.env = (false, eval (.Name x p) X.env) :: starEach [] X.env := by rfl) (hpl : (backTo pos (starEach [] X.env)).any (·.1) = false := by rfl) (hK : X.K = K := by rfl) : DL X K Dc Xe (.Call (.Name "list" p2) [.Name x p] [] pos) (tCB rKeysT (tCons (tVar i) tNil)) (dKeys i) := by
  refine ⟨hK, pe_callTy (call_list_dT cx.calm) hg hm (by decide +kernel) (pa_cons (pe_var hN hv hd hcd) pa_nil he) (by decide) (by decide) he hpl, ?_⟩
  intro Hb0 H0 F hF Hb H σ sd P Q m hd k
  unfold dKeys at hd
  split at hd <;> try exact hd.elim
  rename_i ks e
  obtain ⟨o, h1, p, ws, h2, h3, h4, h5, h6, h7⟩ := m.sl i _ e
  subst h2
  refine ⟨.ref p, h1, p, ws, rfl, .inl h6, fun l bs hl hk => ?_⟩
  obtain ⟨Hb', g, hd'⟩ := tell_keys m.g.ok trivial h7 hk
  have g2 := Good.newH (o := .lst (bs.map V.ref)) g.ok hl
  exact k Hb' _ l _ _ (g.trans g2) hl (fresh_back g.sub hl) upd_same hd' hd
end
end RW

/-! steps, chains and their values in plain Lean; how they lie as data -/
set_option Elab.async false
set_option linter.all false
set_option maxRecDepth 100000
set_option maxHeartbeats 2000000
namespace RW
open PySem L2
inductive Tie where
  | up | down | even | odd
  deriving DecidableEq
inductive Step where
  | down (m : Rat) | up (m : Rat) | near (m : Rat) (t : Tie) | add (c : Rat) | times (r : Rat) | rest (m : Rat)
  deriving DecidableEq
/-- the nearest integer -/
def nearI (q : Rat) (t : Tie) : Int :=
  let low := q.floor
  let rest := q - (low : Rat)
  if rest ≠ 1 / 2 then low + (if 1 / 2 < rest then 1 else 0)
  else match t with
    | .up => low + 1
    | .down => low
    | .even => if low % 2 = 0 then low else low + 1
    | .odd => if low % 2 = 0 then low + 1 else low
def Step.val : Step → Rat → Rat
  | .down m, x => ((x / m).floor : Rat) * m
  | .up m, x => let low := ((x / m).floor : Rat) * m; if low = x then low else low + m
  | .near m t, x => (nearI (x / m) t : Rat) * m
  | .add c, x => x + c
  | .times r, x => x * r
  | .rest m, x => x - ((x / m).floor : Rat) * m
def chVal (c : List Step) (x : Rat) : Rat := c.foldl (fun x s => s.val x) x
def Step.num : Step → Rat
  | .down m => m | .up m => m | .near m _ => m | .add c => c | .times r => r | .rest m => m
/-- within the limits of a step -/
def Ten (q : Rat) : Prop := q.num.natAbs ≤ 10 ∧ q.den ≤ 10
def StepOk : Step → Prop
  | .down m => Ten m ∧ 0 < m.num
  | .up m => Ten m ∧ 0 < m.num
  | .near m _ => Ten m ∧ 0 < m.num
  | .add c => Ten c
  | .times r => Ten r ∧ r.num ≠ 0
  | .rest m => Ten m ∧ 0 < m.num
theorem StepOk.ten {s : Step} (h : StepOk s) : Ten s.num := by cases s <;> first | exact h.1 | exact h
theorem Ten.sz {q : Rat} (h : Ten q) : Sz 4 q := ⟨Nat.lt_of_le_of_lt h.1 (by decide), Nat.lt_of_le_of_lt h.2 (by decide)⟩
theorem nearI_sz {n : Nat} {x : Rat} (h : Sz n x) (t : Tie) : (nearI x t).natAbs < 2 ^ (n + 1) := by
  have hf := floor_sz h
  rw [Nat.pow_succ]
  have h0 : 0 < 2 ^ n := Nat.two_pow_pos n
  unfold nearI
  simp only
  split
  · split <;> omega
  · cases t <;> simp only <;> (try split) <;> omega
theorem ne_of_num {q : Rat} (h : 0 < q.num) : q ≠ 0 := fun e => by rw [e] at h; exact absurd h (by decide)
theorem Step.sz {s : Step} {n : Nat} {x : Rat} (h : StepOk s) (hx : Sz n x) : Sz (2 * n + 14) (s.val x) := by
  have ten := h.ten.sz
  cases s with
  | down m =>
    have hm : m ≠ 0 := ne_of_num h.2
    exact ((sz_floor (hx.div ten hm) (by omega)).mul ten).mono (by omega)
  | up m =>
    have hm : m ≠ 0 := ne_of_num h.2
    have h1 := ((sz_floor (hx.div ten hm) (by omega)).mul ten)
    simp only [Step.val]
    split
    · exact h1.mono (by show n + 4 + 4 ≤ 2 * n + 14; omega)
    · exact (h1.add ten).mono (by show n + 4 + 4 + 4 + 1 ≤ 2 * n + 14; omega)
  | near m t =>
    have hm : m ≠ 0 := ne_of_num h.2
    exact ((sz_int (nearI_sz (hx.div ten hm) t) (by omega)).mul ten).mono (by omega)
  | add c => exact (hx.add ten).mono (by omega)
  | times r => exact (hx.mul ten).mono (by omega)
  | rest m =>
    have hm : m ≠ 0 := ne_of_num h.2
    exact (hx.sub ((sz_floor (hx.div ten hm) (by omega)).mul ten)).mono (by omega)
/-! ### as data -/
abbrev fr (a b : Int) : D := .tup [.int a, .int b]
abbrev rt (q : Rat) : D := .tup [.int q.num, .int (q.den : Int)]
def tieD : Tie → D
  | .up => .str "up" | .down => .str "down" | .even => .str "even" | .odd => .str "odd"
def stD : Step → D
  | .down m => .tup [.str "down", rt m]
  | .up m => .tup [.str "up", rt m]
  | .near m t => .tup [.str "near", rt m, tieD t]
  | .add c => .tup [.str "add", rt c]
  | .times r => .tup [.str "times", rt r]
  | .rest m => .tup [.str "rest", rt m]
def chD (c : List Step) : D := .tup (c.map stD)
theorem ite_b {c : Bool} {A B : Prop} (h1 : c = true → A) (h2 : c = false → B) : if c = true then A else B := by
  cases c
  · exact h2 rfl
  · exact h1 rfl
theorem ite_t {c : Bool} {A B : Prop} (hc : c = true) (h1 : A) : if c = true then A else B := by rw [if_pos hc]; exact h1
theorem ite_f {c : Bool} {A B : Prop} (hc : c = false) (h1 : B) : if c = true then A else B := by rw [hc, if_neg Bool.false_ne_true]; exact h1
theorem eqv_int (i j : Int) : PyData.eqv (.int i) (.int j) = decide (i = j) := by simp only [PyData.eqv]; exact Bool.beq_eq_decide_eq _ _
theorem eqv_str (i j : Str) : PyData.eqv (.str i) (.str j) = decide (i = j) := by
  simp only [PyData.eqv]
  by_cases h : i = j
  · subst h; simp
  · simp [h]
theorem eqv_fr (a b c d : Int) : PyData.eqv (toPy (fr a b)) (toPy (fr c d)) = decide (a = c ∧ b = d) := by
  simp only [toPy, toPys, PyData.eqv, PyData.eqvAll, Bool.and_true]
  rw [Bool.eq_iff_iff]
  simp
theorem eqv_rt (p q : Rat) : PyData.eqv (toPy (rt p)) (toPy (rt q)) = decide (p = q) := by
  rw [eqv_fr, Bool.eq_iff_iff]
  simp only [decide_eq_true_eq]
  constructor
  · rintro ⟨h1, h2⟩
    exact Rat.ext h1 (by omega)
  · rintro rfl
    exact ⟨rfl, rfl⟩
@[simp] theorem shs_down : shp (.str "down") := by decide +kernel
@[simp] theorem eqs_down_down : PyData.eqv (.str "down") (.str "down") = true := by decide +kernel
@[simp] theorem eqs_down_up : PyData.eqv (.str "down") (.str "up") = false := by decide +kernel
@[simp] theorem eqs_down_near : PyData.eqv (.str "down") (.str "near") = false := by decide +kernel
@[simp] theorem eqs_down_add : PyData.eqv (.str "down") (.str "add") = false := by decide +kernel
@[simp] theorem eqs_down_times : PyData.eqv (.str "down") (.str "times") = false := by decide +kernel
@[simp] theorem eqs_down_rest : PyData.eqv (.str "down") (.str "rest") = false := by decide +kernel
@[simp] theorem eqs_down_even : PyData.eqv (.str "down") (.str "even") = false := by decide +kernel
@[simp] theorem eqs_down_odd : PyData.eqv (.str "down") (.str "odd") = false := by decide +kernel
@[simp] theorem shs_up : shp (.str "up") := by decide +kernel
@[simp] theorem eqs_up_down : PyData.eqv (.str "up") (.str "down") = false := by decide +kernel
@[simp] theorem eqs_up_up : PyData.eqv (.str "up") (.str "up") = true := by decide +kernel
@[simp] theorem eqs_up_near : PyData.eqv (.str "up") (.str "near") = false := by decide +kernel
@[simp] theorem eqs_up_add : PyData.eqv (.str "up") (.str "add") = false := by decide +kernel
@[simp] theorem eqs_up_times : PyData.eqv (.str "up") (.str "times") = false := by decide +kernel
@[simp] theorem eqs_up_rest : PyData.eqv (.str "up") (.str "rest") = false := by decide +kernel
@[simp] theorem eqs_up_even : PyData.eqv (.str "up") (.str "even") = false := by decide +kernel
@[simp] theorem eqs_up_odd : PyData.eqv (.str "up") (.str "odd") = false := by decide +kernel
@[simp] theorem shs_near : shp (.str "near") := by decide +kernel
@[simp] theorem eqs_near_down : PyData.eqv (.str "near") (.str "down") = false := by decide +kernel
@[simp] theorem eqs_near_up : PyData.eqv (.str "near") (.str "up") = false := by decide +kernel
@[simp] theorem eqs_near_near : PyData.eqv (.str "near") (.str "near") = true := by decide +kernel
@[simp] theorem eqs_near_add : PyData.eqv (.str "near") (.str "add") = false := by decide +kernel
@[simp] theorem eqs_near_times : PyData.eqv (.str "near") (.str "times") = false := by decide +kernel
@[simp] theorem eqs_near_rest : PyData.eqv (.str "near") (.str "rest") = false := by decide +kernel
@[simp] theorem eqs_near_even : PyData.eqv (.str "near") (.str "even") = false := by decide +kernel
@[simp] theorem eqs_near_odd : PyData.eqv (.str "near") (.str "odd") = false := by decide +kernel
@[simp] theorem shs_add : shp (.str "add") := by decide +kernel
@[simp] theorem eqs_add_down : PyData.eqv (.str "add") (.str "down") = false := by decide +kernel
@[simp] theorem eqs_add_up : PyData.eqv (.str "add") (.str "up") = false := by decide +kernel
@[simp] theorem eqs_add_near : PyData.eqv (.str "add") (.str "near") = false := by decide +kernel
@[simp] theorem eqs_add_add : PyData.eqv (.str "add") (.str "add") = true := by decide +kernel
@[simp] theorem eqs_add_times : PyData.eqv (.str "add") (.str "times") = false := by decide +kernel
@[simp] theorem eqs_add_rest : PyData.eqv (.str "add") (.str "rest") = false := by decide +kernel
@[simp] theorem eqs_add_even : PyData.eqv (.str "add") (.str "even") = false := by decide +kernel
@[simp] theorem eqs_add_odd : PyData.eqv (.str "add") (.str "odd") = false := by decide +kernel
@[simp] theorem shs_times : shp (.str "times") := by decide +kernel
@[simp] theorem eqs_times_down : PyData.eqv (.str "times") (.str "down") = false := by decide +kernel
@[simp] theorem eqs_times_up : PyData.eqv (.str "times") (.str "up") = false := by decide +kernel
@[simp] theorem eqs_times_near : PyData.eqv (.str "times") (.str "near") = false := by decide +kernel
@[simp] theorem eqs_times_add : PyData.eqv (.str "times") (.str "add") = false := by decide +kernel
@[simp] theorem eqs_times_times : PyData.eqv (.str "times") (.str "times") = true := by decide +kernel
@[simp] theorem eqs_times_rest : PyData.eqv (.str "times") (.str "rest") = false := by decide +kernel
@[simp] theorem eqs_times_even : PyData.eqv (.str "times") (.str "even") = false := by decide +kernel
@[simp] theorem eqs_times_odd : PyData.eqv (.str "times") (.str "odd") = false := by decide +kernel
@[simp] theorem shs_rest : shp (.str "rest") := by decide +kernel
@[simp] theorem eqs_rest_down : PyData.eqv (.str "rest") (.str "down") = false := by decide +kernel
@[simp] theorem eqs_rest_up : PyData.eqv (.str "rest") (.str "up") = false := by decide +kernel
@[simp] theorem eqs_rest_near : PyData.eqv (.str "rest") (.str "near") = false := by decide +kernel
@[simp] theorem eqs_rest_add : PyData.eqv (.str "rest") (.str "add") = false := by decide +kernel
@[simp] theorem eqs_rest_times : PyData.eqv (.str "rest") (.str "times") = false := by decide +kernel
@[simp] theorem eqs_rest_rest : PyData.eqv (.str "rest") (.str "rest") = true := by decide +kernel
@[simp] theorem eqs_rest_even : PyData.eqv (.str "rest") (.str "even") = false := by decide +kernel
@[simp] theorem eqs_rest_odd : PyData.eqv (.str "rest") (.str "odd") = false := by decide +kernel
@[simp] theorem shs_even : shp (.str "even") := by decide +kernel
@[simp] theorem eqs_even_down : PyData.eqv (.str "even") (.str "down") = false := by decide +kernel
@[simp] theorem eqs_even_up : PyData.eqv (.str "even") (.str "up") = false := by decide +kernel
@[simp] theorem eqs_even_near : PyData.eqv (.str "even") (.str "near") = false := by decide +kernel
@[simp] theorem eqs_even_add : PyData.eqv (.str "even") (.str "add") = false := by decide +kernel
@[simp] theorem eqs_even_times : PyData.eqv (.str "even") (.str "times") = false := by decide +kernel
@[simp] theorem eqs_even_rest : PyData.eqv (.str "even") (.str "rest") = false := by decide +kernel
@[simp] theorem eqs_even_even : PyData.eqv (.str "even") (.str "even") = true := by decide +kernel
@[simp] theorem eqs_even_odd : PyData.eqv (.str "even") (.str "odd") = false := by decide +kernel
@[simp] theorem shs_odd : shp (.str "odd") := by decide +kernel
@[simp] theorem eqs_odd_down : PyData.eqv (.str "odd") (.str "down") = false := by decide +kernel
@[simp] theorem eqs_odd_up : PyData.eqv (.str "odd") (.str "up") = false := by decide +kernel
@[simp] theorem eqs_odd_near : PyData.eqv (.str "odd") (.str "near") = false := by decide +kernel
@[simp] theorem eqs_odd_add : PyData.eqv (.str "odd") (.str "add") = false := by decide +kernel
@[simp] theorem eqs_odd_times : PyData.eqv (.str "odd") (.str "times") = false := by decide +kernel
@[simp] theorem eqs_odd_rest : PyData.eqv (.str "odd") (.str "rest") = false := by decide +kernel
@[simp] theorem eqs_odd_even : PyData.eqv (.str "odd") (.str "even") = false := by decide +kernel
@[simp] theorem eqs_odd_odd : PyData.eqv (.str "odd") (.str "odd") = true := by decide +kernel
@[simp] theorem shp_int (i : Int) : shp (.int i) := rfl
@[simp] theorem shp_rt (p : Rat) : shp (rt p) := rfl
theorem rt_int (i : Int) : (fr i 1) = rt (i : Rat) := rfl
end RW

/-! the mirror of the program's waves and forms: plain functions that may fail: big (a number beyond the bounds of the walk), many (TooMany) -/
set_option Elab.async false
set_option linter.all false
set_option maxRecDepth 100000
set_option maxHeartbeats 2000000
set_option exponentiation.threshold 20000
namespace RW
inductive Er where
  | big | many
abbrev Mo (α : Type) := Except Er α
/-- what is wanted of a result; F: of TooMany -/
def wp {α : Type} (m : Mo α) (Q : α → Prop) (F : Prop) : Prop := match m with
  | .ok a => Q a
  | .error .many => F
  | .error .big => False
theorem wp_bind {α β : Type} {m : Mo α} {f : α → Mo β} {Q : β → Prop} {F : Prop} : wp (m >>= f) Q F ↔ wp m (fun a => wp (f a) Q F) F := by
  cases m with
  | ok a => exact Iff.rfl
  | error e => cases e <;> exact Iff.rfl
theorem wp_ok {α : Type} {a : α} {Q : α → Prop} {F : Prop} : wp (.ok a) Q F ↔ Q a := Iff.rfl
theorem wp_pure {α : Type} {a : α} {Q : α → Prop} {F : Prop} : wp (pure a) Q F ↔ Q a := Iff.rfl
theorem wp_ite {α : Type} {c : Prop} [Decidable c] {a b : Mo α} {Q : α → Prop} {F : Prop} : wp (if c then a else b) Q F ↔ (if c then wp a Q F else wp b Q F) := by
  split <;> exact Iff.rfl
theorem wp_mono {α : Type} {m : Mo α} {Q Q' : α → Prop} {F F' : Prop} (h : wp m Q F) (hq : ∀ a, Q a → Q' a) (hf : F → F') : wp m Q' F' := by
  cases m with
  | ok a => exact hq a h
  | error e => cases e with
    | big => exact h
    | many => exact hf h
theorem wp_and {α : Type} {m : Mo α} {Q : α → Prop} {F : Prop} (h : wp m Q F) : wp m (fun a => Q a ∧ m = .ok a) (F ∧ m = .error .many) := by
  cases m with
  | ok a => exact ⟨h, rfl⟩
  | error e => cases e with
    | big => exact h
    | many => exact ⟨h, rfl⟩
def plusM (p q : Rat) : Mo Rat := if Sz 4000 p ∧ Sz 4000 q then .ok (p + q) else .error .big
def minusM (p q : Rat) : Mo Rat := if Sz 4000 p ∧ Sz 4000 q then .ok (p - q) else .error .big
def timesM (p q : Rat) : Mo Rat := if Sz 4000 p ∧ Sz 4000 q then .ok (p * q) else .error .big
def overM (p q : Rat) : Mo Rat := if Sz 4000 p ∧ Sz 4000 q ∧ q ≠ 0 then .ok (p / q) else .error .big
def lessM (p q : Rat) : Mo Bool := if Sz 4000 p ∧ Sz 4000 q then .ok (decide (p < q)) else .error .big
def floorM (p : Rat) : Mo Int := if Sz 8000 p then .ok p.floor else .error .big
def betweenM (p q : Rat) : Mo Rat := if Sz 4000 p ∧ Sz 4000 q then .ok ((p + q) / 2) else .error .big
def stepM (s : Step) (x : Rat) : Mo Rat := if Sz 1800 x then .ok (s.val x) else .error .big
def atM {α : Type} (xs : List α) (i : Nat) : Mo α := match xs[i]? with
  | some x => .ok x
  | none => .error .big
/-- f 0, f 1, .. f (n - 1), one behind the other -/
def iterE {σ : Type} (f : Nat → σ → Mo σ) : Nat → σ → Mo σ
  | 0, s => .ok s
  | n + 1, s => iterE f n s >>= f n
theorem iterE_err {σ : Type} {f : Nat → σ → Mo σ} {s : σ} {e : Er} : ∀ {i j : Nat}, iterE f i s = .error e → i ≤ j → iterE f j s = .error e := by
  intro i j h hij
  induction j with
  | zero => have : i = 0 := by omega
            subst this; exact h
  | succ j ih =>
    by_cases z : i = j + 1
    · subst z; exact h
    · have := ih (by omega)
      show (iterE f j s >>= f j) = _
      rw [this]
      rfl
/-- one turn of a loop -/
theorem iterE_turn {σ : Type} {f : Nat → σ → Mo σ} {s0 s : σ} {n i : Nat} {Q : σ → Prop} {F : Prop} (h : wp (iterE f n s0) Q F) (hi : i < n) (e : iterE f i s0 = .ok s) : wp (f i s) (fun s' => iterE f (i + 1) s0 = .ok s') F := by
  have e1 : iterE f (i + 1) s0 = f i s := by
    show (iterE f i s0 >>= f i) = _
    rw [e]
    rfl
  cases q : f i s with
  | ok a => show iterE f (i + 1) s0 = .ok a; rw [e1, q]
  | error er =>
    rw [q] at e1
    have := iterE_err (j := n) e1 hi
    rw [this] at h
    cases er with
    | big => exact h
    | many => exact h
theorem iterE_end {σ : Type} {f : Nat → σ → Mo σ} {s0 s : σ} {n : Nat} {Q : σ → Prop} {F : Prop} (h : wp (iterE f n s0) Q F) (e : iterE f n s0 = .ok s) : Q s := by
  rw [e] at h
  exact h
structure Pl where
  p : Rat
  v : Rat
  a : Rat
  deriving DecidableEq
structure Wv where
  slope : Rat
  period : Rat
  gain : Rat
  places : List Pl
  deriving DecidableEq
def driftM (W : Wv) (t : Int) : Mo Rat := do
  let a ← timesM W.slope W.period
  let b ← minusM W.gain a
  timesM (t : Rat) b
def beforeM (W : Wv) (i : Nat) : Mo Rat := if 0 < i then (do
    let r ← atM W.places (i - 1)
    pure r.a)
  else (do
    let r ← atM W.places (W.places.length - 1)
    let d ← driftM W (-1)
    plusM r.a d)
def stillM (W : Wv) (i : Nat) : Mo Bool := do
  let q ← atM W.places i
  let before ← beforeM W i
  if before = q.a then (do
    let t ← timesM W.slope q.p
    let s ← plusM t q.a
    pure (decide (q.v = s)))
  else pure false
def isLineM (W : Wv) : Mo Bool := if W.places.length = 1 then stillM W 0 else pure false
def spreadOneM (W : Wv) (t : Nat) (far more : Rat) (i : Nat) (acc : List Pl) : Mo (List Pl) := do
  let q ← atM W.places i
  let p ← plusM q.p far
  let v ← plusM q.v more
  let d ← driftM W t
  let a ← plusM q.a d
  if 100000 ≤ acc.length then .error .big else pure (acc ++ [⟨p, v, a⟩])
def spreadTurnM (W : Wv) (t : Nat) (found : List Pl) : Mo (List Pl) := do
  let far ← timesM (t : Rat) W.period
  let more ← timesM (t : Rat) W.gain
  iterE (spreadOneM W t far more) W.places.length found
def spreadM (W : Wv) (many : Nat) : Mo (List Pl) := do
  let l ← isLineM W
  if l then pure W.places
  else if 2 ^ 50 ≤ many ∨ 2 ^ 50 ≤ W.places.length then .error .big
  else if 1000 < many * W.places.length then .error .many
  else iterE (spreadTurnM W) many []
def lineW : Wv := ⟨1, 1, 1, [⟨0, 0, 0⟩]⟩
def tidyM (W : Wv) (i : Nat) (acc : List Pl) : Mo (List Pl) := do
  let s ← stillM W i
  let q ← atM W.places i
  if 100000 ≤ acc.length then .error .big else pure (if s then acc else acc ++ [q])
def lenM (W : Wv) : Mo Unit := if W.places.length < 2 ^ 50 then pure () else .error .big
def tidiedM (W : Wv) : Mo Wv := do
  let _ ← lenM W
  let kept ← iterE (tidyM W) W.places.length []
  pure ⟨W.slope, W.period, W.gain, if kept = [] then W.places.take 1 else kept⟩
def isNear : Step → Bool
  | .near _ _ => true
  | _ => false
def isRest : Step → Bool
  | .rest _ => true
  | _ => false
def edgeM (s : Step) (slope added shift : Rat) (lo : Int) (i : Nat) (acc : List Rat) : Mo (List Rat) := do
  let z ← plusM ((lo + 1 + (i : Int) : Int) : Rat) shift
  let edge ← timesM z s.num
  let d ← minusM edge added
  let x ← overM d slope
  if 1000 < acc.length + 1 then .error .many else pure (acc ++ [x])
def edgesM (s : Step) (slope added low high : Rat) : Mo (List Rat) := do
  let a1 ← timesM slope low
  let e1 ← plusM a1 added
  let a2 ← timesM slope high
  let e2 ← plusM a2 added
  let shift : Rat := if isNear s then 1 / 2 else 0
  let b1 ← overM e1 s.num
  let s1 ← minusM b1 shift
  let b2 ← overM e2 s.num
  let s2 ← minusM b2 shift
  let c ← lessM s1 s2
  let first := if c then s1 else s2
  let last := if c then s2 else s1
  let lo ← floorM first
  let hi ← floorM (-last)
  let n := (-hi - (lo + 1)).toNat
  let _ ← (if lo.natAbs < 2 ^ 50 ∧ hi.natAbs < 2 ^ 50 then (pure () : Mo Unit) else .error .big)
  let found ← iterE (edgeM s slope added shift lo) n []
  pure (if 0 < slope then found else found.reverse)
def behindM (s : Step) (slope added place : Rat) : Mo Rat := do
  let t ← timesM slope place
  let x ← plusM t added
  let left ← stepM s x
  if isRest s then (do
    let t2 ← timesM slope place
    minusM left t2)
  else pure left
def comesOneM (W : Wv) (step : Nat) (far more drift : Rat) (i : Nat) (ok : Bool) : Mo Bool := if ok then (do
    let one ← atM W.places i
    let other ← atM W.places (i + step)
    let p ← plusM one.p far
    let v ← plusM one.v more
    let a ← plusM one.a drift
    pure (decide (other = ⟨p, v, a⟩))) else pure false
def comesByM (W : Wv) (many : Nat) : Mo Bool := do
  let _ ← lenM W
  let far ← overM W.period (many : Rat)
  let more ← overM W.gain (many : Rat)
  let sf ← timesM W.slope far
  let drift ← minusM more sf
  iterE (comesOneM W (W.places.length / many) far more drift) (W.places.length - W.places.length / many) true
/-- fractions in rising sequence, each once -/
def insertPosM (found : List Rat) (one : Rat) : Nat → Mo Nat
  | 0 => .error .big
  | fuel + 1 => let at_ := found.length - fuel
    if at_ < found.length then (do
      let f ← atM found at_
      let l ← lessM f one
      if l then insertPosM found one fuel else pure at_)
    else pure at_
def seqOneM (some : List Rat) (i : Nat) (found : List Rat) : Mo (List Rat) := do
  let one ← atM some i
  let at_ ← insertPosM found one (found.length + 1)
  if 100000 ≤ found.length then .error .big
  else if at_ = found.length then pure (found.take at_ ++ [one] ++ found.drop at_)
  else (do
    let f ← atM found at_
    if f = one then pure found else pure (found.take at_ ++ [one] ++ found.drop at_))
def inSeqM (some : List Rat) : Mo (List Rat) := iterE (seqOneM some) some.length []
/-- a dict's pairs by their keys, in the order of the first stores -/
def putP (rows : List (Rat × Pl)) (k : Rat) (v : Pl) : List (Rat × Pl) := if (rows.lookup k).isSome then rows.map (fun r => if r.1 = k then (k, v) else r) else rows ++ [(k, v)]
def leastOneM (W : Wv) (i : Nat) (acc : List Nat) : Mo (List Nat) :=
  if W.places.length % (i + 1) = 0 then (do
    let c ← comesByM W (i + 1)
    if 100000 ≤ acc.length then .error .big else pure (if c then acc ++ [i + 1] else acc))
  else pure acc
def leastManyM (W : Wv) : Mo (List Nat) := do
  let _ ← lenM W
  iterE (leastOneM W) W.places.length []
def pickM : List Nat → Mo Nat
  | [] => .error .big
  | m :: r => .ok (r.foldl max m)
def lookM (rows : List (Rat × Pl)) (k : Rat) : Mo Pl := match rows.lookup k with
  | some q => .ok q
  | none => .error .big
def leastRowM (L : Wv) (i : Nat) (rows : List (Rat × Pl)) : Mo (List (Rat × Pl)) := do
  let q ← atM L.places i
  let z ← overM q.p L.period
  let turn ← floorM z
  let f ← timesM (turn : Rat) L.period
  let spot ← minusM q.p f
  let g ← timesM (turn : Rat) L.gain
  let v ← minusM q.v g
  let d ← driftM L (-turn)
  let a ← plusM q.a d
  if 100000 ≤ rows.length then .error .big else pure (putP rows spot ⟨spot, v, a⟩)
def keyRowM (keys : List Rat) (rows : List (Rat × Pl)) (i : Nat) (acc : List Pl) : Mo (List Pl) := do
  let k ← atM keys i
  let q ← lookM rows k
  if 100000 ≤ acc.length then .error .big else pure (acc ++ [q])
def leastM (W : Wv) : Mo Wv := do
  let ms ← leastManyM W
  let many ← pickM ms
  let period ← overM W.period (many : Rat)
  let gain ← overM W.gain (many : Rat)
  let L : Wv := ⟨W.slope, period, gain, W.places.take (W.places.length / many)⟩
  let rows ← iterE (leastRowM L) L.places.length []
  let keys ← inSeqM (rows.map (·.1))
  let ps ← iterE (keyRowM keys rows) keys.length []
  pure ⟨W.slope, period, gain, ps⟩
def isEO : Step → Bool
  | .near _ .even => true
  | .near _ .odd => true
  | _ => false
def cutsM (W : Wv) (s : Step) (q : Pl) (end_ : Rat) : Mo (List Rat) := if W.slope = 0 then pure [] else edgesM s W.slope q.a q.p end_
def hereM (W : Wv) (q : Pl) (spot : Nat) (e : Rat) : Mo Rat := if spot = 0 then pure q.v else (do
  let t ← timesM W.slope e
  plusM t q.a)
def pieceM (W : Wv) (s : Step) (q : Pl) (ends : List Rat) (spot : Nat) (acc : List Pl) : Mo (List Pl) := do
  let e ← atM ends spot
  let here ← hereM W q spot e
  let e2 ← atM ends (spot + 1)
  let mid ← betweenM e e2
  let more ← behindM s W.slope q.a mid
  let v ← stepM s here
  if 100000 ≤ acc.length then .error .big else pure (acc ++ [⟨e, v, more⟩])
def rowPiecesM (W : Wv) (s : Step) (q : Pl) (end_ : Rat) (found : List Pl) : Mo (List Pl) := do
  let cuts ← cutsM W s q end_
  let _ ← (if cuts.length ≤ 1000 then (pure () : Mo Unit) else .error .big)
  iterE (pieceM W s q ([q.p] ++ cuts ++ [end_])) (cuts.length + 1) found
def goalM (s : Step) : Mo Rat := if isEO s then timesM s.num 2 else pure s.num
def manyM (W : Wv) (goal : Rat) : Mo Nat := if W.gain = 0 then pure 1 else (do
  let z ← overM W.gain goal
  pure z.den)
def endM (rows : List Pl) (period : Rat) (i : Nat) : Mo Rat := if i + 1 < rows.length then (do
    let r ← atM rows (i + 1)
    pure r.p)
  else (do
    let r ← atM rows 0
    plusM r.p period)
def rowM (W : Wv) (s : Step) (rows : List Pl) (period : Rat) (i : Nat) (acc : List Pl) : Mo (List Pl) := do
  let q ← atM rows i
  let e ← endM rows period i
  let acc' ← rowPiecesM W s q e acc
  if 1000 < acc'.length then .error .many else pure acc'
def roundedM (W : Wv) (s : Step) : Mo Wv := do
  let goal ← goalM s
  let many ← manyM W goal
  let rows ← spreadM W many
  let period ← timesM (many : Rat) W.period
  let gain ← timesM (many : Rat) W.gain
  let found ← iterE (rowM W s rows period) rows.length []
  let made ← tidiedM ⟨if isRest s then W.slope else 0, period, if isRest s then 0 else gain, found⟩
  let l ← isLineM made
  if l then pure made else leastM made
def addOneM (W : Wv) (c : Rat) (i : Nat) (acc : List Pl) : Mo (List Pl) := do
  let q ← atM W.places i
  let v ← plusM q.v c
  let a ← plusM q.a c
  if 100000 ≤ acc.length then .error .big else pure (acc ++ [⟨q.p, v, a⟩])
def timesOneM (W : Wv) (r : Rat) (i : Nat) (acc : List Pl) : Mo (List Pl) := do
  let q ← atM W.places i
  let v ← timesM q.v r
  let a ← timesM q.a r
  if 100000 ≤ acc.length then .error .big else pure (acc ++ [⟨q.p, v, a⟩])
def steppedM (W : Wv) : Step → Mo Wv
  | .add c => do
    let rows ← iterE (addOneM W c) W.places.length []
    pure ⟨W.slope, W.period, W.gain, rows⟩
  | .times r => do
    let rows ← iterE (timesOneM W r) W.places.length []
    let sl ← timesM W.slope r
    let g ← timesM W.gain r
    pure ⟨sl, W.period, g, rows⟩
  | s => roundedM W s
def waveOneM (c : List Step) (i : Nat) (W : Wv) : Mo Wv := do
  let s ← atM c i
  steppedM W s
def waveM (c : List Step) : Mo Wv := iterE (waveOneM c) c.length lineW
inductive Fm where
  | line (s a : Rat)
  | wave (W : Wv)
  deriving DecidableEq
def formM (c : List Step) : Mo Fm := do
  let W ← waveM c
  let l ← isLineM W
  if l then (do
    let q ← atM W.places 0
    pure (.line W.slope q.a))
  else (do
    let V ← leastM W
    pure (.wave V))
def okB (m : Mo Fm) (f : Fm) : Bool := match m with
  | .ok g => decide (g = f)
  | _ => false
example : okB (formM [.near 1 .up]) (.wave ⟨0, 1, 1, [⟨1/2, 1, 1⟩]⟩) = true := by decide +kernel
example : okB (formM [.near (1/2) .even, .near 1 .even]) (.wave ⟨0, 2, 2, [⟨3/4, 1, 1⟩, ⟨5/4, 1, 2⟩]⟩) = true := by decide +kernel
end RW

/-! reading the mirror by simp -/
set_option Elab.async false
set_option linter.all false
set_option maxRecDepth 100000
set_option maxHeartbeats 2000000
set_option exponentiation.threshold 20000
namespace RW
open PySem L2
/-- wanted of a result that is never TooMany -/
def wq {α : Type} (m : Mo α) (Q : α → Prop) : Prop := match m with
  | .ok a => Q a
  | .error _ => False
def NM {α : Type} (m : Mo α) : Prop := m ≠ .error .many
theorem wp_nm {α : Type} {m : Mo α} {Q : α → Prop} {F : Prop} (h : NM m) : wp m Q F ↔ wq m Q := by
  cases m with
  | ok a => exact Iff.rfl
  | error e => cases e with
    | big => exact Iff.rfl
    | many => exact absurd rfl h
theorem wq_mono {α : Type} {m : Mo α} {Q Q' : α → Prop} (h : wq m Q) (hq : ∀ a, Q a → Q' a) : wq m Q' := by
  cases m with
  | ok a => exact hq a h
  | error e => exact h
theorem nm_ok {α : Type} {a : α} : NM (.ok a) := fun h => nomatch h
theorem nm_pure {α : Type} {a : α} : NM (pure a) := fun h => nomatch h
theorem nm_big {α : Type} : NM (.error .big : Mo α) := fun h => nomatch h
theorem nm_bind {α β : Type} {m : Mo α} {f : α → Mo β} (h : NM m) (h2 : ∀ a, NM (f a)) : NM (m >>= f) := by
  cases m with
  | ok a => exact h2 a
  | error e => cases e with
    | big => exact nm_big
    | many => exact absurd rfl h
theorem nm_ite {α : Type} {c : Prop} [Decidable c] {a b : Mo α} (h : NM a) (h2 : NM b) : NM (if c then a else b) := by
  split
  · exact h
  · exact h2
theorem nm_iter {σ : Type} {f : Nat → σ → Mo σ} (h : ∀ i s, NM (f i s)) : ∀ n s, NM (iterE f n s)
  | 0, _ => nm_ok
  | n + 1, s => nm_bind (nm_iter h n s) fun a => h n a
theorem nm_plus {p q : Rat} : NM (plusM p q) := nm_ite nm_ok nm_big
theorem nm_minus {p q : Rat} : NM (minusM p q) := nm_ite nm_ok nm_big
theorem nm_times {p q : Rat} : NM (timesM p q) := nm_ite nm_ok nm_big
theorem nm_over {p q : Rat} : NM (overM p q) := nm_ite nm_ok nm_big
theorem nm_less {p q : Rat} : NM (lessM p q) := nm_ite nm_ok nm_big
theorem nm_floor {p : Rat} : NM (floorM p) := nm_ite nm_ok nm_big
theorem nm_between {p q : Rat} : NM (betweenM p q) := nm_ite nm_ok nm_big
theorem nm_step {s : Step} {q : Rat} : NM (stepM s q) := nm_ite nm_ok nm_big
theorem nm_at {α : Type} {xs : List α} {i : Nat} : NM (atM xs i) := by unfold atM; split <;> (intro h; cases h)
theorem nm_drift {W : Wv} {t : Int} : NM (driftM W t) := nm_bind nm_times fun _ => nm_bind nm_minus fun _ => nm_times
theorem nm_before {W : Wv} {i : Nat} : NM (beforeM W i) := nm_ite (nm_bind nm_at fun _ => nm_pure) (nm_bind nm_at fun _ => nm_bind nm_drift fun _ => nm_plus)
theorem nm_still {W : Wv} {i : Nat} : NM (stillM W i) := nm_bind nm_at fun _ => nm_bind nm_before fun _ => nm_ite (nm_bind nm_times fun _ => nm_bind nm_plus fun _ => nm_pure) nm_pure
theorem nm_isLine {W : Wv} : NM (isLineM W) := nm_ite nm_still nm_pure
theorem nm_len {W : Wv} : NM (lenM W) := nm_ite nm_pure nm_big
theorem nm_tidied {W : Wv} : NM (tidiedM W) := nm_bind nm_len fun _ => nm_bind (nm_iter (fun _ _ => nm_bind nm_still fun _ => nm_bind nm_at fun _ => nm_ite nm_big nm_pure) _ _) fun _ => nm_pure
theorem nm_behind {s : Step} {a b c : Rat} : NM (behindM s a b c) := nm_bind nm_times fun _ => nm_bind nm_plus fun _ => nm_bind nm_step fun _ => nm_ite (nm_bind nm_times fun _ => nm_minus) nm_pure
theorem nm_comesOne {W : Wv} {st : Nat} {a b c : Rat} {i : Nat} {ok : Bool} : NM (comesOneM W st a b c i ok) := nm_ite (nm_bind nm_at fun _ => nm_bind nm_at fun _ => nm_bind nm_plus fun _ => nm_bind nm_plus fun _ => nm_bind nm_plus fun _ => nm_pure) nm_pure
theorem nm_comesBy {W : Wv} {n : Nat} : NM (comesByM W n) := nm_bind nm_len fun _ => nm_bind nm_over fun _ => nm_bind nm_over fun _ => nm_bind nm_times fun _ => nm_bind nm_minus fun _ => nm_iter (fun _ _ => nm_comesOne) _ _
theorem nm_insertPos {found : List Rat} {one : Rat} : ∀ {n}, NM (insertPosM found one n)
  | 0 => nm_big
  | n + 1 => nm_ite (nm_bind nm_at fun _ => nm_bind nm_less fun _ => nm_ite nm_insertPos nm_pure) nm_pure
theorem nm_inSeq {xs : List Rat} : NM (inSeqM xs) := nm_iter (fun _ _ => nm_bind nm_at fun _ => nm_bind nm_insertPos fun _ => nm_ite nm_big (nm_ite nm_pure (nm_bind nm_at fun _ => nm_ite nm_pure nm_pure))) _ _
theorem nm_leastMany {W : Wv} : NM (leastManyM W) := nm_bind nm_len fun _ => nm_iter (fun _ _ => nm_ite (nm_bind nm_comesBy fun _ => nm_ite nm_big nm_pure) nm_pure) _ _
theorem nm_pick {xs : List Nat} : NM (pickM xs) := by cases xs <;> (intro h; cases h)
theorem nm_look {rows : List (Rat × Pl)} {k : Rat} : NM (lookM rows k) := by unfold lookM; split <;> (intro h; cases h)
theorem nm_leastRow {L : Wv} {i : Nat} {rows : List (Rat × Pl)} : NM (leastRowM L i rows) := nm_bind nm_at fun _ => nm_bind nm_over fun _ => nm_bind nm_floor fun _ => nm_bind nm_times fun _ => nm_bind nm_minus fun _ => nm_bind nm_times fun _ => nm_bind nm_minus fun _ => nm_bind nm_drift fun _ => nm_bind nm_plus fun _ => nm_ite nm_big nm_pure
theorem nm_least {W : Wv} : NM (leastM W) := nm_bind nm_leastMany fun _ => nm_bind nm_pick fun _ => nm_bind nm_over fun _ => nm_bind nm_over fun _ => nm_bind (nm_iter (fun _ _ => nm_leastRow) _ _) fun _ => nm_bind nm_inSeq fun _ => nm_bind (nm_iter (fun _ _ => nm_bind nm_at fun _ => nm_bind nm_look fun _ => nm_ite nm_big nm_pure) _ _) fun _ => nm_pure
/-! by simp -/
section
variable {p q : Rat} {F : Prop} {Q : Rat → Prop}
theorem wp_plus : wp (plusM p q) Q F ↔ (Sz 4000 p ∧ Sz 4000 q) ∧ Q (p + q) := by unfold plusM; split <;> simp_all [wp]
theorem wp_minus : wp (minusM p q) Q F ↔ (Sz 4000 p ∧ Sz 4000 q) ∧ Q (p - q) := by unfold minusM; split <;> simp_all [wp]
theorem wp_times : wp (timesM p q) Q F ↔ (Sz 4000 p ∧ Sz 4000 q) ∧ Q (p * q) := by unfold timesM; split <;> simp_all [wp]
theorem wp_over : wp (overM p q) Q F ↔ (Sz 4000 p ∧ Sz 4000 q ∧ q ≠ 0) ∧ Q (p / q) := by
  unfold overM
  split
  · rename_i h; exact ⟨fun z => ⟨h, z⟩, fun z => z.2⟩
  · rename_i h; exact ⟨fun z => z.elim, fun z => absurd z.1 h⟩
theorem wp_between : wp (betweenM p q) Q F ↔ (Sz 4000 p ∧ Sz 4000 q) ∧ Q ((p + q) / 2) := by unfold betweenM; split <;> simp_all [wp]
theorem wp_less {Q : Bool → Prop} : wp (lessM p q) Q F ↔ (Sz 4000 p ∧ Sz 4000 q) ∧ Q (decide (p < q)) := by unfold lessM; split <;> simp_all [wp]
theorem wp_floor {Q : Int → Prop} : wp (floorM p) Q F ↔ Sz 8000 p ∧ Q p.floor := by unfold floorM; split <;> simp_all [wp]
theorem wp_step {s : Step} : wp (stepM s p) Q F ↔ Sz 1800 p ∧ Q (s.val p) := by unfold stepM; split <;> simp_all [wp]
theorem wp_big {α : Type} {Q : α → Prop} : wp (.error .big : Mo α) Q F ↔ False := Iff.rfl
theorem wp_many {α : Type} {Q : α → Prop} : wp (.error .many : Mo α) Q F ↔ F := Iff.rfl
theorem wp_len {W : Wv} {Q : Unit → Prop} : wp (lenM W) Q F ↔ W.places.length < 2 ^ 50 ∧ Q () := by
  unfold lenM
  split
  · rename_i h; exact ⟨fun z => ⟨h, z⟩, fun z => z.2⟩
  · rename_i h; exact ⟨fun z => z.elim, fun z => absurd z.1 h⟩
theorem wp_at {α : Type} {xs : List α} {i : Nat} {Q : α → Prop} : wp (atM xs i) Q F ↔ ∃ x, xs[i]? = some x ∧ Q x := by
  unfold atM
  split
  · rename_i x e
    exact ⟨fun z => ⟨x, e, z⟩, fun ⟨y, ey, z⟩ => by rw [e] at ey; cases ey; exact z⟩
  · rename_i e
    exact ⟨fun z => z.elim, fun ⟨y, ey, z⟩ => by rw [e] at ey; cases ey⟩
theorem wp_at' {α : Type} {xs : List α} {i : Nat} {x : α} {Q : α → Prop} (e : xs[i]? = some x) : wp (atM xs i) Q F ↔ Q x := by
  unfold atM
  rw [e]
  exact Iff.rfl
end
theorem wq_plus {p q : Rat} {Q : Rat → Prop} : wq (plusM p q) Q ↔ (Sz 4000 p ∧ Sz 4000 q) ∧ Q (p + q) := by rw [← wp_nm (F := False) nm_plus, wp_plus]
end RW

set_option Elab.async false
set_option linter.all false
set_option maxRecDepth 100000
set_option maxHeartbeats 2000000
/-! an exception is being handled: the end of a list's iterator, sum, a comprehension -/
namespace RW
open PySem PySem.Spec PyProof.Rows L2 HotX
/-- the handled exception stands with the context None -/
def HotO (x1 : Addr) (h : Heap) : Prop := ∃ (o : Obj) (us : Array Value), h.get? x1 = some o ∧ o.data = .fields us ∧ us[2]? = some .none
section
variable {prog : Program} {w : World} {A : Around} {E : Value → Shared → Prop} {s : Shared}
theorem list_end_hot {x1 it l : Addr} {i : Nat} {items : Array Value} {Q : Option Value → Shared → Prop} (hh : A.handled = some (.ref x1)) (hot : HotO x1 s.heap) (hne : x1 ≠ it)
    (hit : s.heap.IsListIter it l i) (hl : s.heap.IsList l items) (hx : items[i]? = none) (hQ : ∀ h', Heap.ExtBut it s.heap h' → Q none { s with heap := h' }) : wpAny (model prog w) A (pyNext (.ref it)) Q E s := by
  obtain ⟨oi, gi, ci, di⟩ := id hit
  obtain ⟨ol, gl, _, nl, dl⟩ := hl
  obtain ⟨o1, us1, g1, d1, c1⟩ := hot
  unfold pyNext
  refine wpAny_bind (wpAny_attempt (wpAny_callSpecial?_slot (name := Str.ofString "__next__") hit.typeIs slot_listiter_next (wpAny_call_entry slot_listiter_next hit.typeIs entry_listiter_next ?_ (args_listiter_next _))))
  show wpAny _ _ (field (.ref it) 0 >>= _) _ _ s
  refine wpAny_bind (wpAny_field gi di (x := .ref l) rfl ?_)
  show wpAny _ _ (if (Value.ref l == Value.none) = true then _ else _) _ _ s
  rw [if_neg (by exact Bool.false_ne_true)]
  show wpAny _ _ (field (.ref it) 1 >>= _) _ _ s
  refine wpAny_bind (wpAny_field gi di (x := .int i 0) rfl ?_)
  show wpAny _ _ (seqItems? (.ref l) >>= _) _ _ s
  refine wpAny_bind (wpAny_seqItems gl dl ?_)
  simp only [Int.toNat_natCast, hx]
  refine wpAny_bind (wpAny_rule (wpAny_bind (wpAny_setField gi di (by simp) ?_)))
  have g1' : (s.heap.update it (Obj.mapFields (·.setIfInBounds 0 Value.none))).get? x1 = some o1 := (Heap.get?_update_other _ _ (Ne.symm hne)).trans g1
  show wpAny _ _ (newExc (.type "StopIteration") [] >>= _) _ _ _
  refine wpAny_bind ?_
  simp only [newExc, newTuple]
  refine wpAny_bind (wpAny_newObj_type ?_ (by size_fits))
  refine wpAny_bind (m := firstArgMember _ _) (wpAny_of_eq (a := Value.none) (by first | rfl | (simp only [firstArgMember]; rfl)) ?_)
  refine wpAny_newObj_type ?_ (by size_fits)
  have e1 := Heap.get?_push_of_some { cls := .type "tuple", data := .seq #[] } g1'
  refine raiseNew_hot (x1 := x1) ⟨hh, o1, us1, Heap.get?_push_of_some _ (Heap.get?_push_of_some _ g1'), d1, c1⟩ (Nat.ne_of_lt (Heap.lt_size (Heap.get?_push_of_some _ g1'))) (Heap.get?_push_size _ rfl) rfl (by first | (simp; done) | (simp; omega) | (simp only [Array.size_append]; simp; omega)) ?_
  refine wpAny_bind (wpAny_isInstance (T := "StopIteration") (b := true) ⟨_, Heap.get?_update_self _ (Heap.get?_push_size _ rfl) rfl, rfl⟩ isSubtype_stop ?_)
  refine wpAny_pure (hQ _ fun b o hb e => ?_)
  have e2 := (Heap.get?_update_other s.heap (Obj.mapFields (·.setIfInBounds 0 Value.none)) (Ne.symm hb)).trans e
  rw [Heap.get?_update_other _ _ (Nat.ne_of_gt (Heap.lt_size (Heap.get?_push_of_some _ e2)))]
  exact Heap.get?_push_of_some _ (Heap.get?_push_of_some _ e2)
theorem walks_hot {x1 I ax : Addr} (hh : A.handled = some (.ref x1)) (hx : x1 ≠ I) (hne : ax ≠ I) (items : Array Value) :
    Walks prog w A I [I, ax, x1] [I] items.size (fun i v => items[i]? = some v) (fun i h => (h.IsListIter I ax i ∧ h.IsList ax items) ∧ HotO x1 h) where
  sub := fun b hb => by rw [List.mem_singleton.mp hb]; exact List.mem_cons_self
  frame := fun _ _ _ st hk => ⟨⟨st.1.1.at fun o e => hk I (by simp) o e, st.1.2.at fun o e => hk ax (by simp) o e⟩, by
    obtain ⟨o, us, e, d⟩ := st.2
    exact ⟨o, us, hk x1 (by simp) o e, d⟩⟩
  item := fun i s Q E hi st hQ => by
    refine wpAny_pyNext_list_item st.1.1 st.1.2 (x := items[i]) (by simp [hi]) fun h' hit' hs' => ?_
    obtain ⟨o, us, e, d⟩ := st.2
    exact hQ _ h' s.toks (by simp [hi]) ⟨⟨hit', st.1.2.extBut hs'.extBut hne⟩, o, us, hs'.extBut _ _ hx e, d⟩ fun b o hb e => hs'.extBut b o (fun z => hb (by simp [z])) e
  done := fun s Q E st hQ => list_end_hot hh st.2 hx st.1.1 st.1.2 (by simp) fun h' he' => hQ h' s.toks fun b o hb e => he' b o (fun z => hb (by simp [z])) e
  self := fun _ _ _ _ st hQ => wpAny_pyIter_listiter st.1.1 hQ
/-- sum of a list of ints, told by its objects -/
theorem sum_hot {x1 l : Addr} {its : List Value} {ns : List Int} {Q : Value → Shared → Prop} (hh : A.handled = some (.ref x1)) (hot : HotO x1 s.heap) (hl : s.heap.IsList l its.toArray) (hi : IntsAre its ns)
    (h : ∀ h' tk t', (∀ b o, s.heap.get? b = some o → h'.get? b = some o) → Q (.int ns.sum t') { s with heap := h', toks := tk }) : wpAny (model prog w) A (call (.builtin "sum") [.ref l]) Q E s := by
  obtain ⟨xs, e⟩ := hi.allInts.items
  have hn : numsOf (intItems xs).toList = ns := by rw [← e]; exact hi.numsOf
  rw [nums_intItems] at hn
  rw [e] at hl
  obtain ⟨o1, us1, g1, d1⟩ := hot
  have hx : x1 ≠ s.heap.objs.size := Nat.ne_of_lt (Heap.lt_size g1)
  refine call_sum_walkG (iter_intList hl fun s2 e2 st hfp hlI => ?_)
  subst e2
  refine ⟨_, _, _, _, _, _, numAt xs, rfl, walks_hot (A := A.in1) hh hx hlI (intItems xs), ⟨st, o1, us1, Heap.get?_push_of_some _ g1, d1⟩, fun b hb => ?_, (fun _ _ => intItems_at), fun h' tk t' hk => ?_⟩
  · rcases List.mem_cons.mp hb with rfl | hb
    · exact hfp _ (by simp)
    · rcases List.mem_cons.mp hb with rfl | hb
      · exact hfp _ (by simp)
      · rw [List.mem_singleton.mp hb]
        exact Heap.lt_size (Heap.get?_push_of_some _ g1)
  · have q := h h' tk t' (fun b o e => hk b o (fun z => by
      rw [List.mem_singleton.mp z] at e
      exact Nat.lt_irrefl _ (Heap.lt_size e)) (Heap.get?_push_of_some _ e))
    have e3 : preSum (numAt xs) (intItems xs).size = ns.sum := by
      rw [show (intItems xs).size = xs.size by simp [intItems], preSum_eq, List.take_of_length_le (by simp), hn]
    rw [e3]
    exact q
end
/-- sum([int(x) for x in xs]), xs a list of bools -/
def tSumB (K : PySem.W.Frag) (ti : TE) : TE := fun σ H Q => ti σ H fun v H1 => ∃ (a : Addr) (bs : List Bool), v = .ref a ∧ SqL K H1 a (bs.map V.bl) ∧ Q (.int (bs.map fun b => if b then (1 : Int) else 0).sum) H1
theorem paired_ints : ∀ {bs : List Bool} {ys : List Value}, Paired (fun v y => ∃ (b : Bool) (t : Tok), v = Value.bool b ∧ y = Value.int (if b then 1 else 0) t) (bs.map Value.bool) ys → IntsAre ys (bs.map fun b => if b then (1 : Int) else 0)
  | [], ys, h => by cases h; exact IntsAre.nil
  | b :: bs, ys, h => by
    cases h with
    | cons r t =>
      obtain ⟨b', t', e1, rfl⟩ := r
      cases e1
      exact IntsAre.cons _ _ (paired_ints t)
theorem pe_sumB {X : Cx} {ti : TE} {iter : Expr} {x : Str} {scope : Scope} {p p1 p2 p3 px pos2 pos : Pos} (hc : L2H.HotC X) (hi : PE X iter ti) (hg : Gl X "sum") (hm : X.mg "sum" = none) (hmi : X.mg "int" = none)
    (hfree : ∀ y ∈ scope.names, y.2 ≠ .free) (hcell : ∀ y ∈ scope.names, y.2 ≠ .cell) (hkind : scope.kind = .function) (hnames : ∀ y ∈ scope.names, y.2 = .local → scope.names.lookup y.1 = some .local)
    (hx : scope.names.lookup x = some .local) (hgi : scope.names.lookup ("int" : Str) = some .globalImplicit) (hdx : (x == ("__debug__" : Str)) = false := by decide) (hcx : (x == ("__classdict__" : Str)) = false := by decide) (hs : ∀ x, foldedSetIterable iter X.env x = pure x := by intro _; rfl) :
    PE X (.Call (.Name "sum" p) [.ListComp (.Call (.Name "int" p1) [.Name x p2] [] p3) [⟨.Name x px, iter, [], 0⟩] scope pos2] [] pos) (tSumB X.K ti) := by
  refine ⟨fun pins s σ H Q I h => ?_⟩
  refine wpAny_Call_Name_kw (ld_blt I hg hm (show bootBuiltins "sum" = some (.builtin "sum") by decide +kernel) ?_ (by decide) (by decide))
  refine PyProof.Rows.callWith_builtin1 ?_ rfl rfl
  refine Calls.spliced_cons (wpAny_ListComp_walk (fun _ => true) (fun v y => ∃ (b : Bool) (t : Tok), v = Value.bool b ∧ y = Value.int (if b then 1 else 0) t) hfree hcell hkind hnames hx (thn (hi.run pins s σ H _ I h) fun u s1 hh => ?_) hs)
  obtain ⟨v, H1, I1, r1, a, bs, e, hS, q⟩ := hh
  subst e
  obtain rfl : u = Value.ref a := r1
  obtain ⟨its, rv, hl, hz⟩ := I1.list hS
  have eb := Vals.bls rv
  subst eb
  obtain ⟨x1, hot, o1, us1, g1, d1⟩ := hc.at I1
  have hx1 : x1 ≠ s1.heap.objs.size := Nat.ne_of_lt (Heap.lt_size g1)
  have hla : a ≠ s1.heap.objs.size := by obtain ⟨o, n, e, _⟩ := hl; exact Nat.ne_of_lt (Heap.lt_size e)
  have hlp : (s1.heap.push { cls := .type "list_iterator", data := .fields #[.ref a, .int 0 0] }).IsList a (bs.map Value.bool).toArray := hl.isList.push _
  refine wpAny_pyIter_list hl.isList ?_
  refine ⟨s1.heap.objs.size, _, _, _, _, _, rfl, walks_hot (A := X.A) hot hx1 hla (bs.map Value.bool).toArray, ?_, ⟨⟨⟨_, Heap.get?_push_size _ rfl, rfl, rfl⟩, hlp⟩, o1, us1, Heap.get?_push_of_some _ g1, d1⟩, fun b hb => ?_, ⟨fun C i v s3 m3 E' hv hn hm hk ht => ?_, fun C i v s3 m3 E' hv _ hn hm hk ht => ?_⟩, fun D h' tk ys vs hD hlD hpl hlen hP hF hk => ?_⟩
  · rw [List.size_toArray, List.length_map]
    rw [List.length_map] at hz
    exact hz
  · rw [show (s1.heap.push { cls := .type "list_iterator", data := .fields #[.ref a, .int 0 0] }).objs.size = s1.heap.objs.size + 1 from Heap.size_push ..]
    rcases List.mem_cons.mp hb with rfl | hb
    · exact Nat.lt_succ_self _
    · rcases List.mem_cons.mp hb with rfl | hb
      · obtain ⟨o, n, e, _⟩ := hl
        exact Nat.lt_succ_of_lt (Heap.lt_size e)
      · rw [List.mem_singleton.mp hb]
        exact Nat.lt_succ_of_lt (Heap.lt_size g1)
  · exact wpAny_tests_nil ⟨rfl, s3.heap, s3.toks, rfl, fun _ _ e => e⟩
  · have up : ∀ b o, s1.heap.get? b = some o → s3.heap.get? b = some o := fun b o e => hk b o (fun z => by
      rw [List.mem_singleton.mp z] at e
      exact Nat.lt_irrefl _ (Heap.lt_size e)) (Heap.get?_push_of_some _ e)
    have hb : ∃ b : Bool, v = .bool b := by
      have hv : ((bs.map Value.bool).toArray)[i]? = some v := hv
      rw [List.getElem?_toArray, List.getElem?_map] at hv
      cases e : bs[i]? with
      | none => rw [e] at hv; cases hv
      | some b => rw [e] at hv; exact ⟨b, (Option.some.inj hv).symm⟩
    obtain ⟨b, rfl⟩ := hb
    obtain ⟨mb, b1, b2⟩ := I1.mod.blt
    have gl : s3.heap.Ns (compEnv scope C X.env).globals X.mg := by
      show s3.heap.Ns X.env.globals X.mg
      rw [I1.ok.glob]
      exact (I1.mod.glob.keeps I1.bk).keeps up
    have bl : s3.heap.Ns (compEnv scope C X.env).builtins mb := by
      show s3.heap.Ns X.env.builtins mb
      rw [I1.ok.blt]
      exact (b1.keeps I1.bk).keeps up
    refine wpAny_Call_Name_kw (Calls.Name_function_global hkind hgi (Calls.loadGlobal_builtin gl hmi bl ((b2 "int" (by decide)).trans (show bootBuiltins "int" = some (.type "int") by decide +kernel)) ?_) (by decide))
    refine PyProof.Rows.callWith_type1 (Calls.spliced_cons (wpAny_Name (wpAny_loadName_local hkind hx hn hm (Calls.spliced_nil ?_)) hdx)) rfl rfl
    exact call_int_bool ⟨⟨b, _, rfl, rfl⟩, s3.heap, _, rfl, fun _ _ e => e⟩
  · have hvs : vs = bs.map Value.bool := by
      apply List.ext_getElem?
      intro j
      cases e : vs[j]? with
      | none =>
        have hj := List.getElem?_eq_none_iff.mp e
        rw [List.size_toArray] at hlen
        exact (List.getElem?_eq_none (by omega)).symm
      | some v =>
        have := hP j v e
        rw [List.getElem?_toArray] at this
        exact this.symm
    subst hvs
    rw [List.filter_eq_self.mpr (fun _ _ => rfl)] at hF
    have up : ∀ b o, s1.heap.get? b = some o → h'.get? b = some o := fun b o e => hk b o (fun z => by
      rw [List.mem_singleton.mp z] at e
      exact Nat.lt_irrefl _ (Heap.lt_size e)) (Heap.get?_push_of_some _ e)
    refine Calls.spliced_nil (sum_hot (x1 := x1) hot ⟨o1, us1, up _ _ g1, d1⟩ (its := ys.toList) (by simpa using hlD) (paired_ints hF) fun h'' tk' t' hk' => ?_)
    exact ⟨.int _, H1, I1.kept (t' := tk') fun b o e => hk' b o (up b o e), ⟨_, rfl⟩, q⟩
end RW

/-! lambdas without parameters, handed to a def that calls them within try -/
set_option Elab.async false
set_option linter.all false
set_option maxRecDepth 100000
set_option maxHeartbeats 2000000
namespace RW
open PySem PySem.Spec PyProof.Rows L2
open Evl (Ex fresh_back)
/-- the table at P may have got a code object of the name q -/
def GrowT (P : Addr) (q : Str) (H H1 : Hp) : Prop := H1 = H ∨ ∃ (ps more : Array Value) (c : Addr), H P = some (.tbl ps) ∧ H c = none ∧ H1 = upd (upd H P (.tbl (ps ++ more))) c (LamX.CodeO c q)
theorem GrowT.old {P : Addr} {q : Str} {H H1 : Hp} (g : GrowT P q H H1) {a : Addr} {o : HO} (h : H a = some o) (hn : NTb o) : H1 a = some o := by
  rcases g with rfl | ⟨ps, more, c, hP, hc, rfl⟩
  · exact h
  · have n1 : a ≠ c := ne_of_none h hc
    have n2 : a ≠ P := fun z => by
      subst z
      rw [hP] at h
      exact hn ps (Option.some.inj h).symm
    rw [upd_ne n1, upd_ne n2]
    exact h
theorem good_grow {Dc : Gr} {Hb H H1 : Hp} {P : Addr} {q : Str} (g : Ok Dc Hb H) (w : GrowT P q H H1) (t : LamX.Tabs Dc.tabs H1) : Good Dc Hb H Hb H1 := by
  refine ⟨Ex.refl _, fun a o h _ hn => w.old h hn, fun a o h => w.old (g.sub a o h) (fun ps e => g.tb.nt a ps (e ▸ h)), fun a o h => .inl ⟨o, h⟩, fun a z => ?_, g.dcb, fun a ps h => ?_, t, g.tb.nt⟩
  · obtain ⟨i, j, e⟩ := g.dc a z
    exact ⟨i, j, w.old e (fun _ h => nomatch h)⟩
  · rcases w with rfl | ⟨ps', more, c, hP, hc, rfl⟩
    · exact ⟨ps, h⟩
    · have n1 : a ≠ c := ne_of_none h hc
      by_cases n2 : a = P
      · subst n2
        exact ⟨_, by rw [upd_ne n1, upd_same]⟩
      · exact ⟨ps, by rw [upd_ne n1, upd_ne n2]; exact h⟩
section
variable {X : Cx} {pins : List (Addr × Obj)} {σ : L2.St} {H : Hp} {s : Shared}
/-- a lambda is made -/
theorem lam_new {T : List (Addr × Str)} {c P : Addr} {params : Arguments} {body : Expr} {scope : Scope} {pos : Pos} {E Q : Value → Shared → Prop} (I : Inv X pins σ H s) (TB : LamX.TabB X.base X.mg c P) (hcode : X.env.code = .ref c)
    (hm : (P, X.env.qual ++ "<lambda>") ∈ T) (hu : ∀ p ∈ T, p.1 = P → p.2 = X.env.qual ++ "<lambda>") (hT : LamX.Tabs T H) (hdef : defaultsOf params X.env = ([], []))
    (hfree : ∀ y ∈ scope.names, y.2 = .free → ∃ c, X.env.cells.lookup y.1 = some c)
    (k : ∀ (f c' : Addr) (pm ctv : Value) (H1 : Hp) (s' : Shared), Inv X pins σ H1 s' → GrowT P (X.env.qual ++ "<lambda>") H H1 → LamX.Tabs T H1 →
      s'.heap.get? f = some (PySem.W.kla_obj "<lambda>" (X.env.qual ++ "<lambda>") params body scope (cloFrom X.env.cells scope.names []) pm c' ctv) → H1 f = none → f ∉ frs X.stack →
      H1 c' = some (LamX.CodeO c' (X.env.qual ++ "<lambda>")) → Q (.ref f) s') :
    wpAny (model X.prog X.w) X.A (eval (.Lambda params body scope pos) X.env) Q E s := by
  generalize hq : X.env.qual ++ "<lambda>" = q at hm hu k
  obtain ⟨ps, hP, tok, told⟩ := hT _ hm
  have sP : s.heap.get? P = some { cls := .none, data := .fields ps } := I.hok P _ hP
  have bP : s.heap.BuiltinsAt X.mg P := TB.bm.keeps I.bk
  have far : ∀ f, s.heap.objs.size ≤ f → f ∉ frs X.stack := fun f hf z => by
    rcases List.mem_cons.mp (I.stkSub _ z) with e | e
    · have z := I.lt
      rw [← e] at z
      exact absurd (Nat.lt_of_lt_of_le z hf) (Nat.lt_irrefl _)
    · exact I.nofs hf e
  refine PySem.W.kla_eval hdef ?_
  rw [hq]
  cases among : codeAmong pos ps.toList with
  | some cv =>
    obtain ⟨c', e, hco⟩ := told pos cv among
    subst e
    refine PySem.W.kla_makeFunctionHit (mg := X.mg) (c := c) (P := P) (ps := ps) (closure_ok hfree) I.ok.glob (I.mod.glob.keeps I.bk) hcode (TB.code.keeps I.bk) sP tok among bP fun ctv h' tk up hsz => ?_
    exact k h'.objs.size c' ((X.mg "__name__").getD .none) ctv H _ (I.kept fun b o e => Heap.get?_push_of_some _ (up b o e)) (.inl rfl) hT (Heap.get?_push_size _ rfl) (I.hok.fresh hsz) (far _ hsz) hco
  | none =>
    refine PySem.W.kla_makeFunction (mg := X.mg) (c := c) (P := P) (ps := ps) (closure_ok hfree) I.ok.glob (I.mod.glob.keeps I.bk) hcode (TB.code.keeps I.bk) sP tok among TB.gP bP fun c' ctv h' tk up hge hlt hrec htb => ?_
    obtain ⟨c2, oc, us, t, e2, goc, hd, hv⟩ := hrec
    cases e2
    have hsz : s.heap.objs.size ≤ h'.objs.size := by omega
    have nC : H c' = none := I.hok.fresh hge
    have nPC : P ≠ c' := ne_of_none hP nC
    have w : GrowT P q H (upd (upd H P (.tbl (ps ++ #[rawInt pos.line, rawInt pos.col, .ref c']))) c' (LamX.CodeO c' q)) := .inr ⟨ps, _, c', hP, nC, rfl⟩
    refine k h'.objs.size c' ((X.mg "__name__").getD .none) ctv _ _
      (LamX.inv_table (t' := tk) (c := c') (q := q) (more := #[rawInt pos.line, rawInt pos.col, .ref c']) I hP (fun b o hb e => Heap.get?_push_of_some _ (up b o hb e)) (Heap.get?_push_of_some _ htb) hge ⟨oc, us, t, Heap.get?_push_of_some _ goc, hd, hv⟩)
      w (fun p hp => ?_) (Heap.get?_push_size _ rfl) ?_ (far _ hsz) upd_same
    · have kept : ∀ a, H a = some (LamX.CodeO a q) → _ := fun a e => w.old e LamX.codeO_ne
      by_cases hb : p.1 = P
      · rw [hu p hp hb, hb]
        have el : (ps ++ #[rawInt pos.line, rawInt pos.col, Value.ref c']).toList = ps.toList ++ [rawInt pos.line, rawInt pos.col, .ref c'] := by simp
        refine ⟨_, by rw [upd_ne nPC, upd_same], by rw [el]; exact PySem.TriplesOk_snoc _ _ _ _ tok, fun p' cv hcv => ?_⟩
        rw [el] at hcv
        rcases LamX.among_app _ tok hcv with z | z
        · obtain ⟨c0, e1, e2⟩ := told p' cv z
          exact ⟨c0, e1, w.old e2 LamX.codeO_ne⟩
        · exact ⟨c', z, upd_same⟩
      · obtain ⟨ps', a1, a2, a3⟩ := hT p hp
        refine ⟨ps', by rw [upd_ne (ne_of_none a1 nC), upd_ne hb]; exact a1, a2, fun p' cv hcv => ?_⟩
        obtain ⟨c0, e1, e2⟩ := a3 p' cv hcv
        exact ⟨c0, e1, w.old e2 LamX.codeO_ne⟩
    · rw [upd_ne (Nat.ne_of_gt hlt), upd_ne (Nat.ne_of_gt (Nat.lt_of_lt_of_le (Heap.lt_size sP) hsz))]
      exact I.hok.fresh hsz
end
/-- the context of a lambda's body -/
def lamN (X : Cx) (A : Around) (outer : List Env) (s : Shared) (H : Hp) (E : XK) (scope : Scope) (f c' : Addr) : Cx :=
  (LamX.lamCx X A outer s H E scope f c').tr [] fun e s' => wpAny (model X.prog X.w) (A.deeper (LamX.lamEnv X scope s.heap.objs.size f c')) (leaving (LamX.lamEnv X scope s.heap.objs.size f c') e)
    (fun _ s2 => L2N.CX X.prog X.w outer H s E e s2) (fun e2 s2 => L2N.CX X.prog X.w outer H s E e2 s2) s'
theorem ctx_lam {X : Cx} {A : Around} {outer : List Env} {s : Shared} {H : Hp} {E : XK} {scope : Scope} {f c' : Addr} : Ctx (lamN X A outer s H E scope f c') E :=
  ⟨L2N.passes_call (L2N.takes_of rfl rfl rfl rfl) (fun _ _ _ _ h => h), passes_of rfl, rfl, L2N.takes_of rfl rfl rfl rfl⟩
section
variable {X : Cx} {pins : List (Addr × Obj)} {σ : L2.St} {H : Hp} {s : Shared}
/-- the lambda is called by the def that got it -/
theorem pe_deed {CXg : CXT} {Eg : XK} {Ng : List Str} {qg a : Str} {sg scope : Scope} {g f c' : Addr} {cdg pm ctv : Value} {params : Arguments} {body : Expr} {k i : Nat} {pn : List (Addr × Obj)} {xe : Value → Shared → Prop} {W : WX} {E : XK} {tb : TE} {p1 p2 : Pos}
    (I : Inv X pins σ H s) (L : LamX.LamS X.env.scope scope) (hf : s.heap.get? f = some (PySem.W.kla_obj "<lambda>" (X.env.qual ++ "<lambda>") params body scope (cloFrom X.env.cells scope.names []) pm c' ctv))
    (hfn : H f = none) (hfr : f ∉ frs X.stack) (hbind : bindArgs (PySem.W.kla_fn "<lambda>" (X.env.qual ++ "<lambda>") params body scope (cloFrom X.env.cells scope.names []) pm (.ref c') ctv) ⟨[], []⟩ = pure [])
    (tk : L2N.Takes ((cxOf CXg X.prog X.w X.K X.mg X.base Ng qg sg g cdg X.A X.stack s H Eg).tr pn xe) W) (hr : Room (k + 1) (X.A.deeper (envOfC qg sg s.heap.objs.size g cdg)))
    (hbody : ∀ (A : Around) (outer : List Env) (s : Shared) (H : Hp), Room k (A.deeper (LamX.lamEnv X scope s.heap.objs.size f c')) → PE (lamN X A outer s H E scope f c') body tb)
    (hN : Ng[i]? = some a) (hv : Vis sg a) (hd : (a == ("__debug__" : Str)) = false := by decide) (hcd : (a == ("__classdict__" : Str)) = false := by decide) :
    PE ((cxOf CXg X.prog X.w X.K X.mg X.base Ng qg sg g cdg X.A X.stack s H Eg).tr pn xe) (.Call (.Name a p1) [] [] p2)
      (fun τ G Q => τ[i]? = some (some (.ref f)) ∧ G c' = some (LamX.CodeO c' (X.env.qual ++ "<lambda>")) ∧ (∀ cls d G2, E cls d G2 → W cls d τ G2) ∧ tb σ G Q) := by
  refine ⟨fun pinZ sZ τ G Q IZ ⟨hs, hc, hW, ht⟩ => ?_⟩
  refine wpAny_Call_Name_kw (thn ((pe_var (pos := p1) (i := i) hN hv hd hcd).run pinZ sZ τ G (fun v G1 => v = .ref f ∧ G1 = G) IZ ⟨.ref f, hs, rfl, rfl⟩) fun u s1 ⟨v, G1, J, r1, ev, eG⟩ => ?_)
  subst ev eG
  obtain rfl : u = Value.ref f := r1
  have at1 := J.base.keep f _ hf hfn hfr (fun z => nomatch (show f ∈ ([] : List Addr) from z))
  refine PySem.W.callWith_F0 ⟨_, _, _, _, at1⟩ ?_
  obtain ⟨⟨oc, us, t, goc, hdc, hvc⟩, _, _⟩ := J.hok c' _ hc
  have ran : codeAny (model X.prog X.w) (X.A.deeper (envOfC qg sg s.heap.objs.size g cdg)) (.call (.ref f) ⟨[], []⟩) (CR (L2N.CX X.prog X.w) (envOfC qg sg s.heap.objs.size g cdg :: X.stack) X.prog X.w G1 s1 Q E) s1 := by
    refine PySem.W.kla_callFunE hr.depth at1 rfl L.co L.gen rfl ⟨c', oc, us, t, rfl, goc, hdc, hvc⟩ ?_
    rw [hbind]
    refine wpAny_pure (wpAny_newFunctionEnv (fun y hy => (L.own y hy).2) (fun y hy => absurd hy (by simp)) (fun h1 hns hsb => ⟨J.nolimit.fresh _ hsb, ?_⟩) L.kind)
    show codeAny _ _ (.expr body (LamX.lamEnv X scope s1.heap.objs.size f c')) _ _
    have up : ∀ b o, s1.heap.get? b = some o → h1.get? b = some o := fun b o e => hsb.extBut b o (Nat.ne_of_lt (Heap.lt_size e)) (Heap.get?_push_of_some _ e)
    have J0 := LamX.lam_start2 (A := X.A.deeper (envOfC qg sg s.heap.objs.size g cdg)) (outer := envOfC qg sg s.heap.objs.size g cdg :: X.stack) (E := E) (f := f) (c' := c') (tk := s1.toks + ([] : List (Str × Value)).length) I L J.env0 hr.hd J.base hns up
    have J1 : Inv (lamN X (X.A.deeper (envOfC qg sg s.heap.objs.size g cdg)) (envOfC qg sg s.heap.objs.size g cdg :: X.stack) s1 G1 E scope f c') [] σ G1 { s1 with heap := h1, toks := s1.toks + ([] : List (Str × Value)).length } := J0.toTry _
    refine PySem.W.kla_codeExpr (wpAny_mono ((hbody _ _ s1 G1 (hr.deeper _)).run [] _ _ G1 Q J1 ht) (fun v s2 hq => ?_) fun e s2 hq => hq)
    obtain ⟨w2, G2, J2, rv, q⟩ := hq
    exact ⟨w2, G2, J2.os, J2.bare, J2.base, J2.hok, rv, q⟩
  refine wpAny_call (codeAny_mono ran fun r s2 hq => ?_)
  cases r with
  | error e => exact tk _ _ (L2N.XE.of_call J (fun cls d G2 h => hW cls d G2 h) hq)
  | ok fl =>
    cases fl with
    | ret u => exact J.after hq
    | next => exact hq.elim
    | brk => exact hq.elim
    | cont => exact hq.elim
end
end RW

/-! try: return deed() / except C as e: return term(e) -/
set_option Elab.async false
set_option linter.all false
set_option maxRecDepth 100000
set_option maxHeartbeats 2000000
namespace RW
open PySem PySem.Spec PyProof.Rows L2
open Evl (Ex fresh_back)
/-- a def that is called with the handled exception -/
structure FnE (P : Program) (w : World) (K : PySem.W.Frag) (mg : Str → Option Value) (base : Heap) (k : Nat) (x a : Str) (S : (Addr × Obj) → Hp → VK → Prop) : Prop where
  ex : ∃ (f : Addr) (fd : FuncData), mg x = some (.ref f) ∧ PySem.W.keepIn K (.ref f) = true ∧ Binds K fd [a] [] ∧
    ∀ (A : Around) (outer : List Env) (s : Shared) (H : Hp) (args : Args) (Q : VK) (p : Addr × Obj), L2H.RoomH k A → L2H.Hot1 A p → L2H.PinOk outer H s p → Env0 P w K mg base A outer s H →
      BindsTo s fd args ([a].zip [.ref p.1]) → S p H Q → codeAny (model P w) A (.call (.ref f) args) (CR (L2N.CX P w) outer P w H s Q E0) s
section
variable {P : Program} {w : World} {K : PySem.W.Frag} {mg : Str → Option Value} {base : Heap}
theorem FnE.mono {j k : Nat} {x a : Str} {S : (Addr × Obj) → Hp → VK → Prop} (F : FnE P w K mg base j x a S) (h : j ≤ k) : FnE P w K mg base k x a S := by
  obtain ⟨f, fd, h1, h2, h3, h4⟩ := F.ex
  exact ⟨f, fd, h1, h2, h3, fun A outer s H args Q p r => h4 A outer s H args Q p (r.mono h)⟩
theorem fnE_of {x a : Str} {st : Stmt} {f : Addr} {fd : FuncData} {N : List Str} {k : Nat} {S : (Addr × Obj) → Hp → VK → Prop} (F : Fun K x x st f fd) (gm : mg x = some (.ref f)) (Sc : FnScope N [a] (defScope st)) (hb : Binds K fd [a] [])
    (body : ∀ (cdv : Value) (A : Around) (outer : List Env) (s : Shared) (H : Hp) (Q : VK) (p : Addr × Obj), L2H.Hot1 A p → L2H.RoomH k (A.deeper (envOfC x (defScope st) s.heap.objs.size f cdv)) → S p H Q →
      ∃ t, PSs (L2H.cxH (L2N.CX P w) P w K mg base N x (defScope st) f cdv A outer s H E0 p) (defBody st) t ∧ t { nx := fun _ G => Q .non G, rt := Q } (L2.start N [.ref p.1]) H) : FnE P w K mg base (k + 1) x a S := by
  refine ⟨f, fd, gm, F.kp, hb, fun A outer s H args Q p hr hot pin e0 bt hS => ?_⟩
  obtain ⟨oc, od, kV, doc, pm, an, cdv, ct, osl, rfl, lk, hcd⟩ := F.ex
  have kin : K.In s.heap := e0.mod.kin.keeps fun b o e => (e0.bs b o e).1
  have lim : s.heap.NoLimit := e0.mod.nolimit.keeps fun b o e => (e0.bs b o e).1
  refine codeAny_call_function hr.depth (kin _ _ lk) rfl Sc.co Sc.gen rfl (PySem.W.codeRec_of kin hcd) (bt _ _ _ _ ?_)
  refine wpAny_newFunctionEnv_cells Sc.kind (fun y hy => ?_) fun env he s1 z => ?_
  · rcases Sc.par y.1 (List.of_mem_zip (show (y.1, y.2) ∈ _ from hy)).1 with q | q
    · exact .inl q
    · exact .inr ⟨q, PySem.W.cellsFrom_some _ _ _ (.inl q)⟩
  subst he
  refine ⟨lim.keeps z.toInCall.keep, codeAny_func ?_⟩
  obtain ⟨t, ht, hq⟩ := body cdv A outer s H Q p hot (hr.deeper _) hS
  have I : Inv (L2H.cxH (L2N.CX P w) P w K mg base N x (defScope st) f cdv A outer s H E0 p) [] (L2.start N [.ref p.1]) H s1 := L2H.inv_startH Sc pin e0 rfl (.cons rfl .nil) z
  have fin : ∀ {τ : L2.St} {G : Hp} {v : V} {u : Value} {s2 : Shared}, Inv (L2H.cxH (L2N.CX P w) P w K mg base N x (defScope st) f cdv A outer s H E0 p) [] τ G s2 → RelV v u → Q v G → CE outer P w H s Q u s2 :=
    fun {τ G v u s2} J rv q => ⟨v, G, J.os, J.bare, J.base, J.hok, rv, q⟩
  refine wpAny_mono (ht.run [] s1 _ H _ I hq) (fun fl s2 hs => ?_) fun e s2 hs => hs
  cases fl with
  | ret u =>
    obtain ⟨v, τ, G, J, rv, q⟩ := hs
    exact fin J rv q
  | next =>
    obtain ⟨τ, G, J, q⟩ := hs
    exact fin (v := V.non) (u := Value.none) J rfl q
  | brk => exact (show False from hs.choose_spec.choose_spec.2).elim
  | cont => exact (show False from hs.choose_spec.choose_spec.2).elim
end
/-- x(e), e the exception that the suite holds in slot i -/
theorem pe_term {X : Cx} {k i : Nat} {x a n : Str} {S : (Addr × Obj) → Hp → VK → Prop} {ea : Addr} {oe : Obj} {cls : Value} {d : Option Addr} {pn : List (Addr × Obj)} {p p2 pos : Pos} (F : FnE X.prog X.w X.K X.mg X.base k x a S) (hr : Room k X.A)
    (hz : L2N.Zn cls d oe) (hd : ∃ us, oe.data = .fields us) (hg : Gl X x) (hN : X.N[i]? = some n) (hv : Vis X.env.scope n) (hdb : (x == ("__debug__" : Str)) = false := by decide) (hdn : (n == ("__debug__" : Str)) = false := by decide) (hcn : (n == ("__classdict__" : Str)) = false := by decide)
    (he : starEach [Expr.Name n p2] X.env = [(false, eval (.Name n p2) X.env)] := by rfl) :
    PE (X.suite ea ((ea, oe) :: pn)) (.Call (.Name x p) [.Name n p2] [] pos) (fun σ H Q => σ[i]? = some (some (.ref ea)) ∧ S (ea, oe) H Q) := by
  refine ⟨fun pins s σ H Q I ⟨hs, hS⟩ => ?_⟩
  obtain ⟨f, fd, hm, hk, hb, run⟩ := F.ex
  obtain ⟨us, hu⟩ := hd
  refine wpAny_Call_Name_kw (ld_glob I hg hm ?_ hdb)
  have ha : PA (X.suite ea ((ea, oe) :: pn)) [.Name n p2] (tCons (tVar i) tNil) := pa_cons (pe_var (pos := p2) (i := i) hN hv hdn hcn) pa_nil he
  refine PySem.W.callWith_K (h₀ := X.base) I.ok.mod.kin hk (thn (ha.run pos pins s σ H (fun vs G => vs = [V.ref ea] ∧ G = H) I ⟨.ref ea, hs, rfl, rfl⟩) fun ws s1 ⟨vs, G, J, r, ev, eG⟩ => ⟨J.kIn, ?_⟩)
  subst ev eG
  cases r with
  | cons r1 r2 =>
    cases r2
    cases r1
    have P1 := J.pin (ea, oe) (List.mem_append_left _ List.mem_cons_self)
    have pin : L2H.PinOk X.stack G s1 (ea, oe) := ⟨P1.1, P1.2.1, fun hm => (List.mem_cons.mp (J.stkSub ea hm)).elim P1.2.2.1 P1.2.2.2.1, P1.2.2.2.2⟩
    have bt := hb s1 [.ref ea] J.kIn rfl
    refine wpAny_call (codeAny_mono (run _ X.stack s1 G ⟨[.ref ea], []⟩ Q (ea, oe) ⟨hr.dp, hr.un⟩ ⟨rfl, us, hu, hz.2.2 us hu⟩ pin J.env0 bt hS) fun r s2 hq => ?_)
    cases r with
    | error e =>
      obtain ⟨_, _, _, _, _, _, _, _, _, _, _, _, z⟩ := hq
      exact z.elim
    | ok fl =>
      cases fl with
      | ret u => exact J.after hq
      | next => exact hq.elim
      | brk => exact hq.elim
      | cont => exact hq.elim
/-- what becomes of an exception: the clause takes it, the term tells it -/
def xTold (K : PySem.W.Frag) (CS : Addr) (S : (Addr × Obj) → Hp → VK → Prop) (Q : VK) : XK := fun cls d H => PySem.W.exmOne K cls (.ref CS) = some true ∧ ∀ (a : Addr) (oe : Obj), L2N.Zn cls d oe → (∃ us, oe.data = .fields us) → S (a, oe) H Q
def tTold (K : PySem.W.Frag) (CS : Addr) (S : (Addr × Obj) → Hp → VK → Prop) (T : List (Addr × Str)) (P : Addr) (q : Str) (t : XK → TE) : TE := fun σ H Q => LamX.Tabs T H ∧ ∀ H1, GrowT P q H H1 → LamX.Tabs T H1 → t (xTold K CS S Q) σ H1 Q
theorem pe_told {X : Cx} {T : List (Addr × Str)} {S : (Addr × Obj) → Hp → VK → Prop} {x a n y z b : Str} {g c P CS : Addr} {fd : FuncData} {st : Stmt} {Ng : List Str} {k j : Nat} {params : Arguments} {body : Expr} {scope : Scope} {t : XK → TE} {p lpos pos q1 q2 q3 q4 q5 q6 q7 q8 q9 q10 : Pos}
    (G : Fun X.K x x st g fd) (hm : X.mg x = some (.ref g)) (hbs : defBody st = [.Try [.Return (some (.Call (.Name a q1) [] [] q2)) q3] [.ExceptHandler (some (.Name y q4)) (some n) [.Return (some (.Call (.Name z q5) [.Name n q6] [] q7)) q8] q9] [] [] q10])
    (Sg : FnScope Ng [a] (defScope st)) (hb : Binds X.K fd [a] []) (hN0 : Ng[0]? = some a) (hN1 : Ng[1]? = some n) (hva : Vis (defScope st) a) (hln : (defScope st).names.lookup n = some .local) (hgy : (defScope st).names.lookup y = some .globalImplicit) (hgz : (defScope st).names.lookup z = some .globalImplicit)
    (hme : X.mg y = some (.ref CS)) (F : FnE X.prog X.w X.K X.mg X.base j z b S) (hjk : j ≤ k + 1)
    (TB : LamX.TabB X.base X.mg c P) (hcode : X.env.code = .ref c) (hmT : (P, X.env.qual ++ "<lambda>") ∈ T) (hu : ∀ p ∈ T, p.1 = P → p.2 = X.env.qual ++ "<lambda>") (hr : Room (k + 2) X.A) (L : LamX.LamS X.env.scope scope) (hdef : defaultsOf params X.env = ([], []))
    (hbind : ∀ (q : Str) (cl : List (Str × Addr)) (pm cv ctv : Value), bindArgs (PySem.W.kla_fn "<lambda>" q params body scope cl pm cv ctv) ⟨[], []⟩ = pure [])
    (hbody : ∀ (A : Around) (outer : List Env) (s : Shared) (H : Hp) (E : XK) (f c' : Addr), Room k (A.deeper (LamX.lamEnv X scope s.heap.objs.size f c')) → PE (lamN X A outer s H E scope f c') body (t E)) (hg : Gl X x)
    (hdb : (x == ("__debug__" : Str)) = false := by decide) (hd : (a == ("__debug__" : Str)) = false := by decide) (hcd : (a == ("__classdict__" : Str)) = false := by decide) (hdn : (n == ("__debug__" : Str)) = false := by decide) (hcn : (n == ("__classdict__" : Str)) = false := by decide)
    (hdy : (y == ("__debug__" : Str)) = false := by decide) (hdz : (z == ("__debug__" : Str)) = false := by decide) :
    PE X (.Call (.Name x p) [.Lambda params body scope lpos] [] pos) (tTold X.K CS S T P (X.env.qual ++ "<lambda>") t) := by
  refine ⟨fun pins s σ H Q I ⟨hT, h⟩ => ?_⟩
  have hk := G.kp
  obtain ⟨oc, od, kV, doc, pm, an, cdv, ct, osl, rfl, lk, hcg⟩ := G.ex
  refine wpAny_Call_Name_kw (ld_glob I hg hm ?_ hdb)
  refine PySem.W.callWith_K (h₀ := X.base) I.ok.mod.kin hk ?_ (by rfl) (by rfl)
  show wpAny _ _ (spliced ((false, eval (.Lambda params body scope lpos) X.env) :: backTo pos (starEach [] X.env))) _ _ s
  refine Calls.spliced_cons (lam_new I TB hcode hmT hu hT hdef (L.has I.ok) fun f c' pm' ctv H1 s1 I1 gr T1 hf hfn hfr hco => Calls.spliced_nil ⟨I1.kIn, ?_⟩)
  have ran : codeAny (model X.prog X.w) X.A (.call (.ref g) ⟨[.ref f], []⟩) (CR C8.CX0 X.stack X.prog X.w H1 s1 Q C8.E0) s1 := by
    refine LamX.run_ofS (N := Ng) (ps := [a]) (us := [.ref f]) (vs := [.ref f]) lk hcg Sg hr I1.env0 (hb s1 [.ref f] I1.kIn rfl) (.cons rfl .nil) rfl fun hr1 => ?_
    rw [hbs]
    let Z : Cx := (cxOf C8.CX0 X.prog X.w X.K X.mg X.base Ng x (defScope st) g cdv X.A X.stack s1 H1 C8.E0).nox
    have sl0 : (L2.start Ng [V.ref f])[0]? = some (some (V.ref f)) := rfl
    have body1 : PS Z (.Try [.Return (some (.Call (.Name a q1) [] [] q2)) q3] [.ExceptHandler (some (.Name y q4)) (some n) [.Return (some (.Call (.Name z q5) [.Name n q6] [] q7)) q8] q9] [] [] q10) _ :=
      L2N.ps_try_as (X := Z) (i := 1) (c := .ref CS) (Wout := fun _ _ _ _ => False)
        (tb := fun W D τ G => ∃ Ech : XK, (∀ cls d G2, Ech cls d G2 → W cls d τ G2) ∧ τ[0]? = some (some (.ref f)) ∧ G c' = some (LamX.CodeO c' (X.env.qual ++ "<lambda>")) ∧ t Ech σ G D.rt)
        (ts := fun ea cls d D τ G => τ[1]? = some (some (.ref ea)) ∧ ∀ oe, L2N.Zn cls d oe → (∃ us, oe.data = .fields us) → S (ea, oe) G D.rt)
        rfl rfl Sg.nd hN1 hln ⟨hgy, hdy, .inl hme⟩ (fun _ _ x => by
          obtain ⟨_, _, _, _, _, _, _, _, _, _, _, _, _, _, _, _, z⟩ := x
          exact z.elim) (fun W pn xe tk _ => ?_) (fun ea oe cls d pn hz hd => ?_)
    · refine ⟨_, (pss_one body1).nox, ?_⟩
      refine ⟨xTold X.K CS S Q, fun cls d G2 hE => ⟨true, hE.1, fun _ ea _ => ⟨?_, fun oe hz hd => hE.2 ea oe hz hd⟩, fun z => nomatch z⟩, sl0, hco, h H1 gr T1⟩
      have hl : 1 < (L2.start Ng [V.ref f]).length := by
        unfold L2.start
        have : 1 < Ng.length := (List.getElem?_eq_some_iff.mp hN1).1
        simp
        omega
      rw [List.getElem?_set_self hl]
    · refine ⟨fun pinZ sZ τ G D J ⟨Ech, hW, h1, h2, h3⟩ => ?_⟩
      have deed := pe_deed (X := X) (CXg := C8.CX0) (Eg := C8.E0) (i := 0) (E := Ech) (tb := t Ech) (p1 := q1) (p2 := q2) (params := params) (body := body) (pm := pm') (ctv := ctv) I1 L hf hfn hfr (hbind _ _ _ _ _) (pn := pn) (xe := xe) (W := W) tk hr1 (fun A outer s H hr2 => hbody A outer s H Ech f c' hr2) hN0 hva hd hcd
      exact (pss_one (ps_ret (pos := q3) deed)).run pinZ sZ τ G D J ⟨h1, h2, hW, h3⟩
    · refine ⟨fun pinZ sZ τ G D J ⟨h1, h2⟩ => ?_⟩
      have term := pe_term (X := Z) (i := 1) (n := n) (p := q5) (p2 := q6) (pos := q7) (ea := ea) (oe := oe) (pn := pn) F (hr1.mono hjk) hz hd hgz hN1 (.inl hln) hdz hdn hcn
      exact (pss_one (ps_ret (pos := q8) term)).run pinZ sZ τ G D J ⟨h1, h2 oe hz hd⟩
  refine wpAny_call (codeAny_mono ran fun r s2 hq => ?_)
  cases r with
  | error e => exact (show False from hq).elim
  | ok fl =>
    cases fl with
    | ret u => exact I1.after hq
    | next => exact hq.elim
    | brk => exact hq.elim
    | cont => exact hq.elim
end RW

/-! the term that tells an exception by its class; told as a rule of the data layer -/
set_option Elab.async false
set_option linter.all false
set_option maxRecDepth 100000
set_option maxHeartbeats 2000000
namespace RW
open PySem PySem.Spec PyProof.Rows L2
open Evl (Ex fresh_back)
def addrOf (mg : Str → Option Value) (x : Str) : Addr := match mg x with
  | some (.ref a) => a
  | _ => 0
def excN : List Str := ["InvalidChain", "InvalidNumber", "InvalidStep", "InvalidText", "TooMany", "NothingToUndo"]
def excS (i : Nat) : Str := excN.getD i ""
/-- the six classes, and what isinstance and except make of them -/
structure Exc6 (K : PySem.W.Frag) (mg : Str → Option Value) : Prop where
  m : ∀ i, i < 6 → mg (excS i) = some (.ref (addrOf mg (excS i)))
  r : mg "RoundError" = some (.ref (addrOf mg "RoundError"))
  c : ∀ i, i < 6 → ExcC K (addrOf mg (excS i))
  x : ∀ i, i < 6 → PySem.W.exmOne K (.ref (addrOf mg (excS i))) (.ref (addrOf mg "RoundError")) = some true
  v : ∀ i, i < 6 → PySem.W.kitOne K (.ref (addrOf mg (excS i))) (.type "ValueError") = some true
  k : ∀ i j, i < 6 → j < 6 → PySem.W.kitOne K (.ref (addrOf mg (excS i))) (.ref (addrOf mg (excS j))) = some (decide (i = j))
theorem Exc6.cls {K : PySem.W.Frag} {mg : Str → Option Value} (e : Exc6 K mg) {i : Nat} (hi : i < 6) : clsOf mg (excS i) = .ref (addrOf mg (excS i)) := by
  unfold clsOf
  rw [e.m i hi]
  rfl
/-- what is said of an exception -/
def errD (i : Nat) : D := .tup [.str "error", .str (excS i)]
def TermS (K : PySem.W.Frag) (mg : Str → Option Value) : (Addr × Obj) → Hp → VK → Prop := fun p H Q => ∃ (i : Nat) (Dc : Gr) (Hb : Hp), i < 6 ∧ Zc (.ref (addrOf mg (excS i))) none p.2 ∧ (∃ us, p.2.data = .fields us) ∧ Ok Dc Hb H ∧
  ∀ Hb2 H2 v, Good Dc Hb H Hb2 H2 → Dt K Dc Hb2 (errD i) v → Q v H2
section
variable {X : Cx} {K : PySem.W.Frag} {Dc : Gr} {Xe : XK} {e a b c : Expr} {es : List Expr} {ta tb te : TE} {da db dd : TEd} {pos : Pos}
/-! isinstance of the exception at hand -/
theorem cr_isE {ea D : Addr} {oe : Obj} (C : ExcC X.K D) (hp : (ea, oe) ∈ X.pn) (hz : Zc (.ref D) none oe) (hf : ∃ us, oe.data = .fields us) : CallR X (.builtin "isinstance") (rIsE X.K D ea) := by
  intro pins s σ H xs us Q I r h
  obtain ⟨cv, u, bb, rfl, hu, hb, q⟩ := h
  cases r with
  | cons r1 rr =>
    cases rr with
    | cons r2 rr =>
      cases rr
      cases r1
      obtain rfl := hu _ r2
      have at1 := (I.pin (ea, oe) (List.mem_append_left _ hp)).1
      obtain ⟨fs, hfs⟩ := hf
      have inst : PySem.W.InstAt s.heap ea oe D none := by
        obtain ⟨k1, k2, k3, k4⟩ := oe
        obtain ⟨z1, z2⟩ := hz
        dsimp only at z1 z2 hfs
        subst z1 z2 hfs
        exact ⟨at1, rfl, rfl, trivial⟩
      refine PySem.W.kia_one (PySem.W.handS_kitx_exc C.hg C.hk C.hs C.hd C.ha C.hn C.ht C.hm) I.kIn inst hb (fun z => nomatch z) fun tk => ?_
      exact ⟨.bl bb, H, I.kept (t' := tk) fun _ _ z => z, rfl, q⟩
def isEB (K : PySem.W.Frag) (D ea : Addr) : List RW.D → Option Bool
  | [.cls ea', .cls c] => if ea' = ea then PySem.W.kitOne K (.ref D) (.ref c) else none
  | [.cls ea', .ty n] => if ea' = ea then PySem.W.kitOne K (.ref D) (.type n) else none
  | _ => none
@[simp] def dIsE (K : PySem.W.Frag) (D ea : Addr) : List RW.D → (RW.D → Prop) → Prop := fun ds P => ∃ b, isEB K D ea ds = some b ∧ P (.bl b)
theorem rc_isE {D ea : Addr} : RCD K Dc (rIsE K D ea) (dIsE K D ea) := by
  intro Hb H xs ds P Q ok hd h k
  obtain ⟨b, hb, hP⟩ := h
  unfold isEB at hb
  split at hb
  · rename_i ea' c
    split at hb
    · rename_i ez
      subst ez
      obtain ⟨v, r, rfl, h1, hr⟩ := hd.cons
      obtain ⟨v2, r2, rfl, h2, hr2⟩ := hr.cons
      rw [hr2.nil]
      simp only [Dt] at h1 h2
      subst h1 h2
      exact ⟨_, .ref c, b, rfl, fun u r => r, hb, k Hb H _ _ ok dt_bl hP⟩
    · cases hb
  · rename_i ea' n
    split at hb
    · rename_i ez
      subst ez
      obtain ⟨v, r, rfl, h1, hr⟩ := hd.cons
      obtain ⟨v2, r2, rfl, h2, hr2⟩ := hr.cons
      rw [hr2.nil]
      simp only [Dt] at h1 h2
      subst h1 h2
      exact ⟨_, .type n, b, rfl, fun u r => r, hb, k Hb H _ _ ok dt_bl hP⟩
    · cases hb
  · cases hb
theorem de_isE {D ea : Addr} {oe : Obj} {p : Pos} {tr : TA} {dr : TAd} (C : ExcC K D) (hp : (ea, oe) ∈ X.pn) (hz : Zc (.ref D) none oe) (hf : ∃ us, oe.data = .fields us) (hm : X.mg "isinstance" = none) (ha : DA X K Dc Xe (e :: es) tr dr) (hg : Gl X "isinstance" := by rfl)
    (he : starEach (e :: es) X.env = (false, eval e X.env) :: starEach es X.env := by rfl) (hpl : (backTo pos (starEach es X.env)).any (·.1) = false := by rfl) : DE X K Dc Xe (.Call (.Name "isinstance" p) (e :: es) [] pos) (tCB (rIsE K D ea) tr) (dCB (dIsE K D ea) dr) := by
  obtain rfl := ha.hK
  exact de_callB (cr_isE C hp hz hf) rc_isE hg hm (by decide +kernel) ha (by decide) (by decide) he hpl
/-- a class of the text, as a value -/
theorem de_clsX {x : Str} (h : X.mg x = some (.ref (addrOf X.mg x))) (hg : Gl X x := by rfl) (hd : (x == ("__debug__" : Str)) = false := by decide) (hK : X.K = K := by rfl) : DE X K Dc Xe (.Name x pos) (tC (.ref (addrOf X.mg x))) (dC (.cls (addrOf X.mg x))) :=
  de_glob hg h rfl (fun _ => by simp only [Dt]) hd hK
theorem de_valueError (hm : X.mg "ValueError" = none) (hg : Gl X "ValueError" := by rfl) (hK : X.K = K := by rfl) : DE X K Dc Xe (.Name "ValueError" pos) (tC (.ty "ValueError")) (dC (.ty "ValueError")) :=
  de_bltn hg hm (u := .type "ValueError") (by decide +kernel) rfl (fun _ => by simp only [Dt]) (by decide) (by decide) hK
theorem de_neU (hu : X.A.units + 64 < cLine) (ha : DE X K Dc Xe a ta da) (hb : DE X K Dc Xe b tb db) : DE X K Dc Xe (.Compare a [.NotEq] [b] pos) (tOp (rNeD K) ta tb) (dOp dNe da db) := by obtain rfl := ha.hK; exact de_cmp (op_neD hu) r2_ne ha hb (nomark _)
theorem dt_neU (hu : X.A.units + 64 < cLine) (ha : DE X K Dc Xe a ta da) (hb : DE X K Dc Xe b tb db) : DT X K Dc Xe (.Compare a [.NotEq] [b] pos) (tTest (tOp (rNeD K) ta tb)) (dTest (dOp dNe da db)) := by obtain rfl := ha.hK; exact dt_cmp (op_neD hu) r2_ne ha hb (nomark _)
/-! sum([int(x) for x in xs]) -/
@[simp] def dSumB (dd : TEd) : TEd := fun sd P F => dd sd (fun d => ∃ bs : List Bool, d = .lst (bs.map D.bl) ∧ P (.int (bs.map fun b => if b then (1 : Int) else 0).sum)) F
theorem dts_bls {Hb : Hp} : ∀ {bs : List Bool} {vs : List V}, Dts K Dc Hb (bs.map D.bl) vs → vs = bs.map V.bl
  | [], vs, h => by rw [List.map_nil] at h; rw [h.nil]; rfl
  | b :: bs, vs, h => by
    rw [List.map_cons] at h
    obtain ⟨v, r, rfl, h1, h2⟩ := h.cons
    simp only [Dt] at h1
    rw [h1, dts_bls h2, List.map_cons]
theorem de_sumB {x : Str} {scope : Scope} {p p1 p2 p3 px pos2 : Pos} (hc : L2H.HotC X) (hm : X.mg "sum" = none) (hmi : X.mg "int" = none) (h : DE X K Dc Xe e te dd)
    (hs1 : scope.names.all (fun y => !decide (y.2 = .free) && !decide (y.2 = .cell) && (!decide (y.2 = .local) || decide (scope.names.lookup y.1 = some .local))) = true) (hkind : scope.kind = .function) (hx : scope.names.lookup x = some .local) (hgi : scope.names.lookup ("int" : Str) = some .globalImplicit)
    (hg : Gl X "sum" := by rfl) (hdx : (x == ("__debug__" : Str)) = false := by decide) (hcx : (x == ("__classdict__" : Str)) = false := by decide) (hs : ∀ x, foldedSetIterable e X.env x = pure x := by intro _; rfl) :
    DE X K Dc Xe (.Call (.Name "sum" p) [.ListComp (.Call (.Name "int" p1) [.Name x p2] [] p3) [⟨.Name x px, e, [], 0⟩] scope pos2] [] pos) (tSumB K te) (dSumB dd) := by
  obtain rfl := h.hK
  have hn : ∀ y ∈ scope.names, y.2 ≠ .free ∧ y.2 ≠ .cell ∧ (y.2 = .local → scope.names.lookup y.1 = some .local) := fun y hy => by
    have := List.all_eq_true.mp hs1 y hy
    simp only [Bool.and_eq_true, Bool.or_eq_true, Bool.not_eq_true', decide_eq_true_eq, decide_eq_false_iff_not] at this
    exact ⟨this.1.1, this.1.2, fun z => this.2.resolve_left (fun w => w z)⟩
  refine ⟨rfl, pe_sumB hc h.pe hg hm hmi (fun y hy => (hn y hy).1) (fun y hy => (hn y hy).2.1) hkind (fun y hy => (hn y hy).2.2) hx hgi hdx hcx hs, ?_⟩
  intro Hb0 H0 F hF Hb H σ sd P Q m hd k
  refine h.rd Hb0 H0 F hF Hb H σ sd _ _ m hd fun Hb1 H1 v d g1 dv hp => ?_
  obtain ⟨bs, rfl, hp⟩ := hp
  simp only [Dt] at dv
  obtain ⟨l, vs, rfl, h1, h2⟩ := dv
  rw [dts_bls h2] at h1
  exact ⟨l, bs, rfl, SqL.of (g1.sub _ _ h1), k Hb1 H1 _ _ g1 dt_int hp⟩
/-! xs.index(e) -/
@[simp] def dIndex (da db : TEd) : TEd := fun sd P F => da sd (fun x => ∃ bs : List Bool, x = .lst (bs.map D.bl) ∧ db sd (fun y => ∃ (b : Bool) (j : Nat), y = .bl b ∧ bs[j]? = some b ∧ (∀ (i : Nat) (c : Bool), i < j → bs[i]? = some c → c ≠ b) ∧ P (.int (j : Nat))) F) F
theorem eqV_bl {b c : Bool} : eqV (.bl b) (.bl c) = decide (b = c) := by cases b <;> cases c <;> rfl
theorem de_indexB {p : Pos} (ha : DE X K Dc Xe a ta da) (hb : DE X K Dc Xe b tb db) (hst : starEach [b] X.env = (false, eval b X.env) :: starEach [] X.env := by rfl)
    (pe : PE X a ta → PA X [b] (tCons tb tNil) → PE X (.Call (.Attribute a "index" p) [b] [] pos) (tBM X.K "list" (rIndex X.K) ta (tCons tb tNil)) := by
      intro h1 h2; exact pe_bm PySem.F.plainAttrs_list PySem.F.slot_list_index PySem.F.type_list_index mt_index h1 h2) :
    DE X K Dc Xe (.Call (.Attribute a "index" p) [b] [] pos) (tBM K "list" (rIndex K) ta (tCons tb tNil)) (dIndex da db) := by
  obtain rfl := ha.hK
  refine ⟨rfl, pe ha.pe (pa_cons hb.pe pa_nil hst), ?_⟩
  intro Hb0 H0 F hF Hb H σ sd P Q m hd k
  refine ha.rd Hb0 H0 F hF Hb H σ sd _ _ m hd fun Hb1 H1 x dx g1 ex hd1 => ?_
  obtain ⟨bs, rfl, hd1⟩ := hd1
  simp only [Dt] at ex
  obtain ⟨l, vs, rfl, h1, h2⟩ := ex
  rw [dts_bls h2] at h1
  refine ⟨.inl ⟨rfl, _, SqL.of (g1.sub _ _ h1)⟩, ?_⟩
  refine hb.rd Hb0 H0 F hF Hb1 H1 σ sd _ _ (m.step g1) hd1 fun Hb2 H2 y dy g2 ey hd2 => ?_
  obtain ⟨b, j, rfl, hj, hi, hp⟩ := hd2
  simp only [Dt] at ey
  subst ey
  refine ⟨l, bs.map V.bl, .bl b, j, .bl b, rfl, rfl, SqL.of (g2.sub _ _ (g2.eb _ _ h1)), rfl, ?_, by rw [List.getElem?_map, hj]; rfl, by rw [eqV_bl]; simp, fun i z hij hz => ?_, k Hb2 H2 _ _ (g1.trans g2) dt_int hp⟩
  · rw [List.all_map]
    exact List.all_eq_true.mpr fun _ _ => rfl
  · rw [List.getElem?_map] at hz
    cases q : bs[i]? with
    | none => rw [q] at hz; cases hz
    | some c =>
      rw [q] at hz
      cases hz
      rw [eqV_bl]
      exact decide_eq_false (hi i c hij q)
/-! the def, by its body -/
theorem fnE_ofD {P : Program} {w : World} {mg : Str → Option Value} {base : Heap} {x y : Str} {st : Stmt} {f : Addr} {fd : FuncData} {N : List Str} {k : Nat} (F : Fun K x x st f fd) (gm : mg x = some (.ref f)) (Sc : FnScope N [y] (defScope st)) (hb : Binds K fd [y] [])
    (body : ∀ (cdv : Value) (A : Around) (outer : List Env) (s : Shared) (H : Hp) (Dc : Gr) (i : Nat) (ea : Addr) (oe : Obj), i < 6 → L2H.Hot1 A (ea, oe) → L2H.RoomH k (A.deeper (envOfC x (defScope st) s.heap.objs.size f cdv)) → Zc (.ref (addrOf mg (excS i))) none oe → (∃ us, oe.data = .fields us) →
      ∃ ts tsd, DSs (L2H.cxH (L2N.CX P w) P w K mg base N x (defScope st) f cdv A outer s H E0 (ea, oe)) K Dc E0 (defBody st) ts tsd ∧ ∀ Q : D → Prop, Q (errD i) → tsd (fnEnds Q noF) (startD N [.cls ea])) : FnE P w K mg base (k + 1) x y (TermS K mg) := by
  refine fnE_of F gm Sc hb fun cdv A outer s H Q p hot hr hS => ?_
  obtain ⟨i, Dc, Hb, hi, hz, hf, ok, hQ⟩ := hS
  obtain ⟨ea, oe⟩ := p
  obtain ⟨ts, tsd, hD, hT⟩ := body cdv A outer s H Dc i ea oe hi hot hr hz hf
  have hd : Dts K Dc Hb [.cls ea] [.ref ea] := dts_cons (by simp only [Dt]) dts_nil
  refine ⟨ts, hD.pe, hD.rd Hb H (fnEnds (fun d => d = errD i) noF) _ ⟨fun Hb2 H2 σ sd m h => (nomatch (show D.non = errD i from h)), fun Hb2 H2 v d g dv h => ?_, fun _ _ _ _ _ h => h.elim, fun _ _ _ _ _ h => h.elim, fun _ _ _ _ h => h.elim⟩ Hb H _ _ (start_ok ok hd) (hT _ rfl)⟩
  subst h
  exact hQ Hb2 H2 v g dv
theorem hotC_cxH {P : Program} {w : World} {mg : Str → Option Value} {base : Heap} {N : List Str} {qual : Str} {scope : Scope} {f : Addr} {cd : Value} {A : Around} {outer : List Env} {s : Shared} {H : Hp} {E : XK} {CX : CXT} {p : Addr × Obj} (hot : L2H.Hot1 A p) : L2H.HotC (L2H.cxH CX P w K mg base N qual scope f cd A outer s H E p) :=
  ⟨p, hot, List.mem_cons_self⟩
end
/-! ### told, on data -/
@[simp] def calmS : Slot → Slot
  | .dat d => .dat d
  | _ => .un
theorem M.calm {K : PySem.W.Frag} {Dc : Gr} {Hb0 H0 Hb H : Hp} {σ : L2.St} {sd : Sd} (m : M K Dc Hb0 H0 Hb H σ sd) : M K Dc Hb H Hb H σ (sd.map calmS) := by
  have dat : ∀ (i : Nat) (s : Slot), (sd.map calmS)[i]? = some s → s = .un ∧ i < sd.length ∨ ∃ d, s = .dat d ∧ sd[i]? = some (.dat d) := fun i s e => by
    rw [List.getElem?_map] at e
    cases q : sd[i]? with
    | none => rw [q] at e; cases e
    | some u =>
      rw [q] at e
      have e := Option.some.inj e
      subst e
      cases u with
      | dat d => exact .inr ⟨d, rfl, rfl⟩
      | _ => exact .inl ⟨rfl, (List.getElem?_eq_some_iff.mp q).1⟩
  refine ⟨m.g.ok, by rw [List.length_map]; exact m.len, fun i s e => ?_, fun i j as bs p _ e _ _ => ?_, fun i j as bs e _ => ?_⟩
  · rcases dat i s e with ⟨rfl, hl⟩ | ⟨d, rfl, q⟩
    · exact ⟨σ[i]'(by rw [m.len]; exact hl), List.getElem?_eq_getElem (by rw [m.len]; exact hl), trivial⟩
    · exact m.sl i _ q
  · rcases dat i _ e with ⟨z, _⟩ | ⟨d, z, _⟩ <;> cases z
  · rcases dat i _ e with ⟨z, _⟩ | ⟨d, z, _⟩ <;> cases z
def dTold (mg : Str → Option Value) (db : TEd) : TEd := fun sd P _ => db (sd.map calmS) P (fun c => ∃ i, i < 6 ∧ c = clsOf mg (excS i) ∧ P (errD i))
/-- the def that tells -/
structure ToldD (P : Program) (w : World) (K : PySem.W.Frag) (mg : Str → Option Value) (base : Heap) (k : Nat) (x : Str) : Prop where
  ex : ∃ (g : Addr) (fd : FuncData) (st : Stmt) (Ng : List Str) (a n z b : Str) (j : Nat) (q1 q2 q3 q4 q5 q6 q7 q8 q9 q10 : Pos), Fun K x x st g fd ∧ mg x = some (.ref g) ∧
    defBody st = [.Try [.Return (some (.Call (.Name a q1) [] [] q2)) q3] [.ExceptHandler (some (.Name "RoundError" q4)) (some n) [.Return (some (.Call (.Name z q5) [.Name n q6] [] q7)) q8] q9] [] [] q10] ∧
    FnScope Ng [a] (defScope st) ∧ Binds K fd [a] [] ∧ Ng[0]? = some a ∧ Ng[1]? = some n ∧ Vis (defScope st) a ∧ (defScope st).names.lookup n = some .local ∧ (defScope st).names.lookup ("RoundError" : Str) = some .globalImplicit ∧ (defScope st).names.lookup z = some .globalImplicit ∧
    FnE P w K mg base j z b (TermS K mg) ∧ j ≤ k + 1 ∧ Exc6 K mg ∧ (a == ("__debug__" : Str)) = false ∧ (a == ("__classdict__" : Str)) = false ∧ (n == ("__debug__" : Str)) = false ∧ (n == ("__classdict__" : Str)) = false ∧ (z == ("__debug__" : Str)) = false
/-- the table of the def at hand -/
structure LamT (X : Cx) (T : List (Addr × Str)) (c P : Addr) : Prop where
  tb : LamX.TabB X.base X.mg c P
  code : X.env.code = .ref c
  mem : (P, X.env.qual ++ "<lambda>") ∈ T
  one : ∀ p ∈ T, p.1 = P → p.2 = X.env.qual ++ "<lambda>"
theorem de_told {X : Cx} {K : PySem.W.Frag} {Dc : Gr} {Xe : XK} {k j : Nat} {x : Str} {params : Arguments} {body : Expr} {scope : Scope} {t : XK → TE} {db : TEd} {p lpos pos : Pos} (F : ToldD X.prog X.w K X.mg X.base j x) (hj : j ≤ k) {T : List (Addr × Str)} {c PT : Addr} (LT : LamT X T c PT) (hT : Dc.tabs = T) (hr : Room (k + 2) X.A)
    (hL : LamX.lamSB X.env.scope scope = true) (hbody : ∀ (A : Around) (outer : List Env) (s : Shared) (H : Hp) (E : XK) (f c' : Addr), Room k (A.deeper (LamX.lamEnv X scope s.heap.objs.size f c')) → DE (lamN X A outer s H E scope f c') K Dc E body (t E) db)
    (hdef : defaultsOf params X.env = ([], []) := by rfl) (hbind : ∀ (q : Str) (cl : List (Str × Addr)) (pm cv ctv : Value), bindArgs (PySem.W.kla_fn "<lambda>" q params body scope cl pm cv ctv) ⟨[], []⟩ = pure [] := by intros; rfl) (hg : Gl X x := by rfl) (hdb : (x == ("__debug__" : Str)) = false := by decide) (hK : X.K = K := by rfl) :
    DE X K Dc Xe (.Call (.Name x p) [.Lambda params body scope lpos] [] pos) (tTold K (addrOf X.mg "RoundError") (TermS K X.mg) T PT (X.env.qual ++ "<lambda>") t) (dTold X.mg db) := by
  obtain rfl := hK
  obtain ⟨g, fd, st, Ng, a, n, z, b, j', q1, q2, q3, q4, q5, q6, q7, q8, q9, q10, G, hm, hbs, Sg, hb, hN0, hN1, hva, hln, hgy, hgz, FE, hjk, E6, d1, d2, d3, d4, d5⟩ := F.ex
  obtain ⟨TB, hcode, hmT, hu⟩ := LT
  subst hT
  refine ⟨rfl, pe_told G hm hbs Sg hb hN0 hN1 hva hln hgy hgz E6.r FE (by omega) TB hcode hmT hu hr (LamX.lamS_by hL) hdef hbind (fun A outer s H E f c' hr' => (hbody A outer s H E f c' hr').pe) hg hdb d1 d2 d3 d4 (by decide) d5, ?_⟩
  intro Hb0 H0 F hF Hb H σ sd P Q m hd kk
  refine ⟨m.g.tb.ta, fun H1 gr T1 => ?_⟩
  have g1 : Good Dc Hb H Hb H1 := good_grow m.g.ok gr T1
  have rd := (hbody (X.A.deeper X.env) [] X.s_0 X.H_0 (xTold X.K (addrOf X.mg "RoundError") (TermS X.K X.mg) Q) 0 0 ((hr.deeper _).deeper _)).rd
  refine rd Hb H1 _ (fun Hb2 H2 cl g2 hc => ?_) Hb H1 σ _ P Q (m.step g1).calm hd fun Hb2 H2 v d g2 dv hp => kk Hb2 H2 v d (g1.trans g2) dv hp
  obtain ⟨i, hi, rfl, hp⟩ := hc
  rw [E6.cls hi]
  refine ⟨E6.x i hi, fun ea oe hz hf => ⟨i, Dc, Hb2, hi, hz.zc, hf, g2.ok, fun Hb3 H3 v g3 dv => kk Hb3 H3 v _ ((g1.trans g2).trans g3) dv hp⟩⟩
end RW

/-! the law's own def: for dice in ..: body; return True -/
set_option Elab.async false
set_option linter.all false
set_option maxRecDepth 100000
set_option maxHeartbeats 2000000
namespace RW
open PySem L2
open Evl (Ex fresh_back)
def dcOf (xs : List V) : Addr → Prop := fun a => V.ref a ∈ xs
def isDiceL (d : D) : Prop := ∃ zs : List (Int × Int), d = .lst (zs.map fun z => D.lst [.int z.1, .int z.2])
/-- the ends of a turn of the law's loop -/
abbrev lawEnds (n : Nat) : DEnds := ⟨fun sd => sd.length = n, fun _ => False, fun _ => False, fun sd => sd.length = n, noF⟩
abbrev lawSd (n i : Nat) : Sd := (List.replicate n Slot.un).set i (.dat .dice)
structure DiceAt (H : Hp) (p : Addr) (xs : List V) : Prop where
  l : H p = some (.lst xs)
  d : ∀ x ∈ xs, ∃ r a b, x = .ref r ∧ H r = some (.lst [.int a, .int b])
theorem DiceAt.np {H : Hp} {p : Addr} {xs : List V} (h : DiceAt H p xs) : ¬ dcOf xs p := fun z => by
  obtain ⟨r, a, b, e, q⟩ := h.d _ z
  cases e
  rw [h.l] at q
  cases q
  have z : V.ref p ∈ [V.int a, V.int b] := z
  simp at z
theorem law_for {K : PySem.W.Frag} {T : List (Addr × Str)} {Xe : XK} {te : TE} {tb : TS} {db : TSd} {i n : Nat} {E : Ends} {σ : St} {H : Hp} (hlen : σ.length = n) (hb : ∀ Dc : Gr, Dc.tabs = T → RS K Dc Xe tb db)
    (hbody : db (lawEnds n) (lawSd n i)) (hc : ∀ Q : VK, (∀ x H1, (∃ p xs, x = .ref p ∧ DiceAt H1 p xs ∧ LamX.Tabs T H1) → Q x H1) → te σ H Q)
    (hn : ∀ σ H, E.nx σ H) : tFor (iList K te) (gName i) tb E σ H := by
  refine hc _ fun x H1 ⟨p, xs, e, hd, ht⟩ => ?_
  subst e
  refine ⟨p, rfl, ⟨xs, SqL.of hd.l⟩, fun j m σ' H' => σ'.length = n ∧ (DiceAt H' p xs ∧ LamX.Tabs T H') ∧ j ≤ xs.length ∧ m = xs.length - j, ⟨xs.length, hlen, ⟨hd, ht⟩, Nat.zero_le _, rfl⟩, ?_⟩
  rintro j m σ' H' ⟨hl, ⟨hd', ht'⟩, hj, rfl⟩
  have sq : SqL K H' p xs := SqL.of hd'.l
  by_cases hlt : j < xs.length
  · refine .inr ⟨⟨xs, xs[j], sq, by simp [hlt]⟩, fun σ2 H2 => σ2.length = n ∧ DiceAt H2 p xs ∧ LamX.Tabs T H2, fun σ2 H2 ⟨q1, q2⟩ => ⟨xs.length - (j + 1), by omega, q1, q2, hlt, rfl⟩, fun x H2 y => ?_⟩
    obtain ⟨e1, e2⟩ := y
    subst e1
    have ex := e2 xs sq
    rw [List.getElem?_eq_getElem hlt] at ex
    cases ex
    have hx : xs[j] ∈ xs := List.getElem_mem _
    have hdc : ∀ a, dcOf xs a → ∃ i j, H2 a = some (.lst [.int i, .int j]) := fun a z => by
      obtain ⟨r, a', b', e, q⟩ := hd'.d _ z
      cases e
      exact ⟨a', b', q⟩
    have ok : Ok ⟨dcOf xs, T⟩ (fun _ => none) H2 := ⟨Ex.refl _, fun _ _ h _ _ => h, fun a o h => (nomatch h), fun a o h => (nomatch h), hdc, fun a z => rfl, fun _ ps h => ⟨ps, h⟩, ht', fun _ _ h => nomatch h⟩
    have m0 : M K ⟨dcOf xs, T⟩ (fun _ => none) H2 (fun _ => none) H2 σ' (List.replicate n Slot.un) := by
      have un : ∀ (k : Nat) (s : Slot), (List.replicate n Slot.un)[k]? = some s → s = .un ∧ k < n := fun k s e => by
        obtain ⟨h1, h2⟩ := List.getElem?_eq_some_iff.mp e
        rw [List.getElem_replicate] at h2
        rw [List.length_replicate] at h1
        exact ⟨h2.symm, h1⟩
      refine ⟨ok, by rw [hl, List.length_replicate], fun k s e => ?_, fun k l as bs q _ e1 _ _ _ => ?_, fun k l as bs e1 _ => ?_⟩
      · obtain ⟨rfl, hk⟩ := un k s e
        exact ⟨σ'[k], by simp [show k < σ'.length by omega], trivial⟩
      · obtain ⟨h, _⟩ := un k _ e1
        cases h
      · obtain ⟨h, _⟩ := un k _ e1
        cases h
    have hdt : Dt K ⟨dcOf xs, T⟩ (fun _ => none) .dice xs[j] := by
      obtain ⟨r, a, b, e, q⟩ := hd'.d _ hx
      simp only [Dt]
      exact ⟨r, e, by show V.ref r ∈ xs; rw [← e]; exact hx⟩
    have fin : ∀ Hb' H' σ' (sd : Sd), M K ⟨dcOf xs, T⟩ (fun _ => none) H2 Hb' H' σ' sd → sd.length = n → σ'.length = n ∧ DiceAt H' p xs ∧ LamX.Tabs T H' := fun Hb' H' σ' sd mm hs =>
      ⟨by rw [mm.len, hs], ⟨mm.g.eh p _ hd'.l hd'.np (fun _ h => nomatch h), fun x hx => by
        obtain ⟨r, a, b, e, q⟩ := hd'.d _ hx
        subst e
        obtain ⟨i', j', q'⟩ := mm.g.dc r hx
        exact ⟨r, i', j', rfl, q'⟩⟩, mm.g.tb.ta⟩
    exact hb ⟨dcOf xs, T⟩ rfl (fun _ => none) H2 (lawEnds n) _ ⟨fun Hb' H' σ' sd mm hs => fin Hb' H' σ' sd mm hs, fun _ _ _ _ _ _ h => h.elim, fun _ _ _ _ _ h => h.elim, fun Hb' H' σ' sd mm hs => fin Hb' H' σ' sd mm hs, fun _ _ _ _ h => h.elim⟩ _ _ _ _ (m0.set hdt) hbody
  · have e : j = xs.length := by omega
    subst e
    exact .inl ⟨⟨xs, sq, Nat.le_refl _⟩, hn _ _⟩
/-- the law's body as a whole -/
structure LW (X : Cx) (K : PySem.W.Frag) (T : List (Addr × Str)) (Xe : XK) (sts : List Stmt) (N : List Str) (i : Nat) (ts : TS) (dd : TEd) (db : TSd) : Prop where
  pe : PSs X sts ts
  rd : ∀ (H : Hp) (a : Addr) (ns : List Int) (Q : VK), SqL K H a (ns.map V.int) → LamX.Tabs T H → dd (startD N [.scr ns]) isDiceL noF → db (lawEnds N.length) (lawSd N.length i) → 0 < N.length → (∀ H', Q (.bl true) H') →
    ts { nx := fun _ H' => Q .non H', rt := Q } (L2.start N [.ref a]) H
/-- a heap without its tables -/
def noTb (H : Hp) : Hp := fun a => match H a with
  | some (.tbl _) => none
  | o => o
theorem noTb_sub {H : Hp} : Ex (noTb H) H := fun a o h => by
  unfold noTb at h
  split at h
  · cases h
  · exact h
theorem noTb_keep {H : Hp} {a : Addr} {o : HO} (h : H a = some o) (ho : NTb o) : noTb H a = some o := by
  unfold noTb
  split
  · rename_i ps e
    rw [h] at e
    exact absurd (Option.some.inj e) (ho ps)
  · exact h
theorem noTb_nt {H : Hp} (a : Addr) (ps : Array Value) : noTb H a ≠ some (.tbl ps) := fun h => by
  unfold noTb at h
  split at h
  · cases h
  · rename_i hh
    exact hh ps h
theorem noTb_l {K : PySem.W.Frag} {H : Hp} {a : Addr} {xs : List V} (h : SqL K H a xs) : SqL K (noTb H) a xs := by
  unfold SqL Rd at h ⊢
  rcases h with (h | ⟨o, h⟩) | h
  · exact .inl (.inl (noTb_keep h (fun _ h => nomatch h)))
  · exact .inl (.inr ⟨o, noTb_keep h (fun _ h => nomatch h)⟩)
  · exact .inr h
theorem dice_of {K : PySem.W.Frag} {Dc : Gr} {Hb H : Hp} : ∀ {zs : List (Int × Int)} {xs : List V}, Ex Hb H → Dts K Dc Hb (zs.map fun z => D.lst [.int z.1, .int z.2]) xs → ∀ x ∈ xs, ∃ r a b, x = .ref r ∧ H r = some (.lst [.int a, .int b])
  | [], xs, _, h => by rw [show xs = [] from h.nil]; intro x hx; cases hx
  | z :: zs, xs, ex, h => by
    obtain ⟨v, r, rfl, h1, h2⟩ := h.cons
    intro x hx
    rcases List.mem_cons.mp hx with rfl | hx
    · simp only [Dt, Dts] at h1
      obtain ⟨p, ys, rfl, hp, v1, r1, rfl, rfl, v2, r2, rfl, rfl, rfl⟩ := h1
      exact ⟨p, _, _, rfl, ex _ _ hp⟩
    · exact dice_of ex h2 x hx
theorem lw_of {X : Cx} {K : PySem.W.Frag} {T : List (Addr × Str)} {Xe : XK} {iter : Expr} {sts : List Stmt} {x : Str} {i k : Nat} {te : TE} {dd : TEd} {tb : TS} {db : TSd} {p pos pos2 pos3 : Pos} (cx : Ctx X Xe) (hN : X.N.Nodup) (hcall : ∀ Dc : Gr, DE X K Dc Xe iter te dd) (hbody : ∀ Dc : Gr, Dc.tabs = T → DSs X K Dc Xe sts tb db)
    (hi : X.N[i]? = some x := by rfl) (hx : Loc X.env.scope x := by first | exact Or.inl rfl | exact Or.inr rfl) (hf : X.fn x = true ∨ X.env.scope.names.lookup x = some .local := by first | exact .inl rfl | exact .inr rfl | assumption) (hs : ∀ x, foldedSetIterable iter X.env x = pure x := by intro _; rfl) :
    LW X K T Xe [.For (.Name x p) iter sts [] pos, .Return (some (.Constant (.bool true) k pos2)) pos3] X.N i (tSeq (tFor (iList K te) (gName i) tb) (tRet (tC (.bl true)))) dd db := by
  obtain rfl := (hcall ⟨fun _ => False, T⟩).hK
  refine ⟨pss_cons (ps_for cx.own cx.calm (pi_list (hcall ⟨fun _ => False, T⟩).pe) (pg_name hN hi hx hf) (hbody ⟨fun _ => False, T⟩ rfl).pe hs) (pss_one (ps_ret pe_bl)), fun H a ns Q hS hT hdd hdb hN0 hQ => ?_⟩
  have ok : Ok ⟨fun _ => False, T⟩ (noTb H) H := ⟨Ex.refl _, fun _ _ h _ _ => h, noTb_sub, fun a o h => .inl ⟨o, h⟩, fun _ z => z.elim, fun _ z => z.elim, fun _ ps h => ⟨ps, h⟩, hT, noTb_nt⟩
  have hd : Dts X.K ⟨fun _ => False, T⟩ (noTb H) [.scr ns] [.ref a] := dts_cons (by simp only [Dt]; exact ⟨a, rfl, noTb_l hS⟩) dts_nil
  have m0 := start_ok (N := X.N) ok hd
  refine law_for (T := T) (n := X.N.length) ?_ (fun Dc e => (hbody Dc e).rd) hdb (fun Q' hq => ?_) (fun σ H => hQ H)
  · unfold L2.start
    simp
    omega
  · refine (hcall ⟨fun _ => False, T⟩).rd (noTb H) H noF (fun _ _ _ _ h => h.elim) (noTb H) H _ _ isDiceL Q' m0 hdd fun Hb' H' v d g dv hp => hq _ _ ?_
    obtain ⟨zs, rfl⟩ := hp
    simp only [Dt] at dv
    obtain ⟨p, xs, rfl, h1, h2⟩ := dv
    exact ⟨p, xs, rfl, ⟨g.sub _ _ h1, dice_of g.sub h2⟩, g.tb.ta⟩
def spLaw (K : PySem.W.Frag) (T : List (Addr × Str)) : Sp := fun vs H Q _ => ∃ (a : Addr) (ns : List Int), vs = [.ref a] ∧ SqL K H a (ns.map V.int) ∧ ns.length ≤ 63 ∧ LamX.Tabs T H ∧ ∀ H', Q (.bl true) H'
/-- the law's def -/
structure LwD (P : Program) (w : World) (K : PySem.W.Frag) (mg : Str → Option Value) (base : Heap) (k : Nat) (T : List (Addr × Str)) (f : Addr) (fd : FuncData) : Prop where
  ok : FnOk P w K mg base (L2N.CX P w) k f fd ["script"] (spLaw K T)
theorem lwD_of {P : Program} {w : World} {K : PySem.W.Frag} {mg : Str → Option Value} {base : Heap} {T : List (Addr × Str)} {st : Stmt} {f : Addr} {fd : FuncData} {N : List Str} {k i : Nat} (F : Fun K "law" "law" st f fd) (S : FnScope N ["script"] (defScope st)) (hN0 : 0 < N.length)
    (body : ∀ (cdv : Value) (A : Around) (outer : List Env) (s : Shared) (H : Hp) (E : XK), fd.code = cdv → Room k (A.deeper (PyProof.Rows.envOfC "law" (defScope st) s.heap.objs.size f cdv)) →
      ∃ ts dd db, LW (cxOf (L2N.CX P w) P w K mg base N "law" (defScope st) f cdv A outer s H E) K T E (defBody st) N i ts dd db ∧ (∀ ns : List Int, ns.length ≤ 63 → dd (startD N [.scr ns]) isDiceL noF) ∧ db (lawEnds N.length) (lawSd N.length i)) :
    LwD P w K mg base (k + 1) T f fd := by
  refine ⟨okXC F S (fun vs H Q E h => ?_) (fun cdv A outer s H vs Q E hcd hr h => ?_)⟩
  · obtain ⟨a, ns, rfl, _⟩ := h
    rfl
  · obtain ⟨a, ns, rfl, hS, hl, hT, hQ⟩ := h
    obtain ⟨ts, dd, db, L, h1, h2⟩ := body cdv A outer s H E hcd hr
    exact ⟨ts, L.pe, L.rd H a ns Q hS hT (h1 ns hl) h2 hN0 hQ⟩
end RW

/-! the head: the six exception classes, the tables of code objects -/
set_option Elab.async false
set_option linter.all false
set_option maxRecDepth 100000
set_option maxHeartbeats 2000000
namespace RW
open PySem L2
theorem addr_of {mg : Str → Option Value} {x : Str} {a : Addr} (h : mg x = some (.ref a)) : addrOf mg x = a := by unfold addrOf; rw [h]
/-! ### the classes -/
def excCB (K : PySem.W.Frag) (D : Addr) : Bool :=
  decide (PySem.W.findIn K (.ref D) "__getattribute__" = some (some (.builtin "BaseException.__getattribute__"))) && (decide (PySem.W.findIn K (.ref D) "__getattr__" = some none) && (decide (PySem.W.subIn K (.ref D) (.type "BaseException") = some true) &&
  (PySem.W.hasDictIn K D && (decide (PySem.W.findIn K (.ref D) "__class__" = some (some (.builtin "object.__class__"))) && (decide (PySem.W.specialIn K (.builtin "object.__class__") "__get__" = some (some (.builtin "getset_descriptor.__get__"))) &&
  (decide (PySem.W.takesIn K (.builtin "object.__class__") = some true) && decide (PySem.W.mroIn K D (.type "object") = some true)))))))
theorem excC_of {K : PySem.W.Frag} {D : Addr} (h : excCB K D = true) : ExcC K D := by
  unfold excCB at h
  simp only [Bool.and_eq_true, decide_eq_true_eq] at h
  obtain ⟨h1, h2, h3, h4, h5, h6, h7, h8⟩ := h
  exact ⟨h1, h2, h3, h4, h5, h6, h7, h8⟩
def e6At (K : PySem.W.Frag) (i : Nat) : Bool :=
  (He.Fa.glo (excS i)).ok K && (excCB K (He.ga K (excS i)) && (decide (PySem.W.exmOne K (.ref (He.ga K (excS i))) (.ref (He.ga K "RoundError")) = some true) && (decide (PySem.W.kitOne K (.ref (He.ga K (excS i))) (.type "ValueError") = some true) &&
  (List.range 6).all fun j => decide (PySem.W.kitOne K (.ref (He.ga K (excS i))) (.ref (He.ga K (excS j))) = some (decide (i = j))))))
def e6B (K : PySem.W.Frag) : Bool := (He.Fa.glo "RoundError").ok K && (List.range 6).all fun i => e6At K i
theorem e6_of {K : PySem.W.Frag} {h : Heap} {mg : Str → Option Value} (X : K.In h) (G : h.Ns mainGlobals mg) (e : e6B K = true) : Exc6 K mg := by
  unfold e6B at e
  obtain ⟨e1, e2⟩ := Bool.and_eq_true_iff.mp e
  have r := He.glo_ok X G e1
  have at_ : ∀ i, i < 6 → mg (excS i) = some (.ref (He.ga K (excS i))) ∧ excCB K (He.ga K (excS i)) = true ∧ PySem.W.exmOne K (.ref (He.ga K (excS i))) (.ref (He.ga K "RoundError")) = some true ∧ PySem.W.kitOne K (.ref (He.ga K (excS i))) (.type "ValueError") = some true ∧
      ∀ j, j < 6 → PySem.W.kitOne K (.ref (He.ga K (excS i))) (.ref (He.ga K (excS j))) = some (decide (i = j)) := fun i hi => by
    have z := List.all_eq_true.mp e2 i (List.mem_range.mpr hi)
    unfold e6At at z
    obtain ⟨z1, z⟩ := Bool.and_eq_true_iff.mp z
    obtain ⟨z2, z⟩ := Bool.and_eq_true_iff.mp z
    obtain ⟨z3, z⟩ := Bool.and_eq_true_iff.mp z
    obtain ⟨z4, z⟩ := Bool.and_eq_true_iff.mp z
    exact ⟨He.glo_ok X G z1, z2, of_decide_eq_true z3, of_decide_eq_true z4, fun j hj => of_decide_eq_true (List.all_eq_true.mp z j (List.mem_range.mpr hj))⟩
  have ad : ∀ i, i < 6 → addrOf mg (excS i) = He.ga K (excS i) := fun i hi => addr_of (at_ i hi).1
  have ar : addrOf mg "RoundError" = He.ga K "RoundError" := addr_of r
  refine ⟨fun i hi => ?_, ?_, fun i hi => ?_, fun i hi => ?_, fun i hi => ?_, fun i j hi hj => ?_⟩
  · rw [ad i hi]; exact (at_ i hi).1
  · rw [ar]; exact r
  · rw [ad i hi]; exact excC_of (at_ i hi).2.1
  · rw [ad i hi, ar]; exact (at_ i hi).2.2.1
  · rw [ad i hi]; exact (at_ i hi).2.2.2.1
  · rw [ad i hi, ad j hj]; exact (at_ i hi).2.2.2.2 j hj
/-! ### the tables -/
def isTab : Obj → Bool
  | ⟨.none, none, .fields _, _⟩ => true
  | _ => false
/-- what the module's names reach, less the tables -/
def asN (g : Addr → Option Obj) (n : Nat) : List Addr := (He.asD g n).filter fun a => match g a with
  | some o => !isTab o
  | none => true
def noTab : Option Obj → Bool
  | some ⟨.none, none, .fields us, sl⟩ => us.size == 0 && sl.size == 0
  | _ => false
theorem noTab_of {o : Option Obj} (h : noTab o = true) : o = some (PySem.W.tabObj #[]) := by
  unfold noTab at h
  split at h
  · rename_i us sl
    obtain ⟨h1, h2⟩ := Bool.and_eq_true_iff.mp h
    have e1 : us = #[] := Array.size_eq_zero_iff.mp (by simpa using h1)
    have e2 : sl = #[] := Array.size_eq_zero_iff.mp (by simpa using h2)
    subst e1 e2
    rfl
  · cases h
def tabX (g : Addr → Option Obj) (K : PySem.W.Frag) (x : Str) : Bool := match PySem.W.tabIn K x with
  | some (c, P) => PySem.W.codeHdIn K c P && (decide (K.lookup P |>.isNone) && noTab (g P))
  | none => false
/-- the table of the def x, as it stands ahead of the law -/
structure TabAt (K : PySem.W.Frag) (h : Heap) (x : Str) (c P : Addr) : Prop where
  i : PySem.W.tabIn K x = some (c, P)
  c : PySem.W.codeHdIn K c P = true
  k : K.lookup P = none
  g : h.get? P = some (PySem.W.tabObj #[])
theorem tabX_of {K : PySem.W.Frag} {h : Heap} {x : Str} (e : tabX h.get? K x = true) : ∃ c P, TabAt K h x c P := by
  unfold tabX at e
  split at e
  · rename_i c P q
    obtain ⟨e1, e⟩ := Bool.and_eq_true_iff.mp e
    obtain ⟨e2, e3⟩ := Bool.and_eq_true_iff.mp e
    exact ⟨c, P, q, e1, Option.isNone_iff_eq_none.mp (of_decide_eq_true e2), noTab_of e3⟩
  · cases e
theorem TabAt.keeps {K : PySem.W.Frag} {h h' : Heap} {x : Str} {c P : Addr} (t : TabAt K h x c P) (k : ∀ b o, h.get? b = some o → h'.get? b = some o) : TabAt K h' x c P := ⟨t.i, t.c, t.k, k _ _ t.g⟩
theorem TabAt.code {K : PySem.W.Frag} {h : Heap} {x : Str} {c P f : Addr} {oc : Value} {od : Option Addr} {fd : FuncData} {osl : Array (Option Value)} (t : TabAt K h x c P) (hx : PySem.W.nsIn K mainGlobals x = some (some (.ref f))) (lk : K.lookup f = some ⟨oc, od, .func fd, osl⟩) : fd.code = .ref c := by
  have e := t.i
  unfold PySem.W.tabIn at e
  rw [hx] at e
  simp only [lk] at e
  split at e
  · rename_i c2 hc
    split at e
    · split at e
      · cases e
        exact hc
      · cases e
    · cases e
  · cases e
end RW

set_option Elab.async false
set_option linter.all false
set_option maxRecDepth 100000
set_option maxHeartbeats 2000000
namespace RW
open PySem L2
section
variable {env : Env} {rest : List Expr} {pos : Pos}
theorem star_T {es : List Expr} {x : Nat} : starEach (.Tuple es x pos :: rest) env = (false, eval (.Tuple es x pos) env) :: starEach rest env := rfl
theorem star_C {c : Const} {x : Nat} : starEach (.Constant c x pos :: rest) env = (false, eval (.Constant c x pos) env) :: starEach rest env := rfl
theorem star_N {x : Str} : starEach (.Name x pos :: rest) env = (false, eval (.Name x pos) env) :: starEach rest env := rfl
theorem star_Call {f : Expr} {as : List Expr} {ks} : starEach (.Call f as ks pos :: rest) env = (false, eval (.Call f as ks pos) env) :: starEach rest env := rfl
theorem star_Sub {f i : Expr} : starEach (.Subscript f i pos :: rest) env = (false, eval (.Subscript f i pos) env) :: starEach rest env := rfl
theorem star_Attr {f : Expr} {x : Str} : starEach (.Attribute f x pos :: rest) env = (false, eval (.Attribute f x pos) env) :: starEach rest env := rfl
theorem star_Bin {a b : Expr} {o} : starEach (.BinOp a o b pos :: rest) env = (false, eval (.BinOp a o b pos) env) :: starEach rest env := rfl
theorem star_Un {a : Expr} {o} : starEach (.UnaryOp o a pos :: rest) env = (false, eval (.UnaryOp o a pos) env) :: starEach rest env := rfl
theorem star_Bool {as : List Expr} {o} : starEach (.BoolOp o as pos :: rest) env = (false, eval (.BoolOp o as pos) env) :: starEach rest env := rfl
theorem star_Cmp {a : Expr} {os} {bs : List Expr} : starEach (.Compare a os bs pos :: rest) env = (false, eval (.Compare a os bs pos) env) :: starEach rest env := rfl
theorem star_If {a b c : Expr} : starEach (.IfExp a b c pos :: rest) env = (false, eval (.IfExp a b c pos) env) :: starEach rest env := rfl
theorem star_L {es : List Expr} : starEach (.List es pos :: rest) env = (false, eval (.List es pos) env) :: starEach rest env := rfl
theorem star_LC {e : Expr} {gs} {sc} : starEach (.ListComp e gs sc pos :: rest) env = (false, eval (.ListComp e gs sc pos) env) :: starEach rest env := rfl
end
end RW

set_option Elab.async false
set_option linter.all false
namespace RW
open PySem
def topS (i : Nat) : Stmt := PySem.Challenge.pw_roundwaves_k14_errors_apart.main.body.getD i (.Pass ⟨0, 0, 0, 0⟩)
end RW

set_option Elab.async false
set_option linter.all false
set_option maxRecDepth 100000
set_option maxHeartbeats 0
namespace RWH
open PySem PySem.Spec PyProof.Rows L2
open RW (topS)
def loose0 : List PySem.Str := ["_wall", "RoundError", "InvalidChain", "InvalidNumber", "InvalidStep", "InvalidText", "TooMany", "NothingToUndo", "divisor", "lowest", "plus", "minus", "times", "over", "is_less", "floor_of", "between", "is_whole", "is_fraction", "in_sequence", "MOST_STEPS", "TIES", "is_step", "is_chain", "need_chain", "need_two", "nearest", "step_value", "value_of", "value"]
def loose1 : List PySem.Str := ["MOST_PLACES", "Wave", "line_wave", "tidied", "edges_in", "behind_of", "comes_by", "least_wave", "rounded", "stepped", "wave_of", "is_line", "form_of", "form", "Desk", "without", "joined", "left_out", "fraction_text", "written", "integer_of", "fraction_of", "step_of", "parse_chain", "_law_cell", "_law_drawn", "_law_roll", "_law_rounds", "_law_met", "_law_alone"]
def loose : List PySem.Str := loose0 ++ loose1
def fa0 : List He.Fa := [.free "abs", .free "len", .free "int", .free "isinstance", .free "tuple", .free "bool", .free "str", .free "all", .free "any", .free "range", .free "max", .free "min"]
def fa1 : List He.Fa := [.free "enumerate", .free "list", .free "sum", .free "ValueError", .int "MOST_STEPS" 4, .int "MOST_PLACES" 1000, .glo "divisor", .glo "lowest", .glo "plus", .glo "minus", .glo "times", .glo "over"]
def fa2 : List He.Fa := [.glo "is_less", .glo "floor_of", .glo "between", .glo "is_whole", .glo "is_fraction", .glo "in_sequence", .glo "is_step", .glo "is_chain", .glo "need_chain", .glo "need_two", .glo "nearest", .glo "step_value"]
def fa3 : List He.Fa := [.glo "value_of", .glo "value", .glo "line_wave", .glo "tidied", .glo "edges_in", .glo "behind_of", .glo "comes_by", .glo "least_wave", .glo "rounded", .glo "stepped", .glo "wave_of", .glo "is_line"]
def fa4 : List He.Fa := [.glo "form_of", .glo "form", .glo "without", .glo "joined", .glo "left_out", .glo "fraction_text", .glo "written", .glo "integer_of", .glo "fraction_of", .glo "step_of", .glo "parse_chain", .glo "_law_cell"]
def fa5 : List He.Fa := [.glo "_law_drawn", .glo "_law_roll", .glo "_law_rounds", .glo "_law_met", .glo "_law_alone", .glo "law", .exc "RoundError", .exc "InvalidChain", .exc "InvalidNumber", .exc "InvalidStep", .exc "InvalidText", .exc "TooMany"]
def fa6 : List He.Fa := [.exc "NothingToUndo", .glo "RoundError", .glo "InvalidChain", .glo "InvalidNumber", .glo "InvalidStep", .glo "InvalidText", .glo "TooMany", .glo "NothingToUndo", .glo "Wave", .glo "Desk", .cls "Wave", .meth "Wave" "drift"]
def fa7 : List He.Fa := [.meth "Wave" "spread", .meth "Wave" "is_still", .mkr "Wave", .cls "Desk", .meth "Desk" "chain", .meth "Desk" "change", .meth "Desk" "put", .meth "Desk" "take", .meth "Desk" "undo", .meth "Desk" "redo", .meth "Desk" "__len__", .meth "Desk" "__eq__"]
def fa8 : List He.Fa := [.mkr "Desk", .noat "Wave" "slope", .noat "Wave" "period", .noat "Wave" "gain", .noat "Wave" "places", .noat "Desk" "rows", .noat "Desk" "undone"]
def fa : List He.Fa := fa0 ++ fa1 ++ fa2 ++ fa3 ++ fa4 ++ fa5 ++ fa6 ++ fa7 ++ fa8
def fn0 : List He.DefD := [⟨("divisor", none), "divisor", "divisor", defArgs (topS 10), defBody (topS 10), defScope (topS 10), [], []⟩, ⟨("lowest", none), "lowest", "lowest", defArgs (topS 11), defBody (topS 11), defScope (topS 11), [], []⟩, ⟨("plus", none), "plus", "plus", defArgs (topS 12), defBody (topS 12), defScope (topS 12), [], []⟩, ⟨("minus", none), "minus", "minus", defArgs (topS 13), defBody (topS 13), defScope (topS 13), [], []⟩, ⟨("times", none), "times", "times", defArgs (topS 14), defBody (topS 14), defScope (topS 14), [], []⟩, ⟨("over", none), "over", "over", defArgs (topS 15), defBody (topS 15), defScope (topS 15), [], []⟩]
def fn1 : List He.DefD := [⟨("is_less", none), "is_less", "is_less", defArgs (topS 16), defBody (topS 16), defScope (topS 16), [], []⟩, ⟨("floor_of", none), "floor_of", "floor_of", defArgs (topS 17), defBody (topS 17), defScope (topS 17), [], []⟩, ⟨("between", none), "between", "between", defArgs (topS 18), defBody (topS 18), defScope (topS 18), [], []⟩, ⟨("is_whole", none), "is_whole", "is_whole", defArgs (topS 19), defBody (topS 19), defScope (topS 19), [], []⟩, ⟨("is_fraction", none), "is_fraction", "is_fraction", defArgs (topS 20), defBody (topS 20), defScope (topS 20), [], []⟩, ⟨("in_sequence", none), "in_sequence", "in_sequence", defArgs (topS 21), defBody (topS 21), defScope (topS 21), [], []⟩]
def fn2 : List He.DefD := [⟨("is_step", none), "is_step", "is_step", defArgs (topS 25), defBody (topS 25), defScope (topS 25), [], []⟩, ⟨("is_chain", none), "is_chain", "is_chain", defArgs (topS 26), defBody (topS 26), defScope (topS 26), [], []⟩, ⟨("need_chain", none), "need_chain", "need_chain", defArgs (topS 27), defBody (topS 27), defScope (topS 27), [], []⟩, ⟨("need_two", none), "need_two", "need_two", defArgs (topS 28), defBody (topS 28), defScope (topS 28), [], []⟩, ⟨("nearest", none), "nearest", "nearest", defArgs (topS 29), defBody (topS 29), defScope (topS 29), [], []⟩, ⟨("step_value", none), "step_value", "step_value", defArgs (topS 30), defBody (topS 30), defScope (topS 30), [], []⟩]
def fn3 : List He.DefD := [⟨("value_of", none), "value_of", "value_of", defArgs (topS 31), defBody (topS 31), defScope (topS 31), [], []⟩, ⟨("value", none), "value", "value", defArgs (topS 32), defBody (topS 32), defScope (topS 32), [], []⟩, ⟨("Wave", some "__init__"), "__init__", "Wave.__init__", defArgs (inClass (topS 35) 0), defBody (inClass (topS 35) 0), defScope (inClass (topS 35) 0), [], []⟩, ⟨("Wave", some "drift"), "drift", "Wave.drift", defArgs (inClass (topS 35) 1), defBody (inClass (topS 35) 1), defScope (inClass (topS 35) 1), [], []⟩, ⟨("Wave", some "spread"), "spread", "Wave.spread", defArgs (inClass (topS 35) 2), defBody (inClass (topS 35) 2), defScope (inClass (topS 35) 2), [], []⟩, ⟨("Wave", some "is_still"), "is_still", "Wave.is_still", defArgs (inClass (topS 35) 4), defBody (inClass (topS 35) 4), defScope (inClass (topS 35) 4), [], []⟩]
def fn4 : List He.DefD := [⟨("line_wave", none), "line_wave", "line_wave", defArgs (topS 36), defBody (topS 36), defScope (topS 36), [], []⟩, ⟨("tidied", none), "tidied", "tidied", defArgs (topS 37), defBody (topS 37), defScope (topS 37), [], []⟩, ⟨("edges_in", none), "edges_in", "edges_in", defArgs (topS 38), defBody (topS 38), defScope (topS 38), [], []⟩, ⟨("behind_of", none), "behind_of", "behind_of", defArgs (topS 39), defBody (topS 39), defScope (topS 39), [], []⟩, ⟨("comes_by", none), "comes_by", "comes_by", defArgs (topS 40), defBody (topS 40), defScope (topS 40), [], []⟩, ⟨("least_wave", none), "least_wave", "least_wave", defArgs (topS 41), defBody (topS 41), defScope (topS 41), [], []⟩]
def fn5 : List He.DefD := [⟨("rounded", none), "rounded", "rounded", defArgs (topS 42), defBody (topS 42), defScope (topS 42), [], []⟩, ⟨("stepped", none), "stepped", "stepped", defArgs (topS 43), defBody (topS 43), defScope (topS 43), [], []⟩, ⟨("wave_of", none), "wave_of", "wave_of", defArgs (topS 44), defBody (topS 44), defScope (topS 44), [], []⟩, ⟨("is_line", none), "is_line", "is_line", defArgs (topS 45), defBody (topS 45), defScope (topS 45), [], []⟩, ⟨("form_of", none), "form_of", "form_of", defArgs (topS 47), defBody (topS 47), defScope (topS 47), [], []⟩, ⟨("form", none), "form", "form", defArgs (topS 48), defBody (topS 48), defScope (topS 48), [], []⟩]
def fn6 : List He.DefD := [⟨("Desk", some "__init__"), "__init__", "Desk.__init__", defArgs (inClass (topS 50) 0), defBody (inClass (topS 50) 0), defScope (inClass (topS 50) 0), [], []⟩, ⟨("Desk", some "chain"), "chain", "Desk.chain", defArgs (inClass (topS 50) 1), defBody (inClass (topS 50) 1), defScope (inClass (topS 50) 1), [], []⟩, ⟨("Desk", some "change"), "change", "Desk.change", defArgs (inClass (topS 50) 2), defBody (inClass (topS 50) 2), defScope (inClass (topS 50) 2), [], []⟩, ⟨("Desk", some "put"), "put", "Desk.put", defArgs (inClass (topS 50) 3), defBody (inClass (topS 50) 3), defScope (inClass (topS 50) 3), [], []⟩, ⟨("Desk", some "take"), "take", "Desk.take", defArgs (inClass (topS 50) 4), defBody (inClass (topS 50) 4), defScope (inClass (topS 50) 4), [], []⟩, ⟨("Desk", some "undo"), "undo", "Desk.undo", defArgs (inClass (topS 50) 5), defBody (inClass (topS 50) 5), defScope (inClass (topS 50) 5), [], []⟩]
def fn7 : List He.DefD := [⟨("Desk", some "redo"), "redo", "Desk.redo", defArgs (inClass (topS 50) 6), defBody (inClass (topS 50) 6), defScope (inClass (topS 50) 6), [], []⟩, ⟨("Desk", some "__len__"), "__len__", "Desk.__len__", defArgs (inClass (topS 50) 7), defBody (inClass (topS 50) 7), defScope (inClass (topS 50) 7), [], []⟩, ⟨("Desk", some "__eq__"), "__eq__", "Desk.__eq__", defArgs (inClass (topS 50) 8), defBody (inClass (topS 50) 8), defScope (inClass (topS 50) 8), [], []⟩, ⟨("without", none), "without", "without", defArgs (topS 52), defBody (topS 52), defScope (topS 52), [], []⟩, ⟨("joined", none), "joined", "joined", defArgs (topS 53), defBody (topS 53), defScope (topS 53), [], []⟩, ⟨("left_out", none), "left_out", "left_out", defArgs (topS 54), defBody (topS 54), defScope (topS 54), [], []⟩]
def fn8 : List He.DefD := [⟨("fraction_text", none), "fraction_text", "fraction_text", defArgs (topS 56), defBody (topS 56), defScope (topS 56), [], []⟩, ⟨("written", none), "written", "written", defArgs (topS 57), defBody (topS 57), defScope (topS 57), [], []⟩, ⟨("integer_of", none), "integer_of", "integer_of", defArgs (topS 58), defBody (topS 58), defScope (topS 58), [], []⟩, ⟨("fraction_of", none), "fraction_of", "fraction_of", defArgs (topS 59), defBody (topS 59), defScope (topS 59), [], []⟩, ⟨("step_of", none), "step_of", "step_of", defArgs (topS 60), defBody (topS 60), defScope (topS 60), [], []⟩, ⟨("parse_chain", none), "parse_chain", "parse_chain", defArgs (topS 61), defBody (topS 61), defScope (topS 61), [], []⟩]
def fn9 : List He.DefD := [⟨("_law_cell", none), "_law_cell", "_law_cell", defArgs (topS 63), defBody (topS 63), defScope (topS 63), [], []⟩, ⟨("_law_drawn", none), "_law_drawn", "_law_drawn", defArgs (topS 64), defBody (topS 64), defScope (topS 64), [], []⟩, ⟨("_law_roll", none), "_law_roll", "_law_roll", defArgs (topS 65), defBody (topS 65), defScope (topS 65), [], []⟩, ⟨("_law_rounds", none), "_law_rounds", "_law_rounds", defArgs (topS 66), defBody (topS 66), defScope (topS 66), [], []⟩, ⟨("_law_met", none), "_law_met", "_law_met", defArgs (topS 67), defBody (topS 67), defScope (topS 67), [], []⟩, ⟨("_law_alone", none), "_law_alone", "_law_alone", defArgs (topS 68), defBody (topS 68), defScope (topS 68), [], []⟩]
def fn10 : List He.DefD := [⟨("law", none), "law", "law", defArgs (topS 69), defBody (topS 69), defScope (topS 69), [], []⟩]
def fn : List He.DefD := fn0 ++ fn1 ++ fn2 ++ fn3 ++ fn4 ++ fn5 ++ fn6 ++ fn7 ++ fn8 ++ fn9 ++ fn10
def exB (K : PySem.W.Frag) : Bool := (He.tupB K "TIES" [.str "up", .str "down", .str "even", .str "odd"] && He.eqO (PySem.W.nsIn K mainGlobals "TIES") (some (some (.ref (He.ga K "TIES"))))) && (RW.e6B K && (!decide (He.ga K "Wave" = He.ga K "Desk") && (true)))

abbrev R : PySem.W.OpenRow := PySem.W.OpenLaw.row PySem.Challenge.rw_roundwaves_k14_errors_apart
abbrev AlE : Type := He.AlD × Bool
def obsEG (g : Addr → Option Obj) : AlE := (He.obsD fa fn (He.frG g (RW.asN g 5)), exB (He.frG g (RW.asN g 5)) && RW.tabX g (He.frG g (RW.asN g 5)) "law")
def hk : PySem.W.Hook where
  α := AlE
  obs := fun s => obsEG s.heap.get?
  val := fun _ => (He.valD fn, true)
  says := fun _ h => ∃ K : PySem.W.Frag, K.In h ∧ He.SaysD fa fn K ∧ exB K = true ∧ ∃ c P : Addr, RW.TabAt K h "law" c P
  of := fun _ _ e => by
    have e2 := Bool.and_eq_true_iff.mp (congrArg (fun z : AlE => z.2) e)
    exact ⟨_, He.frG_in, congrArg (fun z : AlE => z.1) e, e2.1, RW.tabX_of e2.2⟩
  keeps := fun _ _ _ ⟨K, hK, c1, c2, c, P, t⟩ k => ⟨K, PySem.W.Frag.In.keeps hK k, c1, c2, c, P, t.keeps k⟩
def ob (s : PySem.W.SharedT) : AlE := obsEG (HandSHeadRun.getT s)
theorem ob_eq (s : PySem.W.SharedT) : ob s = hk.obs s.abs := by
  have e : HandSHeadRun.getT s = s.abs.heap.get? := funext (HandSHeadRun.getT_eq s)
  show obsEG _ = obsEG _
  rw [e]
theorem run (w : World) : HandSHeadRun.RunEq R (PySem.W.view R.prog [69]) hk ob 9000 loose w := by
  intro os
  kernel_rfl
end RWH

/-! try: deed() / except C as e: return e: an exception handed back as a value; isinstance of it -/
set_option Elab.async false
set_option linter.all false
set_option maxRecDepth 100000
set_option maxHeartbeats 2000000
namespace RW
open PySem PySem.Spec PyProof.Rows L2
open Evl (Ex fresh_back)
/-- what the clause wishes that hands the exception back -/
def wGive (K : PySem.W.Frag) (c : Value) (D : Ends) : WX := fun cls d _ H => PySem.W.exmOne K cls c = some true ∧ d = none ∧ ∀ a, H a = none → D.rt (.ref a) (upd H a (exA cls a))
/-- a pinned exception is tracked from here on -/
theorem inv_give {X : Cx} {pins : List (Addr × Obj)} {σ : L2.St} {H : Hp} {s : Shared} {a : Addr} {oe : Obj} {us : Array Value} {cls : Value} (I : Inv X ((a, oe) :: pins) σ H s) (hz : Zc cls none oe) (hd : oe.data = .fields us)
    (n0 : X.s_0.heap.get? a = none) (np : ∀ p ∈ X.pn ++ pins, p.1 ≠ a) : Inv X pins σ (upd H a (exA cls a)) s := by
  obtain ⟨q1, q2, q3, q4, q5⟩ := I.pin (a, oe) (List.mem_append_right _ List.mem_cons_self)
  have nb : ∀ {b : Addr} {o : Obj}, X.s_0.heap.get? b = some o → b ≠ a := fun {b o} e z => by
    rw [z, n0] at e
    cases e
  have nt : ∀ {b : Addr} {o : HO}, H b = some o → upd H a (exA cls a) b = some o := fun {b o} e => by
    rw [upd_ne (ne_of_none e q2)]
    exact e
  refine ⟨I.ok, I.os, I.bare, ⟨I.base.keep, I.base.slot, fun b o e n hx => ?_, I.base.there, fun b xs e => nt (I.base.tups b xs e), fun b o u e => nt (I.base.frzs b o u e), fun b ps e => ?_⟩, I.loc, I.cell, ?_, fun x c e => ?_, fun p hp => ?_, ?_, I.len⟩
  · rw [upd_ne (nb e)]
    exact I.base.free b o e n hx
  · obtain ⟨m, z⟩ := I.base.tbls b ps e
    exact ⟨m, nt z⟩
  · rw [upd_ne (Ne.symm q3)]
    exact I.free
  · have ne : c ≠ a := fun z => by
      obtain ⟨v, o, ho, hv⟩ := I.cell x c e
      rw [z, q1] at ho
      cases ho
      exact q5 v hv
    rw [upd_ne ne]
    exact I.freeC x c e
  · have z := I.pin p ((List.mem_append.mp hp).elim (List.mem_append_left _) fun w => List.mem_append_right _ (List.mem_cons_of_mem _ w))
    exact ⟨z.1, by rw [upd_ne (np p hp)]; exact z.2.1, z.2.2⟩
  · exact I.hok.laidN (fun _ _ e => e) q2 ⟨⟨oe, us, q1, hz, hd⟩, ⟨oe, q1⟩, fun _ _ ⟨o, v, w1, w2⟩ k => ⟨o, v, k o w1, w2⟩⟩
section
variable {X : Cx} {x n : Str} {c : Value} {i : Nat} {body : List Stmt} {np q6 q8 pos pos' : Pos} {tb : WX → TS}
theorem ps_give (stk : X.stack = X.env :: X.outer) (frm : X.env.frame = some X.env.locals) (noex : X.ex = []) (nd : X.N.Nodup) (at_i : X.N[i]? = some n) (loc : X.env.kindOf n = some .local) (nm : Names X x c)
    (hbody : ∀ (W : WX) (pn : List (Addr × Obj)) (xe : Value → Shared → Prop), L2N.Takes (X.tr pn xe) W → PassesOwn (model X.prog X.w) X.A X.env xe → PSs (X.tr pn xe) body (tb W)) (hdn : (n == ("__debug__" : Str)) = false := by decide) (hcn : (n == ("__classdict__" : Str)) = false := by decide) :
    PS X (.Try body [.ExceptHandler (some (.Name x np)) (some n) [.Return (some (.Name n q6)) q8] pos'] [] [] pos) (fun D σ H => tb (wGive X.K c D) D σ H) := by
  constructor
  intro pins s σ H D I h
  have ok := I.ok
  have fr : X.A.frames = some (X.env :: X.outer) := by rw [ok.frames, stk]
  let hds : List ExceptHandler := [.ExceptHandler (some (.Name x np)) (some n) [.Return (some (.Name n q6)) q8] pos']
  let xe : Value → Shared → Prop := fun e t1 => wpAny (model X.prog X.w) X.A (noteFrame e X.env) (fun _ t2 => wpAny (model X.prog X.w) X.A (setFlight e none) (fun _ t3 => wpAny (model X.prog X.w) X.A (handleBy e X.env hds) (SP X pins D) X.xe t3) X.xe t2) X.xe t1
  have tk : L2N.Takes (X.tr (X.pn ++ pins) xe) (wGive X.K c D) := by
    rintro u s' ⟨a, B, sI, pins', σ', H', cls, d, rfl, J0, nb, up, sky, na, os, ag, yes, rfl, want⟩
    have J : Inv X pins σ' H' sI := J0.ofTry ok
    have sky2 : Sky B (X.env :: X.outer) a (L2N.Zn cls none) X.env.locals s'.heap := by rw [← stk]; exact sky
    show wpAny _ X.A (noteFrame (.ref a) X.env) _ _ _
    refine L2N.Sky.land L2N.Zn.steady fr frm sky2 fun h3 f3 up3 => ?_
    have J3 : Inv X pins σ' H' { s' with heap := h3 } := J.landed nb f3.1 (up.trans up3) os ag
    obtain ⟨o3, v3, g3, z3, d3⟩ := f3.there
    have far : a ∉ frs (X.env :: X.outer) := fun hm => by
      obtain ⟨_, o', e', hnf⟩ := f3.2.2.1.mem hm
      rw [g3] at e'
      cases e'
      exact hnf _ d3
    have nL : a ≠ X.env.locals := fun z => far (List.mem_filterMap.mpr ⟨X.env, List.mem_cons_self, by rw [frm, z]⟩)
    have nF : a ∉ X.fs := fun hm => by
      obtain ⟨e, he, q⟩ := List.mem_filterMap.mp hm
      exact far (List.mem_filterMap.mpr ⟨e, List.mem_cons_of_mem _ he, q⟩)
    have farS : a ∉ frs X.stack := by rw [stk]; exact far
    have nB : B.get? a = none := f3.2.1
    have n0 : X.s_0.heap.get? a = none := by
      cases e : X.s_0.heap.get? a with
      | none => rfl
      | some o =>
        obtain ⟨o', e'⟩ := J.base.there a o e (by rw [noex]; exact fun z => nomatch z)
        have := nb a o' e' farS
        rw [nB] at this
        cases this
    have np2 : ∀ p ∈ X.pn ++ pins, p.1 ≠ a := fun p hp z => by
      obtain ⟨w1, w2, w3, w4, _⟩ := J.pin p hp
      rw [z] at w1
      have := nb a p.2 w1 farS
      rw [nB] at this
      cases this
    have S3 := J3.suite g3 d3 na nL nF
    refine wpAny_handleBy_cons (codeAny_handlers_test ?_) (by intro q; cases q)
    have LT : PySem.W.Looks (model X.prog X.w) h3 (typeOf (.ref a)) cls := fun _ _ _ _ k q => wpAny_typeOf_ref (k _ _ g3) (by rw [z3.1]; exact q)
    have LM := PySem.W.exm_one (M := model X.prog X.w) J3.kIn LT yes
    have test : ∀ {Q E : Value → Shared → Prop}, Q c { s' with heap := h3 } → wpAny (model X.prog X.w) (X.A.mark (some (.ref a))) (eval (.Name x np) X.env) Q E { s' with heap := h3 } := fun {Q E} q => by
      obtain ⟨w1, w2, w3 | ⟨w3, w4, w5⟩⟩ := nm
      · exact ld_glob (X := X.suite a ((a, o3) :: (X.pn ++ pins))) S3 w1 w3 q w2
      · exact ld_blt (X := X.suite a ((a, o3) :: (X.pn ++ pins))) S3 w1 w3 w4 q w5 w2
    refine test (LM.here ?_)
    refine codeAny_handlers_suite_as ?_
    refine HandSPX.lands_againZ f3 fun h4 f4 up4 => ?_
    have J4 : Inv X pins σ' H' { s' with heap := h4 } := J.landed nb f4.1 ((up.trans up3).trans up4) os ag
    obtain ⟨o4, v4, g4, z4, d4⟩ := f4.there
    have S4 := J4.suite g4 d4 na nL nF
    refine store_ok (X := X.suite a ((a, o4) :: (X.pn ++ pins))) (v := .ref a) S4 nd at_i (.inl loc) rfl (fun s5 S5 => ?_) (.inr loc)
    have back : PSs (X.suite a ((a, o4) :: (X.pn ++ pins))) [.Return (some (.Name n q6)) q8] (tRet (tVar i)) := pss_one (ps_ret (pos := q8) (pe_var (pos := q6) (i := i) at_i (.inl loc) hdn hcn))
    have lt : i < σ'.length := by rw [J.len]; exact (List.getElem?_eq_some_iff.mp at_i).1
    refine wpAny_mono (back.run [] s5 _ H' { nx := fun _ _ => False, rt := fun v G => v = .ref a ∧ G = H' } S5 ⟨.ref a, List.getElem?_set_self lt, rfl, rfl⟩) (fun f s6 hsp => ?_) fun _ _ z => False.elim z
    cases f with
    | next => exact hsp.choose_spec.choose_spec.2.elim
    | brk => exact (show False from hsp.choose_spec.choose_spec.2).elim
    | cont => exact (show False from hsp.choose_spec.choose_spec.2).elim
    | ret u =>
      obtain ⟨v6, σ6, H6, S6, r6, rfl, rfl⟩ := hsp
      have K6 : Inv X ((a, o4) :: pins) σ6 H6 s6 := ⟨ok, S6.os, S6.bare, S6.base, S6.loc, S6.cell, S6.free, S6.freeC, fun p hp => S6.pin p (List.mem_append_left _ ((List.mem_append.mp hp).elim (fun w => List.mem_cons_of_mem _ (List.mem_append_left _ w)) fun w => (List.mem_cons.mp w).elim (fun e => e ▸ List.mem_cons_self) fun w => List.mem_cons_of_mem _ (List.mem_append_right _ w))), S6.hok, S6.len⟩
      refine gone_ok K6 nd at_i loc fun s7 J7 => ?_
      exact ⟨.ref a, _, _, inv_give J7 z4.zc d4 n0 np2, r6, want a na⟩
  refine wpAny_Try_except (wpAny_mono ((hbody (wGive X.K c D) (X.pn ++ pins) xe tk PassesOwn.looking).run [] s σ H D (I.toTry _) h) (fun f s1 hsp => ?_) (fun e s1 he => he))
  cases f with
  | next => exact wpAny_execs_nil ⟨hsp.choose, hsp.choose_spec.choose, hsp.choose_spec.choose_spec.1.ofTry ok, hsp.choose_spec.choose_spec.2⟩
  | brk => exact ⟨hsp.choose, hsp.choose_spec.choose, hsp.choose_spec.choose_spec.1.ofTry ok, hsp.choose_spec.choose_spec.2⟩
  | cont => exact ⟨hsp.choose, hsp.choose_spec.choose, hsp.choose_spec.choose_spec.1.ofTry ok, hsp.choose_spec.choose_spec.2⟩
  | ret u =>
    obtain ⟨v, σ', H', J, r, q⟩ := hsp
    exact ⟨v, σ', H', J.ofTry ok, r, q⟩
end
/-- what becomes of an exception of the deed: it is handed back -/
def xMet (K : PySem.W.Frag) (CS : Addr) (Q : VK) : XK := fun cls d H => PySem.W.exmOne K cls (.ref CS) = some true ∧ d = none ∧ ∀ a, H a = none → Q (.ref a) (upd H a (exA cls a))
def tMet (K : PySem.W.Frag) (CS : Addr) (T : List (Addr × Str)) (P : Addr) (q : Str) (t : XK → TE) : TE := fun σ H Q => LamX.Tabs T H ∧ ∀ H1, GrowT P q H H1 → LamX.Tabs T H1 → t (xMet K CS Q) σ H1 (fun _ H2 => Q .non H2)
theorem pe_met {X : Cx} {T : List (Addr × Str)} {x a n y : Str} {g c P CS : Addr} {fd : FuncData} {st : Stmt} {Ng : List Str} {k : Nat} {params : Arguments} {body : Expr} {scope : Scope} {t : XK → TE} {p lpos pos q1 q2 q3 q4 q5 q6 q7 q8 q9 q10 : Pos} {jj : Nat}
    (G : Fun X.K x x st g fd) (hm : X.mg x = some (.ref g)) (hbs : defBody st = [.Try [.Expr (.Call (.Name a q1) [] [] q2) q3] [.ExceptHandler (some (.Name y q4)) (some n) [.Return (some (.Name n q5)) q6] q7] [] [] q8, .Return (some (.Constant .none jj q9)) q10])
    (Sg : FnScope Ng [a] (defScope st)) (hb : Binds X.K fd [a] []) (hN0 : Ng[0]? = some a) (hN1 : Ng[1]? = some n) (hva : Vis (defScope st) a) (hln : (defScope st).names.lookup n = some .local) (hgy : (defScope st).names.lookup y = some .globalImplicit)
    (hme : X.mg y = some (.ref CS)) (TB : LamX.TabB X.base X.mg c P) (hcode : X.env.code = .ref c) (hmT : (P, X.env.qual ++ "<lambda>") ∈ T) (hu : ∀ p ∈ T, p.1 = P → p.2 = X.env.qual ++ "<lambda>") (hr : Room (k + 2) X.A) (L : LamX.LamS X.env.scope scope) (hdef : defaultsOf params X.env = ([], []))
    (hbind : ∀ (q : Str) (cl : List (Str × Addr)) (pm cv ctv : Value), bindArgs (PySem.W.kla_fn "<lambda>" q params body scope cl pm cv ctv) ⟨[], []⟩ = pure [])
    (hbody : ∀ (A : Around) (outer : List Env) (s : Shared) (H : Hp) (E : XK) (f c' : Addr), Room k (A.deeper (LamX.lamEnv X scope s.heap.objs.size f c')) → PE (lamN X A outer s H E scope f c') body (t E)) (hg : Gl X x)
    (hdb : (x == ("__debug__" : Str)) = false := by decide) (hd : (a == ("__debug__" : Str)) = false := by decide) (hcd : (a == ("__classdict__" : Str)) = false := by decide) (hdn : (n == ("__debug__" : Str)) = false := by decide) (hcn : (n == ("__classdict__" : Str)) = false := by decide)
    (hdy : (y == ("__debug__" : Str)) = false := by decide) :
    PE X (.Call (.Name x p) [.Lambda params body scope lpos] [] pos) (tMet X.K CS T P (X.env.qual ++ "<lambda>") t) := by
  refine ⟨fun pins s σ H Q I ⟨hT, h⟩ => ?_⟩
  have hk := G.kp
  obtain ⟨oc, od, kV, doc, pm, an, cdv, ct, osl, rfl, lk, hcg⟩ := G.ex
  refine wpAny_Call_Name_kw (ld_glob I hg hm ?_ hdb)
  refine PySem.W.callWith_K (h₀ := X.base) I.ok.mod.kin hk ?_ (by rfl) (by rfl)
  show wpAny _ _ (spliced ((false, eval (.Lambda params body scope lpos) X.env) :: backTo pos (starEach [] X.env))) _ _ s
  refine Calls.spliced_cons (lam_new I TB hcode hmT hu hT hdef (L.has I.ok) fun f c' pm' ctv H1 s1 I1 gr T1 hf hfn hfr hco => Calls.spliced_nil ⟨I1.kIn, ?_⟩)
  have ran : codeAny (model X.prog X.w) X.A (.call (.ref g) ⟨[.ref f], []⟩) (CR C8.CX0 X.stack X.prog X.w H1 s1 Q C8.E0) s1 := by
    refine LamX.run_ofS (N := Ng) (ps := [a]) (us := [.ref f]) (vs := [.ref f]) lk hcg Sg hr I1.env0 (hb s1 [.ref f] I1.kIn rfl) (.cons rfl .nil) rfl fun hr1 => ?_
    rw [hbs]
    let Z : Cx := (cxOf C8.CX0 X.prog X.w X.K X.mg X.base Ng x (defScope st) g cdv X.A X.stack s1 H1 C8.E0).nox
    have sl0 : (L2.start Ng [V.ref f])[0]? = some (some (V.ref f)) := rfl
    have body1 : PS Z (.Try [.Expr (.Call (.Name a q1) [] [] q2) q3] [.ExceptHandler (some (.Name y q4)) (some n) [.Return (some (.Name n q5)) q6] q7] [] [] q8) _ :=
      ps_give (X := Z) (i := 1) (c := .ref CS)
        (tb := fun W D τ G => ∃ Ech : XK, (∀ cls d G2, Ech cls d G2 → W cls d τ G2) ∧ τ[0]? = some (some (.ref f)) ∧ G c' = some (LamX.CodeO c' (X.env.qual ++ "<lambda>")) ∧ t Ech σ G (fun _ G2 => D.nx τ G2))
        rfl rfl rfl Sg.nd hN1 hln ⟨hgy, hdy, .inl hme⟩ (fun W pn xe tk _ => by
          refine ⟨fun pinZ sZ τ G D J ⟨Ech, hW, h1, h2, h3⟩ => ?_⟩
          have deed := pe_deed (X := X) (CXg := C8.CX0) (Eg := C8.E0) (i := 0) (E := Ech) (tb := t Ech) (p1 := q1) (p2 := q2) (params := params) (body := body) (pm := pm') (ctv := ctv) I1 L hf hfn hfr (hbind _ _ _ _ _) (pn := pn) (xe := xe) (W := W) tk hr1 (fun A outer s H hr2 => hbody A outer s H Ech f c' hr2) hN0 hva hd hcd
          exact (pss_one (ps_expr (pos := q3) deed)).run pinZ sZ τ G D J ⟨h1, h2, hW, h3⟩) hdn hcn
    refine ⟨_, (pss_cons body1 (pss_one (ps_ret (pos := q10) (pe_non (X := Z) (pos := q9))))).nox, ?_⟩
    refine ⟨xMet X.K CS Q, fun cls d G2 hE => hE, sl0, hco, h H1 gr T1⟩
  refine wpAny_call (codeAny_mono ran fun r s2 hq => ?_)
  cases r with
  | error e => exact (show False from hq).elim
  | ok fl =>
    cases fl with
    | ret u => exact I1.after hq
    | next => exact hq.elim
    | brk => exact hq.elim
    | cont => exact hq.elim
/-! on data -/
def dMet (mg : Str → Option Value) (db : TEd) : TEd := fun sd P _ => db (sd.map calmS) (fun _ => P .non) (fun c => ∃ i, i < 6 ∧ c = clsOf mg (excS i) ∧ P (.exc (addrOf mg (excS i))))
structure MetD (P : Program) (w : World) (K : PySem.W.Frag) (mg : Str → Option Value) (base : Heap) (x : Str) : Prop where
  ex : ∃ (g : Addr) (fd : FuncData) (st : Stmt) (Ng : List Str) (a n : Str) (jj : Nat) (q1 q2 q3 q4 q5 q6 q7 q8 q9 q10 : Pos), Fun K x x st g fd ∧ mg x = some (.ref g) ∧
    defBody st = [.Try [.Expr (.Call (.Name a q1) [] [] q2) q3] [.ExceptHandler (some (.Name "RoundError" q4)) (some n) [.Return (some (.Name n q5)) q6] q7] [] [] q8, .Return (some (.Constant .none jj q9)) q10] ∧
    FnScope Ng [a] (defScope st) ∧ Binds K fd [a] [] ∧ Ng[0]? = some a ∧ Ng[1]? = some n ∧ Vis (defScope st) a ∧ (defScope st).names.lookup n = some .local ∧ (defScope st).names.lookup ("RoundError" : Str) = some .globalImplicit ∧
    Exc6 K mg ∧ (a == ("__debug__" : Str)) = false ∧ (a == ("__classdict__" : Str)) = false ∧ (n == ("__debug__" : Str)) = false ∧ (n == ("__classdict__" : Str)) = false
theorem de_met {X : Cx} {K : PySem.W.Frag} {Dc : Gr} {Xe : XK} {k : Nat} {x : Str} {params : Arguments} {body : Expr} {scope : Scope} {t : XK → TE} {db : TEd} {p lpos pos : Pos} (F : MetD X.prog X.w K X.mg X.base x) {T : List (Addr × Str)} {c PT : Addr} (LT : LamT X T c PT) (hT : Dc.tabs = T) (hr : Room (k + 2) X.A)
    (hL : LamX.lamSB X.env.scope scope = true) (hbody : ∀ (A : Around) (outer : List Env) (s : Shared) (H : Hp) (E : XK) (f c' : Addr), Room k (A.deeper (LamX.lamEnv X scope s.heap.objs.size f c')) → DE (lamN X A outer s H E scope f c') K Dc E body (t E) db)
    (hdef : defaultsOf params X.env = ([], []) := by rfl) (hbind : ∀ (q : Str) (cl : List (Str × Addr)) (pm cv ctv : Value), bindArgs (PySem.W.kla_fn "<lambda>" q params body scope cl pm cv ctv) ⟨[], []⟩ = pure [] := by intros; rfl) (hg : Gl X x := by rfl) (hdb : (x == ("__debug__" : Str)) = false := by decide) (hK : X.K = K := by rfl) :
    DE X K Dc Xe (.Call (.Name x p) [.Lambda params body scope lpos] [] pos) (tMet K (addrOf X.mg "RoundError") T PT (X.env.qual ++ "<lambda>") t) (dMet X.mg db) := by
  obtain rfl := hK
  obtain ⟨g, fd, st, Ng, a, n, jj, q1, q2, q3, q4, q5, q6, q7, q8, q9, q10, G, hm, hbs, Sg, hb, hN0, hN1, hva, hln, hgy, E6, d1, d2, d3, d4⟩ := F.ex
  obtain ⟨TB, hcode, hmT, hu⟩ := LT
  subst hT
  refine ⟨rfl, pe_met G hm hbs Sg hb hN0 hN1 hva hln hgy E6.r TB hcode hmT hu hr (LamX.lamS_by hL) hdef hbind (fun A outer s H E f c' hr' => (hbody A outer s H E f c' hr').pe) hg hdb d1 d2 d3 d4 (by decide), ?_⟩
  intro Hb0 H0 F hF Hb H σ sd P Q m hd kk
  refine ⟨m.g.tb.ta, fun H1 gr T1 => ?_⟩
  have g1 : Good Dc Hb H Hb H1 := good_grow m.g.ok gr T1
  have rd := (hbody (X.A.deeper X.env) [] X.s_0 X.H_0 (xMet X.K (addrOf X.mg "RoundError") Q) 0 0 ((hr.deeper _).deeper _)).rd
  refine rd Hb H1 _ (fun Hb2 H2 cl g2 hc => ?_) Hb H1 σ _ (fun _ => P .non) (fun _ H2 => Q .non H2) (m.step g1).calm hd fun Hb2 H2 v d g2 dv hp => kk Hb2 H2 .non .non (g1.trans g2) dt_non hp
  obtain ⟨i, hi, rfl, hp⟩ := hc
  rw [E6.cls hi]
  exact ⟨E6.x i hi, rfl, fun a ha => kk _ _ _ (.exc (addrOf X.mg (excS i))) ((g1.trans g2).trans (Good.new g2.ok ha)) (by simp only [Dt]; exact ⟨a, rfl, upd_same⟩) hp⟩
/-! isinstance of an exception that is held -/
def rIsX (K : PySem.W.Frag) : List V → Hp → VK → Prop := fun xs H Q => ∃ (a D : Addr) (c : V) (cv : Value) (b : Bool), xs = [.ref a, c] ∧ H a = some (exA (.ref D) a) ∧ ExcC K D ∧ (∀ u, RelV c u → u = cv) ∧ PySem.W.kitOne K (.ref D) cv = some b ∧ Q (.bl b) H
theorem cr_isX {X : Cx} : CallR X (.builtin "isinstance") (rIsX X.K) := by
  intro pins s σ H xs us Q I r h
  obtain ⟨a, D, c, cv, b, rfl, ha, C, hu, hb, q⟩ := h
  cases r with
  | cons r1 rr =>
    cases rr with
    | cons r2 rr =>
      cases rr
      cases r1
      obtain rfl := hu _ r2
      obtain ⟨⟨oe, us, e1, z, e2⟩, _, _⟩ := I.hok a _ ha
      have inst : PySem.W.InstAt s.heap a oe D none := by
        obtain ⟨k1, k2, k3, k4⟩ := oe
        obtain ⟨z1, z2⟩ := z
        dsimp only at z1 z2 e2
        subst z1 z2 e2
        exact ⟨e1, rfl, rfl, trivial⟩
      refine PySem.W.kia_one (PySem.W.handS_kitx_exc C.hg C.hk C.hs C.hd C.ha C.hn C.ht C.hm) I.kIn inst hb (fun z => nomatch z) fun tk => ?_
      exact ⟨.bl b, H, I.kept (t' := tk) fun _ _ z => z, rfl, q⟩
@[simp] def dIsX (K : PySem.W.Frag) : List RW.D → (RW.D → Prop) → Prop := fun ds P => ∃ (C : Addr) (b : Bool), ExcC K C ∧ ((∃ c, ds = [.exc C, .cls c] ∧ PySem.W.kitOne K (.ref C) (.ref c) = some b) ∨ ∃ n, ds = [.exc C, .ty n] ∧ PySem.W.kitOne K (.ref C) (.type n) = some b) ∧ P (.bl b)
theorem rc_isX {K : PySem.W.Frag} {Dc : Gr} : RCD K Dc (rIsX K) (dIsX K) := by
  intro Hb H xs ds P Q ok hd h k
  obtain ⟨C, b, hC, hb, hP⟩ := h
  rcases hb with ⟨c, rfl, hb⟩ | ⟨c, rfl, hb⟩
  · obtain ⟨v, r, rfl, h1, hr⟩ := hd.cons
    obtain ⟨v2, r2, rfl, h2, hr2⟩ := hr.cons
    rw [hr2.nil]
    simp only [Dt] at h1 h2
    obtain ⟨a, rfl, h1⟩ := h1
    subst h2
    exact ⟨a, C, _, .ref c, b, rfl, ok.sub _ _ h1, hC, fun u r => r, hb, k Hb H _ _ ok dt_bl hP⟩
  · obtain ⟨v, r, rfl, h1, hr⟩ := hd.cons
    obtain ⟨v2, r2, rfl, h2, hr2⟩ := hr.cons
    rw [hr2.nil]
    simp only [Dt] at h1 h2
    obtain ⟨a, rfl, h1⟩ := h1
    subst h2
    exact ⟨a, C, _, .type c, b, rfl, ok.sub _ _ h1, hC, fun u r => r, hb, k Hb H _ _ ok dt_bl hP⟩
theorem de_isX {X : Cx} {K : PySem.W.Frag} {Dc : Gr} {Xe : XK} {e : Expr} {es : List Expr} {p pos : Pos} {tr : TA} {dr : TAd} (hm : X.mg "isinstance" = none) (ha : DA X K Dc Xe (e :: es) tr dr) (hg : Gl X "isinstance" := by rfl)
    (he : starEach (e :: es) X.env = (false, eval e X.env) :: starEach es X.env := by rfl) (hpl : (backTo pos (starEach es X.env)).any (·.1) = false := by rfl) : DE X K Dc Xe (.Call (.Name "isinstance" p) (e :: es) [] pos) (tCB (rIsX K) tr) (dCB (dIsX K) dr) := by
  obtain rfl := ha.hK
  exact de_callB cr_isX rc_isX hg hm (by decide +kernel) ha (by decide) (by decide) he hpl
end RW

/-! an __init__ that asks its own instance: the instance is told for each expression, untold for each store -/
set_option Elab.async false
set_option linter.all false
set_option maxRecDepth 100000
set_option maxHeartbeats 2000000
namespace RW
open PySem L2
open Evl (Ex fresh_back)
mutual
/-- no instance of C in it -/
def NoIns (C : Addr) : D → Prop
  | .ins C' _ ds => C' ≠ C ∧ NoInss C ds
  | .tup ds => NoInss C ds
  | .lst ds => NoInss C ds
  | .ktp ds => NoInss C ds
  | _ => True
def NoInss (C : Addr) : List D → Prop
  | [] => True
  | d :: ds => NoIns C d ∧ NoInss C ds
end
theorem noInss_all {C : Addr} : ∀ {ds : List D}, (∀ d ∈ ds, NoIns C d) → NoInss C ds
  | [], _ => by simp only [NoInss]
  | d :: ds, h => by
    simp only [NoInss]
    exact ⟨h d (List.mem_cons_self ..), noInss_all fun x hx => h x (List.mem_cons_of_mem _ hx)⟩
theorem NoInss.snoc {C : Addr} {d : D} (hd : NoIns C d) : ∀ {ds : List D}, NoInss C ds → NoInss C (ds ++ [d])
  | [], _ => by simp only [List.nil_append, NoInss]; exact ⟨hd, trivial⟩
  | e :: ds, h => by
    simp only [NoInss, List.cons_append] at h ⊢
    exact ⟨h.1, h.2.snoc hd⟩
section
variable {K : PySem.W.Frag} {Dc : Gr}
theorem sql_wo {Hb Hc : Hp} {p C dx : Addr} {fs : List (Str × V)} (hp : Hb p = some (.ins C dx fs)) (hc : ∀ q, q ≠ p → Hc q = Hb q) {a : Addr} {xs : List V} (h : SqL K Hb a xs) : SqL K Hc a xs := by
  rcases h with h | h
  · refine .inl ?_
    rcases h with h | ⟨o, h⟩
    · have na : a ≠ p := fun z => by rw [z, hp] at h; cases h
      exact .inl (by rw [hc a na]; exact h)
    · have na : a ≠ p := fun z => by rw [z, hp] at h; cases h
      exact .inr ⟨o, by rw [hc a na]; exact h⟩
  · exact .inr h
theorem sqt_wo {Hb Hc : Hp} {p C dx : Addr} {fs : List (Str × V)} (hp : Hb p = some (.ins C dx fs)) (hc : ∀ q, q ≠ p → Hc q = Hb q) {a : Addr} {xs : List V} (h : SqT K Hb a xs) : SqT K Hc a xs := by
  rcases h with h | h
  · refine .inl ?_
    rcases h with h | ⟨o, h⟩
    · have na : a ≠ p := fun z => by rw [z, hp] at h; cases h
      exact .inl (by rw [hc a na]; exact h)
    · have na : a ≠ p := fun z => by rw [z, hp] at h; cases h
      exact .inr ⟨o, by rw [hc a na]; exact h⟩
  · exact .inr h
mutual
theorem Dt.noins {Hb Hc : Hp} {p C dx : Addr} {fs : List (Str × V)} (hp : Hb p = some (.ins C dx fs)) (hc : ∀ q, q ≠ p → Hc q = Hb q) : ∀ {d : D} {v : V}, Dt K Dc Hb d v → NoIns C d → Dt K Dc Hc d v
  | .non, _, h, _ => by simp only [Dt] at h ⊢; exact h
  | .bl _, _, h, _ => by simp only [Dt] at h ⊢; exact h
  | .int _, _, h, _ => by simp only [Dt] at h ⊢; exact h
  | .str _, _, h, _ => by simp only [Dt] at h ⊢; exact h
  | .tup ds, _, h, t => by
    simp only [Dt] at h ⊢
    simp only [NoIns] at t
    obtain ⟨a, xs, e1, e2, e3⟩ := h
    have na : a ≠ p := fun z => by rw [z, hp] at e2; cases e2
    exact ⟨a, xs, e1, by rw [hc a na]; exact e2, Dts.noins hp hc e3 t⟩
  | .lst ds, _, h, t => by
    simp only [Dt] at h ⊢
    simp only [NoIns] at t
    obtain ⟨a, xs, e1, e2, e3⟩ := h
    have na : a ≠ p := fun z => by rw [z, hp] at e2; cases e2
    exact ⟨a, xs, e1, by rw [hc a na]; exact e2, Dts.noins hp hc e3 t⟩
  | .ins C' ns ds, _, h, t => by
    simp only [Dt] at h ⊢
    simp only [NoIns] at t
    obtain ⟨a, dx', fs', e1, e2, e3, e4⟩ := h
    have na : a ≠ p := fun z => by
      rw [z, hp] at e2
      cases e2
      exact t.1 rfl
    exact ⟨a, dx', fs', e1, by rw [hc a na]; exact e2, e3, Dts.noins hp hc e4 t.2⟩
  | .dice, _, h, _ => by simp only [Dt] at h ⊢; exact h
  | .cls _, _, h, _ => by simp only [Dt] at h ⊢; exact h
  | .ty _, _, h, _ => by simp only [Dt] at h ⊢; exact h
  | .scr ns, _, h, _ => by
    simp only [Dt] at h ⊢
    obtain ⟨a, e1, e2⟩ := h
    exact ⟨a, e1, sql_wo hp hc e2⟩
  | .ktp ds, _, h, t => by
    simp only [Dt] at h ⊢
    simp only [NoIns] at t
    obtain ⟨a, xs, e1, e2, e3⟩ := h
    exact ⟨a, xs, e1, sqt_wo hp hc e2, Dts.noins hp hc e3 t⟩
  | .exc _, _, h, _ => by
    simp only [Dt] at h ⊢
    obtain ⟨a, e1, e2⟩ := h
    have na : a ≠ p := fun z => by
      rw [z, hp] at e2
      cases e2
    exact ⟨a, e1, by rw [hc a na]; exact e2⟩
theorem Dts.noins {Hb Hc : Hp} {p C dx : Addr} {fs : List (Str × V)} (hp : Hb p = some (.ins C dx fs)) (hc : ∀ q, q ≠ p → Hc q = Hb q) : ∀ {ds : List D} {vs : List V}, Dts K Dc Hb ds vs → NoInss C ds → Dts K Dc Hc ds vs
  | [], _, h, _ => by rw [h.nil]; exact dts_nil
  | d :: ds, _, h, t => by
    obtain ⟨v, r, rfl, h1, h2⟩ := h.cons
    simp only [NoInss] at t
    exact dts_cons (Dt.noins hp hc h1 t.1) (Dts.noins hp hc h2 t.2)
end
/-- a slot with plain data that knows of no instance of C -/
def NoS (C : Addr) : Slot → Prop
  | .un => True
  | .dat d => NoIns C d
  | _ => False
theorem Good.unseeO {Hb H Hb' H' : Hp} {p : Addr} {o : HO} (hb : Hb p = none) (g : Good Dc (upd Hb p o) H Hb' H') : Good Dc Hb H (wo Hb' p) H' := by
  refine ⟨fun a o e => ?_, g.eh, fun a o e => ?_, fun a o e => ?_, g.dc, fun a z => ?_, g.tk, g.tb.less (fun a o e => by unfold wo at e; split at e; cases e; exact e)⟩
  · have na : a ≠ p := ne_of_none e hb
    rw [wo_ne na]
    exact g.eb a o (by rw [upd_ne na]; exact e)
  · have na : a ≠ p := fun z => by rw [z, wo_same] at e; cases e
    rw [wo_ne na] at e
    exact g.sub a o e
  · have na : a ≠ p := fun z => by rw [z, wo_same] at e; cases e
    rw [wo_ne na] at e
    rcases g.dom a o e with ⟨o', q⟩ | q
    · rw [upd_ne na] at q
      exact .inl ⟨o', q⟩
    · exact .inr q
  · by_cases na : a = p
    · rw [na, wo_same]
    · rw [wo_ne na]
      exact g.dcb a z
/-- the state within the __init__ of the instance at x, of the class C -/
structure IM (K : PySem.W.Frag) (Dc : Gr) (C x dx : Addr) (Hb1 H1 Hb H : Hp) (σ : St) (ns : List Str) (xs : List D) (r : Sd) : Prop where
  g : Good Dc Hb1 H1 Hb H
  x1 : H1 x = none
  xb : Hb x = none
  hx : ∃ fs, H x = some (.ins C dx fs) ∧ fs.map (·.1) = ns ∧ Dts K Dc Hb xs (fs.map (·.2))
  len : σ.length = r.length + 1
  s0 : σ[0]? = some (some (.ref x))
  sl : ∀ (i : Nat) s, r[i]? = some s → NoS C s ∧ ∃ o, σ[i + 1]? = some o ∧ SlotOk K Dc H1 Hb H s o
  nx : NoInss C xs
variable {C x dx : Addr} {Hb1 H1 Hb H : Hp} {σ : St} {ns : List Str} {xs : List D} {r : Sd}
theorem slot_no {Hb Hb' H H' H1 H1' : Hp} {s : Slot} {o : Option V} (h : NoS C s) (q : SlotOk K Dc H1 Hb H s o) (k : ∀ d v, NoIns C d → Dt K Dc Hb d v → Dt K Dc Hb' d v) : SlotOk K Dc H1' Hb' H' s o := by
  cases s with
  | un => trivial
  | dat d =>
    obtain ⟨v, e1, e2⟩ := q
    exact ⟨v, e1, k d v h e2⟩
  | own _ => exact h.elim
  | dct _ => exact h.elim
/-- the instance is told -/
theorem IM.m (i : IM K Dc C x dx Hb1 H1 Hb H σ ns xs r) : ∃ fs, H x = some (.ins C dx fs) ∧ fs.map (·.1) = ns ∧ Dts K Dc Hb xs (fs.map (·.2)) ∧ M K Dc (upd Hb x (.ins C dx fs)) H (upd Hb x (.ins C dx fs)) H σ (.dat (.ins C ns xs) :: r) := by
  obtain ⟨fs, h1, h2, h3⟩ := i.hx
  have ex : Ex Hb (upd Hb x (.ins C dx fs)) := Ex.new i.xb
  have ok : Ok Dc (upd Hb x (.ins C dx fs)) H := by
    refine ⟨Ex.refl _, fun _ _ h _ _ => h, fun a o e => ?_, fun a o e => .inl ⟨o, e⟩, i.g.dc, fun a z => ?_, fun _ ps h => ⟨ps, h⟩, i.g.tb.updB (fun _ h => nomatch h)⟩
    · by_cases na : a = x
      · subst na
        rw [upd_same] at e
        rw [h1]
        exact e
      · rw [upd_ne na] at e
        exact i.g.sub a o e
    · have na : a ≠ x := fun q => by
        obtain ⟨u, v, z⟩ := i.g.dc a z
        rw [q, h1] at z
        cases z
      rw [upd_ne na]
      exact i.g.dcb a z
  refine ⟨fs, h1, h2, h3, ok, ?_, fun j s e => ?_, fun j k as bs p hjk e1 e2 => ?_, fun j k as bs e1 e2 => ?_⟩
  · rw [i.len, List.length_cons]
  · cases j with
    | zero =>
      simp at e
      subst e
      refine ⟨_, i.s0, _, rfl, ?_⟩
      simp only [Dt]
      exact ⟨x, dx, fs, rfl, upd_same, h2, h3.mono ex⟩
    | succ j =>
      have e : r[j]? = some s := by simpa using e
      obtain ⟨q1, o, q2, q3⟩ := i.sl j s e
      exact ⟨o, q2, slot_no q1 q3 fun d v _ z => z.mono ex⟩
  · cases j with
    | zero => simp at e1
    | succ j =>
      have e : r[j]? = some (.own as) := by simpa using e1
      exact ((i.sl j _ e).1).elim
  · cases j with
    | zero => simp at e1
    | succ j =>
      have e : r[j]? = some (.dct as) := by simpa using e1
      exact ((i.sl j _ e).1).elim
/-- and untold again -/
theorem IM.back {Hb2 H2 : Hp} {fs : List (Str × V)} (i : IM K Dc C x dx Hb1 H1 Hb H σ ns xs r) (h1 : H x = some (.ins C dx fs)) (h2 : fs.map (·.1) = ns) (h3 : Dts K Dc Hb xs (fs.map (·.2))) (g : Good Dc (upd Hb x (.ins C dx fs)) H Hb2 H2) : IM K Dc C x dx Hb1 H1 (wo Hb2 x) H2 σ ns xs r := by
  have g' := Good.unseeO i.xb g
  have nd : ¬ Dc x := fun z => by
    obtain ⟨u, v, z⟩ := i.g.dc x z
    rw [h1] at z
    cases z
  exact ⟨i.g.trans g', i.x1, wo_same, ⟨fs, g'.eh _ _ h1 nd (fun _ h => nomatch h), h2, h3.mono g'.eb⟩, i.len, i.s0, fun j s e => by
    obtain ⟨q1, o, q2, q3⟩ := i.sl j s e
    exact ⟨q1, o, q2, slot_no q1 q3 fun d v _ z => z.mono g'.eb⟩, i.nx⟩
theorem IM.toldAt {Hb2 H2 : Hp} {fs : List (Str × V)} (g : Good Dc (upd Hb x (.ins C dx fs)) H Hb2 H2) : Hb2 x = some (.ins C dx fs) := g.eb _ _ upd_same
end
structure IEnd (K : PySem.W.Frag) (Dc : Gr) (Xe : XK) (C x dx : Addr) (Hb1 H1 : Hp) (De : DEnds) (E : Ends) : Prop where
  nx : ∀ Hb H σ ns xs r, IM K Dc C x dx Hb1 H1 Hb H σ ns xs r → De.nx (.dat (.ins C ns xs) :: r) → E.nx σ H
  rs : XOk Dc Xe Hb1 H1 De.rs
def RIn (K : PySem.W.Frag) (Dc : Gr) (Xe : XK) (C : Addr) (ts : TS) (td : TSd) : Prop := ∀ (x dx : Addr) (Hb1 H1 : Hp) (De : DEnds) (E : Ends), IEnd K Dc Xe C x dx Hb1 H1 De E → ∀ Hb H σ ns xs r, IM K Dc C x dx Hb1 H1 Hb H σ ns xs r → td De (.dat (.ins C ns xs) :: r) → ts E σ H
structure DIn (X : Cx) (K : PySem.W.Frag) (Dc : Gr) (Xe : XK) (C : Addr) (e : Stmt) (te : TS) (td : TSd) : Prop where
  hK : X.K = K
  pe : PS X e te
  rd : RIn K Dc Xe C te td
structure DIns (X : Cx) (K : PySem.W.Frag) (Dc : Gr) (Xe : XK) (C : Addr) (e : List Stmt) (te : TS) (td : TSd) : Prop where
  hK : X.K = K
  pe : PSs X e te
  rd : RIn K Dc Xe C te td
section
variable {X : Cx} {K : PySem.W.Frag} {Dc : Gr} {Xe : XK} {C : Addr} {e a b c : Expr} {es : List Expr} {ta tb te : TE} {da db dd : TEd} {pos : Pos} {tt tu : TT} {dt du : TTd} {st : Stmt} {sts : List Stmt} {ts ts' : TS} {ds ds' : TSd}
theorem XOk.im {x dx : Addr} {Hb1 H1 Hb H : Hp} {σ : St} {ns : List Str} {xs : List D} {r : Sd} {F : XF} {fs : List (Str × V)} (h : XOk Dc Xe Hb1 H1 F) (i : IM K Dc C x dx Hb1 H1 Hb H σ ns xs r) : XOk Dc Xe (upd Hb x (.ins C dx fs)) H F := fun Hb' H' c g hf => h _ _ c (i.g.trans (Good.unseeO i.xb g)) hf
theorem dins_cons (h1 : DIn X K Dc Xe C st ts ds) (h2 : DIns X K Dc Xe C sts ts' ds') : DIns X K Dc Xe C (st :: sts) (tSeq ts ts') (dSeq ds ds') := ⟨h1.hK, pss_cons h1.pe h2.pe, by
  intro x dx Hb1 H1 De E ok Hb H σ ns xs r i h
  exact h1.rd x dx Hb1 H1 { De with nx := ds' De } { E with nx := ts' E } ⟨fun Hb H σ ns xs r i h => h2.rd x dx Hb1 H1 De E ok Hb H σ ns xs r i h, ok.rs⟩ Hb H σ ns xs r i h⟩
theorem dins_one (h1 : DIn X K Dc Xe C st ts ds) : DIns X K Dc Xe C [st] ts ds := ⟨h1.hK, pss_one h1.pe, h1.rd⟩
/-- self.f = e -/
@[simp] def dFldI (C : Addr) (f : Str) (dd : TEd) : TSd := fun De sd => dd sd (fun d => NoIns C d ∧ match sd with
  | .dat (.ins C' ns xs) :: r => C' = C ∧ ixOf f ns = none ∧ ns.length < 900 ∧ De.nx (.dat (.ins C (ns ++ [f]) (xs ++ [d])) :: r)
  | _ => False) De.rs
theorem putF_snoc {f : Str} {v : V} : ∀ {fs : List (Str × V)}, ixOf f (fs.map (·.1)) = none → putF f v fs = fs ++ [(f, v)]
  | [], _ => rfl
  | (g, y) :: fs, h => by
    simp only [List.map_cons, ixOf] at h
    by_cases q : f = g
    · rw [if_pos q] at h; cases h
    · rw [if_neg q] at h
      have h2 : ixOf f (fs.map (·.1)) = none := by simpa using h
      have q' : ¬ g = f := fun z => q z.symm
      rw [putF, if_neg q', putF_snoc h2]
      rfl
theorem din_fld {f x0 : Str} {p : Pos} (hc : Cls K C) (hn : NoAttr K C f) (h : DE X K Dc Xe e te dd) (pv : PE X (.Name x0 p) (tVar 0)) (ps : PE X (.Name x0 p) (tVar 0) → PE X e te → PS X st (sFld X.K (tVar 0) te f)) : DIn X K Dc Xe C st (sFld K (tVar 0) te f) (dFldI C f dd) := by
  obtain rfl := h.hK
  refine ⟨rfl, ps pv h.pe, ?_⟩
  intro x dx Hb1 H1 De E ok Hb H σ ns xs r i hd
  obtain ⟨fs, h1, h2, h3, m⟩ := i.m
  refine h.rd _ H De.rs (ok.rs.im i) _ H σ _ _ _ m hd fun Hb2 H2 v d g dv hp => ?_
  obtain ⟨hni, _, hix, hl, hp⟩ := hp
  have nd : ¬ Dc x := fun z => by
    obtain ⟨u, v, z⟩ := i.g.dc x z
    rw [h1] at z
    cases z
  have hx2 : H2 x = some (.ins C dx fs) := g.eh _ _ h1 nd (fun _ h => nomatch h)
  refine ⟨.ref x, i.s0, x, C, dx, fs, rfl, hx2, hc, hn, ?_, ?_⟩
  · have : fs.length = ns.length := by rw [← h2, List.length_map]
    omega
  · have i2 := i.back h1 h2 h3 g
    have dv2 : Dt X.K Dc (wo Hb2 x) d v := dv.noins (IM.toldAt g) (fun q hq => wo_ne hq) hni
    have es : putF f v fs = fs ++ [(f, v)] := putF_snoc (by rw [h2]; exact hix)
    refine ok.nx (wo Hb2 x) _ σ (ns ++ [f]) (xs ++ [d]) r ⟨i2.g.mut i2.x1 i2.xb nd (fun o' e => by rw [hx2] at e; cases e; exact plo_ins), i2.x1, i2.xb, ⟨_, upd_same, ?_, ?_⟩, i2.len, i2.s0, fun j s ej => ?_, i2.nx.snoc hni⟩ hp
    · rw [es, List.map_append, h2]; rfl
    · rw [es, List.map_append]
      exact (h3.mono (Good.unseeO i.xb g).eb).append (dts_cons dv2 dts_nil)
    · obtain ⟨q1, o, q2, q3⟩ := i2.sl j s ej
      exact ⟨q1, o, q2, slot_no q1 q3 fun d v _ z => z⟩
/-- if test: raise .. -/
theorem din_if {l : List Stmt} {cls : Value} {tr : TS} (hc : DT X K Dc Xe c tt dt) (h1 : PSs X l tr) (hr : ∀ D σ H, Xe cls none H → tr D σ H) : DIn X K Dc Xe C (.If c l [] pos) (tIfS tt tr tNext) (fun De sd => dt sd (fun b => if b = true then De.rs cls else De.nx sd) De.rs) := ⟨hc.hK, ps_if hc.pe h1 pss_nil, by
  intro x dx Hb1 H1 De E ok Hb H σ ns xs r i hd
  obtain ⟨fs, q1, q2, q3, m⟩ := i.m
  refine hc.rd _ H De.rs (ok.rs.im i) _ H σ _ _ _ m hd fun Hb2 H2 b g hp => ?_
  have i2 := i.back q1 q2 q3 g
  cases b with
  | true =>
    exact hr _ _ _ (ok.rs _ _ cls i2.g hp)
  | false => exact ok.nx _ _ _ _ _ _ i2 hp⟩
/-- a, b = .. -/
@[simp] def dParI (C : Addr) (i j : Nat) (dr : TAd) : TSd := fun De sd => dr sd (fun ds => match ds, sd with
  | [x, y], s :: r => NoIns C x ∧ NoIns C y ∧ De.nx (s :: (r.set i (.dat x)).set j (.dat y))
  | _, _ => False) De.rs
theorem im_set {x dx : Addr} {Hb1 H1 Hb H : Hp} {σ : St} {ns : List Str} {xs : List D} {r : Sd} {k : Nat} {d : D} {v : V} (i : IM K Dc C x dx Hb1 H1 Hb H σ ns xs r) (hd : Dt K Dc Hb d v) (hn : NoIns C d) : IM K Dc C x dx Hb1 H1 Hb H (σ.set (k + 1) (some v)) ns xs (r.set k (.dat d)) := by
  refine ⟨i.g, i.x1, i.xb, i.hx, by simpa using i.len, by rw [List.getElem?_set_ne (by omega)]; exact i.s0, fun j s e => ?_, i.nx⟩
  by_cases hj : k = j
  · subst hj
    have hl : k < r.length := by
      have := (List.getElem?_eq_some_iff.mp e).1
      simpa using this
    rw [List.getElem?_set_self hl] at e
    cases e
    exact ⟨hn, some v, List.getElem?_set_self (by rw [i.len]; omega), v, rfl, hd⟩
  · rw [List.getElem?_set_ne hj] at e
    rw [List.getElem?_set_ne (by omega)]
    exact i.sl j s e
theorem din_par (i j : Nat) {x y : Str} {tr : TA} {dr : TAd} {px py pt : Pos} {kt k2 pt2} (hc : X.calm = true) (hN : X.N.Nodup) (h : DA X K Dc Xe [a, b] tr dr) (hi : X.N[i + 1]? = some x := by rfl) (hj : X.N[j + 1]? = some y := by rfl) (hij : i + 1 ≠ j + 1 := by decide)
    (hx : X.env.scope.names.lookup x = some .local := by rfl) (hy : X.env.scope.names.lookup y = some .local := by rfl)
    (hw : swappedStores [.Tuple [.Name x px, .Name y py] kt pt] (.Tuple [a, b] k2 pt2) X.env = pure (some [x, y]) := by rfl)
    (hs : swapsWithSole [.Tuple [.Name x px, .Name y py] kt pt] (.Tuple [a, b] k2 pt2) pos.line X.env = pure false := by rfl) :
    DIn X K Dc Xe C (.Assign [.Tuple [.Name x px, .Name y py] kt pt] (.Tuple [a, b] k2 pt2) pos) (tPar (i + 1) (j + 1) tr) (dParI C i j dr) := ⟨h.hK, ps_par hc hN hi hj hij hx hy h.pe hw hs, by
  intro x dx Hb1 H1 De E ok Hb H σ ns xs r im hd
  obtain ⟨fs, q1, q2, q3, m⟩ := im.m
  refine h.rd _ H De.rs (ok.rs.im im) _ H σ _ _ _ m hd fun Hb2 H2 vs ds g dv hp => ?_
  rcases ds with _ | ⟨d1, _ | ⟨d2, _ | ⟨d3, r'⟩⟩⟩ <;> try exact hp.elim
  obtain ⟨v1, r1, rfl, h1, hr⟩ := dv.cons
  obtain ⟨v2, r2, rfl, h2, hr2⟩ := hr.cons
  rw [hr2.nil]
  have i2 := im.back q1 q2 q3 g
  have t := IM.toldAt g
  have d1' := h1.noins t (Hc := wo Hb2 x) (fun q hq => wo_ne hq) hp.1
  have d2' := h2.noins t (Hc := wo Hb2 x) (fun q hq => wo_ne hq) hp.2.1
  exact ⟨v1, v2, rfl, ok.nx _ _ _ _ _ _ (im_set (k := j) (im_set (k := i) i2 d1' hp.1) d2' hp.2.1) hp.2.2⟩⟩
/-! ### C(..) -/
abbrev CtrM := List D → (List D → Prop) → XF → Prop
def spMk (K : PySem.W.Frag) (C : Addr) (ns : List Str) (Ct : CtrM) : Sp := fun vs H Q E => ∃ (x dx : Addr) (us : List V) (Dc : Gr) (Hb1 H1 : Hp) (ds : List D) (P : List D → Prop) (F : XF),
  (vs = .ref x :: us ∧ H = upd (upd H1 dx (.own x)) x (.ins C dx []) ∧ H1 x = none ∧ H1 dx = none ∧ dx ≠ x) ∧ Ok Dc Hb1 H1 ∧ Dts K Dc Hb1 ds us ∧ Ct ds P F ∧
  (∀ Hb' H' xs fs, Good Dc Hb1 H1 Hb' H' → Hb' x = none → H' x = some (.ins C dx fs) → fs.map (·.1) = ns → Dts K Dc Hb' xs (fs.map (·.2)) → P xs → Q .non H') ∧ (∀ Hb' H' c, Good Dc Hb1 H1 Hb' H' → F c → E c none H')
structure MkC (P : Program) (w : World) (K : PySem.W.Frag) (mg : Str → Option Value) (base : Heap) (k : Nat) (x : Str) (C : Addr) (ps ns : List Str) (Ct : CtrM) : Prop where
  ex : ∃ (f : Addr) (fd : FuncData), FnOk P w K mg base (L2N.CX P w) k f fd ps (spMk K C ns Ct) ∧ Mk K C f ∧ mg x = some (.ref C) ∧ Binds K fd ps []
@[simp] def dMakeC (C : Addr) (ns : List Str) (Ct : CtrM) (dr : TAd) : TEd := fun sd P F => dr sd (fun args => Ct args (fun xs => P (.ins C ns xs)) F) F
theorem re_makeC {ns : List Str} {Ct : CtrM} {tr : TA} {dr : TAd} (ha : RA K Dc Xe tr dr) : RE K Dc Xe (tMake C (spMk K C ns Ct) [] Xe tr) (dMakeC C ns Ct dr) := by
  intro Hb0 H0 F hF Hb H σ sd P Q mm hd k
  refine ha Hb0 H0 F hF Hb H σ sd _ _ mm hd fun Hb1 H1 vs ds g1 dv hd1 => ?_
  intro x dx hx hdx ne
  rw [List.append_nil]
  refine ⟨x, dx, vs, Dc, Hb1, H1, ds, _, F, ⟨rfl, rfl, hx, hdx, ne⟩, g1.ok, dv, hd1, fun Hb' H' xs fs g hb h' e1 e2 hp => ⟨rfl, ?_⟩, fun Hb' H' c g hf => hF Hb' H' c (mm.g.trans (g1.trans g)) hf⟩
  have g2 : Good Dc Hb1 H1 (upd Hb' x (.ins C dx fs)) H' := by
    refine ⟨g.eb.trans (Ex.new hb), g.eh, fun b o e => ?_, fun b o e => ?_, g.dc, fun b z => ?_, g.tk, g.tb.updB (fun _ h => nomatch h)⟩
    · by_cases q : b = x
      · subst q
        rw [upd_same] at e
        rw [h']
        exact e
      · rw [upd_ne q] at e
        exact g.sub b o e
    · by_cases q : b = x
      · subst q
        exact .inr (.inl hx)
      · rw [upd_ne q] at e
        exact g.dom b o e
    · have nb : b ≠ x := fun q => by
        obtain ⟨i, j, r⟩ := g.dc b z
        rw [q, h'] at r
        cases r
      rw [upd_ne nb]
      exact g.dcb b z
  refine k _ H' (.ref x) (.ins C ns xs) (g1.trans g2) ?_ hp
  simp only [Dt]
  exact ⟨x, dx, fs, rfl, upd_same, e1, e2.mono (Ex.new hb)⟩
theorem de_makeC {k : Nat} {x : Str} {ps ns : List Str} {Ct : CtrM} {tr : TA} {dr : TAd} {p : Pos} (cx : Ctx X Xe) (M : MkC X.prog X.w K X.mg X.base k x C ps ns Ct) (hr : Room (k + 1) X.A) (ha : DA X K Dc Xe (e :: es) tr dr) (hg : Gl X x := by rfl) (hdb : (x == ("__debug__" : Str)) = false := by decide)
    (he : starEach (e :: es) X.env = (false, eval e X.env) :: starEach es X.env := by rfl) (hpl : (backTo pos (starEach es X.env)).any (·.1) = false := by rfl) : DE X K Dc Xe (.Call (.Name x p) (e :: es) [] pos) (tMake C (spMk K C ns Ct) [] Xe tr) (dMakeC C ns Ct dr) := by
  obtain rfl := ha.hK
  obtain ⟨f, fd, F, M, hm, hb⟩ := M.ex
  exact ⟨rfl, pe_make M F hr hg hm hb .nil cx.pass ha.pe hdb he hpl, re_makeC ha.rd⟩
end
section
variable {P : Program} {w : World} {K : PySem.W.Frag} {mg : Str → Option Value} {base : Heap}
/-- the ends of an __init__ -/
abbrev initEnds (C : Addr) (ns : List Str) (P : List D → Prop) (F : XF) : DEnds := ⟨fun sd => ∃ xs r, sd = .dat (.ins C ns xs) :: r ∧ P xs, fun _ => False, fun _ => False, fun _ => False, F⟩
theorem mkC_of {x qual : Str} {C : Addr} {st : Stmt} {f : Addr} {fd : FuncData} {N : List Str} {ps ns : List Str} {k : Nat} {Ct : CtrM} (F : Fun K "__init__" qual st f fd) (mk : Mk K C f) (gm : mg x = some (.ref C)) (S : FnScope N ps (defScope st)) (hb : Binds K fd ps []) (hN : ps.length ≤ N.length)
    (hl : ∀ ds P F, Ct ds P F → ds.length + 1 = ps.length ∧ NoInss C ds)
    (body : ∀ (cdv : Value) (A : Around) (outer : List Env) (s : Shared) (H : Hp) (E : XK) (Dc : Gr), Room k (A.deeper (PyProof.Rows.envOfC qual (defScope st) s.heap.objs.size f cdv)) →
      ∃ ts tsd, DIns (cxOf (L2N.CX P w) P w K mg base N qual (defScope st) f cdv A outer s H E) K Dc E C (defBody st) ts tsd ∧ ∀ ds Q F, Ct ds Q F → tsd (initEnds C ns Q F) (.dat (.ins C [] []) :: (ds.map Slot.dat ++ List.replicate (N.length - (ds.length + 1)) Slot.un))) : MkC P w K mg base (k + 1) x C ps ns Ct := by
  refine ⟨f, fd, ?_, mk, gm, hb⟩
  refine okXN F S (fun vs H Q E h => ?_) (fun cdv A outer s H vs Q E hr h => ?_)
  · obtain ⟨x, dx, us, Dc, Hb1, H1, ds, Pd, Fx, ⟨rfl, _⟩, ok, hd, hc, _⟩ := h
    rw [List.length_cons, hd.length]
    exact (hl _ _ _ hc).1
  · obtain ⟨x, dx, us, Dc, Hb1, H1, ds, Pd, Fx, ⟨rfl, rfl, hx, hdx, ne⟩, ok, hd, hc, k1, k2⟩ := h
    obtain ⟨ts, tsd, hD, hT⟩ := body cdv A outer s _ E Dc hr
    refine ⟨ts, hD.pe, ?_⟩
    have hxb : Hb1 x = none := fresh_back ok.sub hx
    have hlen := hd.length
    have gg : Good Dc Hb1 H1 Hb1 (upd (upd H1 dx (.own x)) x (.ins C dx [])) := by
      have kp : ∀ a o, H1 a = some o → (upd (upd H1 dx (.own x)) x (.ins C dx [])) a = some o := fun a o e => by rw [upd_ne (ne_of_none e hx), upd_ne (ne_of_none e hdx)]; exact e
      refine ⟨Ex.refl _, fun a o e _ _ => kp a o e, fun a o e => ?_, fun a o e => .inl ⟨o, e⟩, fun a z => ?_, ok.dcb, fun a ps e => ⟨ps, kp a _ e⟩, ok.tb.ext kp⟩
      · have q := ok.sub a o e
        rw [upd_ne (ne_of_none q hx), upd_ne (ne_of_none q hdx)]
        exact q
      · obtain ⟨i, j, q⟩ := ok.dc a z
        exact ⟨i, j, by rw [upd_ne (ne_of_none q hx), upd_ne (ne_of_none q hdx)]; exact q⟩
    have hds : ∀ (i : Nat) d, ds[i]? = some d → NoIns C d := fun i d e => by
      have := (hl _ _ _ hc).2
      clear hc hT k1 hd hlen
      revert i
      induction ds with
      | nil => intro i e; simp at e
      | cons c ds ih =>
        simp only [NoInss] at this
        intro i e
        cases i with
        | zero => simp at e; rw [← e]; exact this.1
        | succ i => exact ih this.2 i (by simpa using e)
    refine hD.rd x dx Hb1 H1 (initEnds C ns Pd Fx) _ ⟨fun Hb' H' σ ns' xs r i h => ?_, fun Hb' H' c g h => k2 Hb' H' c g h⟩ Hb1 _ _ [] [] _ ⟨gg, hx, hxb, ⟨[], upd_same, rfl, dts_nil⟩, ?_, rfl, fun i s e => ?_, by simp only [NoInss]⟩ (hT ds Pd Fx hc)
    · obtain ⟨xs', r', e, hp⟩ := h
      injection e with e1 e2
      cases e1
      obtain ⟨fs, q1, q2, q3⟩ := i.hx
      exact k1 Hb' H' xs fs i.g i.xb q1 q2 q3 hp
    · unfold L2.start
      have := (hl _ _ _ hc).1
      simp [hlen]
    · have hpl := (hl _ _ _ hc).1
      by_cases hi : i < ds.length
      · rw [List.getElem?_append_left (by rw [List.length_map]; exact hi), List.getElem?_map] at e
        cases q : ds[i]? with
        | none => rw [q] at e; cases e
        | some d =>
          rw [q] at e
          cases e
          obtain ⟨v, hv, dv⟩ := hd.get q
          refine ⟨hds i d q, some v, ?_, v, rfl, dv⟩
          unfold L2.start
          rw [List.getElem?_append_left (by rw [List.length_map, List.length_cons, hlen]; omega), List.getElem?_map, List.getElem?_cons_succ, hv]
          rfl
      · rw [List.getElem?_append_right (by rw [List.length_map]; omega), List.length_map] at e
        obtain ⟨h1, h2⟩ := List.getElem?_eq_some_iff.mp e
        rw [List.getElem_replicate] at h2
        subst h2
        rw [List.length_replicate] at h1
        refine ⟨trivial, none, ?_, trivial⟩
        unfold L2.start
        rw [List.getElem?_append_right (by rw [List.length_map, List.length_cons]; omega), List.length_map, List.getElem?_replicate, List.length_cons, if_pos (by omega)]
end
end RW

/-! a look at an own list for a new one; xs[k] = e of an own list; an alias of an own list in a loop; what is never reached -/
set_option Elab.async false
set_option linter.all false
set_option maxRecDepth 100000
set_option maxHeartbeats 2000000
namespace RW
open PySem L2
open Evl (Ex fresh_back)
section
variable {X : Cx} {K : PySem.W.Frag} {Dc : Gr} {Xe : XK} {e a b c tg : Expr} {es : List Expr} {ta tb te : TE} {da db dd : TEd} {pos : Pos} {tt tu : TT} {dt du : TTd} {st : Stmt} {sts : List Stmt} {ts ts' : TS} {ds ds' : TSd}
theorem de_never (hK : X.K = K := by rfl) : DE X K Dc Xe e (fun _ _ _ => False) (fun _ _ _ => False) := ⟨hK, ⟨fun _ _ _ _ _ _ h => h.elim⟩, fun _ _ _ _ _ _ _ _ _ _ _ h _ => h.elim⟩
@[simp] def dPeekL (i : Nat) (dl : TAd) : TAd := fun sd P F => match sd[i]? with
  | some (.own es) => dl (sd.set i (.dat (.lst es))) (fun ds => tupOnlys ds = true ∧ P ds) F
  | _ => False
theorem rl_peek (i : Nat) {dl : TAd} (h : RL K Dc Xe te dl) : RL K Dc Xe te (dPeekL i dl) := by
  intro Hb0 H0 F hF Hb H σ sd P Q m hd k
  unfold dPeekL at hd
  split at hd <;> try exact hd.elim
  rename_i es e
  obtain ⟨p, vs, h1, h2, h3, h4, h5, h6, m1⟩ := m.freeze e
  refine h Hb0 H0 F hF _ H σ _ _ _ m1 hd fun Hb1 H1 q ws ds g hq hb hh dv hp => ?_
  have t : Hb1 p = some (.lst vs) := g.eb p _ upd_same
  refine k _ H1 q ws ds (Good.unsee (Hb0 := Hb0) (H0 := H0) h3 h5 g) hq ?_ hh (dv.without t (fun q hq => wo_ne hq) hp.1) hp.2
  by_cases z : q = p
  · rw [z, wo_same]
  · rw [wo_ne z]; exact hb
theorem dl_peek (i : Nat) {dl : TAd} (h : DL X K Dc Xe e te dl) : DL X K Dc Xe e te (dPeekL i dl) := ⟨h.hK, h.pe, rl_peek i h.rd⟩
/-! ### xs[k] = e -/
theorem Dts.set {Hb : Hp} : ∀ {ds : List D} {vs : List V} (j : Nat) {d : D} {v : V}, Dts K Dc Hb ds vs → Dt K Dc Hb d v → Dts K Dc Hb (ds.set j d) (vs.set j v)
  | [], _, j, d, v, h, hd => by rw [h.nil]; simpa using dts_nil
  | c :: ds, _, 0, d, v, h, hd => by
    obtain ⟨u, r, rfl, h1, h2⟩ := h.cons
    simpa using dts_cons hd h2
  | c :: ds, _, j + 1, d, v, h, hd => by
    obtain ⟨u, r, rfl, h1, h2⟩ := h.cons
    simpa using dts_cons h1 (h2.set j hd)
@[simp] def dSetIx (i : Nat) (k : Int) (dd : TEd) : TSd := fun De sd => dd sd (fun d => match sd[i]? with
  | some (.own es) => (match ixN es.length k with | some j => De.nx (sd.set i (.own (es.set j d))) | none => False)
  | _ => False) De.rs
theorem ds_setix (i : Nat) (k : Int) {x : Str} {v : Expr} {p pos' : Pos} (h : DE X K Dc Xe v te dd) (hk : PE X b (tC (.int k))) (hN : X.N[i]? = some x := by rfl) (hv : Vis X.env.scope x := by first | exact Or.inl rfl | exact Or.inr (Or.inl rfl) | exact Or.inr (Or.inr rfl))
    (hd : (x == ("__debug__" : Str)) = false := by decide) (hcd : (x == ("__classdict__" : Str)) = false := by decide)
    (hs : swapsWithSole [.Subscript (.Name x p) b pos'] v pos.line X.env = pure false := by rfl) (hw : swappedStores [.Subscript (.Name x p) b pos'] v X.env = pure none := by rfl)
    (h1 : (assignEach [.Subscript (.Name x p) b pos'] X.env).map (·.2) = [assign (.Subscript (.Name x p) b pos') X.env] := by rfl)
    (hx : ∀ v, assign (.Subscript (.Name x p) b pos') X.env v = (do
      let ov ← holding [v] (eval (.Name x p) X.env)
      let iv ← holding [v, ov] (eval b X.env)
      standAt pos'
      holding [v, ov, iv] (setItem ov iv v)
      release [v, ov, iv] []) := by intro _; rfl) : DS X K Dc Xe (.Assign [.Subscript (.Name x p) b pos'] v pos) (tAsg te (gSub (tVar i) (tC (.int k)) rSetL)) (dSetIx i k dd) :=
  ⟨h.hK, ps_asg h.pe (pg_sub (pe_var hN hv hd hcd) hk set_list hx) hs hw h1, by
    intro Hb0 H0 De E ok Hb H σ sd m hd
    refine h.rd Hb0 H0 De.rs ok.rs Hb H σ sd _ _ m hd fun Hb1 H1 v d g dv hp => ?_
    split at hp <;> try exact hp.elim
    rename_i es e
    split at hp <;> try exact hp.elim
    rename_i j ej
    obtain ⟨o, q1, q, ws, q2, q3, q4, q5, q6, q7⟩ := (m.step g).sl i _ e
    subst q2
    refine ⟨.ref q, q1, q, ws, k, j, rfl, rfl, q6, by rw [q7.length]; exact ej, ?_⟩
    exact ok.nx Hb1 _ σ _ ((m.step g).write e q1 (q7.set j dv)) hp⟩
theorem pe_neg1 {k : Nat} {p1 p2 : Pos} : PE X (.UnaryOp .USub (.Constant (.int 1) k p1) p2) (tUn (rU fun i => .int (-i)) (tC (.int 1))) := pe_un un_neg pe_int
theorem pe_m1 {k : Nat} {p1 p2 : Pos} : PE X (.UnaryOp .USub (.Constant (.int 1) k p1) p2) (tC (.int (-1))) := ⟨fun pins s σ H Q I h => pe_neg1.run pins s σ H Q I ⟨1, rfl, h⟩⟩
/-! ### a, b = [..] -/
@[simp] def dgLst (n : Nat) (u : TGsd) : TGd := fun d sd P => match d with | .lst ds => ds.length = n ∧ u ds sd P | _ => False
theorem dg_unl {k n : Nat} {tgs : TGs} {dgs : TGsd} (hc : X.calm = true) (h : DGs X K Dc es tgs dgs) (hn : (assignEach es X.env).length = n := by rfl) (hst : (assignEach es X.env).findIdx? (·.1) = none := by rfl) : DG X K Dc (.Tuple es k pos) (gUnl K n tgs) (dgLst n dgs) := by
  obtain rfl := h.hK
  exact ⟨rfl, pg_unl hc h.pe hn hst, fun Hb0 H0 Hb H σ sd d v P Q m hd hp k => by
    cases d <;> try exact hp.elim
    simp only [Dt] at hd
    obtain ⟨a, xs, rfl, h1, h2⟩ := hd
    exact ⟨a, xs, rfl, SqL.of (m.g.sub _ _ h1), by rw [h2.length]; exact hp.1, h.rd Hb0 H0 Hb H σ sd _ xs P Q m h2 hp.2 k⟩⟩
/-! ### a, b, c = x, [..], [..], the lists to be written further -/
@[simp] def dPar3L (i j l : Nat) (da : TEd) (db dc : TAd) : TSd := fun De sd => da sd (fun x => db sd (fun ys => dc sd (fun zs => De.nx (((sd.set i (.dat x)).set j (.own ys)).set l (.own zs))) De.rs) De.rs) De.rs
theorem ds_par3L (i j l : Nat) {x y z : Str} {tc : TE} {dlb dlc : TAd} {px py pz pt : Pos} {kt k2 pt2} (hc : X.calm = true) (hN : X.N.Nodup) (h1 : DE X K Dc Xe a ta da) (h2 : DL X K Dc Xe b tb dlb) (h3 : DL X K Dc Xe c tc dlc) (hi : X.N[i]? = some x := by rfl) (hj : X.N[j]? = some y := by rfl) (hl : X.N[l]? = some z := by rfl) (hij : i ≠ j := by decide) (hil : i ≠ l := by decide) (hjl : j ≠ l := by decide)
    (hx : X.env.scope.names.lookup x = some .local := by rfl) (hy : X.env.scope.names.lookup y = some .local := by rfl) (hz : X.env.scope.names.lookup z = some .local := by rfl)
    (q1 : starEach [a, b, c] X.env = (false, eval a X.env) :: starEach [b, c] X.env := by rfl) (q2 : starEach [b, c] X.env = (false, eval b X.env) :: starEach [c] X.env := by rfl) (q3 : starEach [c] X.env = (false, eval c X.env) :: starEach [] X.env := by rfl)
    (hw : swappedStores [.Tuple [.Name x px, .Name y py, .Name z pz] kt pt] (.Tuple [a, b, c] k2 pt2) X.env = pure (some [x, y, z]) := by rfl)
    (hs : swapsWithSole [.Tuple [.Name x px, .Name y py, .Name z pz] kt pt] (.Tuple [a, b, c] k2 pt2) pos.line X.env = pure false := by rfl) :
    DS X K Dc Xe (.Assign [.Tuple [.Name x px, .Name y py, .Name z pz] kt pt] (.Tuple [a, b, c] k2 pt2) pos) (tPar3 i j l (tCons ta (tCons tb (tCons tc tNil)))) (dPar3L i j l da dlb dlc) := ⟨h1.hK, ps_par3 hc hN hi hj hl hij hil hjl hx hy hz (pa_cons h1.pe (pa_cons h2.pe (pa_cons h3.pe pa_nil q3) q2) q1) hw hs, by
  intro Hb0 H0 De E ok Hb H σ sd m hd
  refine h1.rd Hb0 H0 De.rs ok.rs Hb H σ sd _ _ m hd fun Hb1 H1 v d g1 dv hp => ?_
  refine h2.rd Hb0 H0 De.rs ok.rs Hb1 H1 σ sd _ _ (m.step g1) hp fun Hb2 H2 p vs ys g2 hp2 hb2 hh2 dv2 hq => ?_
  refine h3.rd Hb0 H0 De.rs ok.rs Hb2 H2 σ sd _ _ ((m.step g1).step g2) hq fun Hb3 H3 q ws zs g3 hp3 hb3 hh3 dv3 hr => ?_
  have m1 := (m.step g1).set (i := i) dv
  have m2 := m1.setOwn (i := j) g2 hp2 hb2 hh2 dv2
  have m3 := m2.setOwn (i := l) g3 hp3 hb3 hh3 dv3
  exact ⟨v, .ref p, .ref q, rfl, ok.nx Hb3 H3 _ _ m3 hr⟩⟩
/-! ### s = a if t else b; for x in ..: s.append(e) -/
def alJ (a b : Nat) (c : Bool) : Nat := if c = true then a else b
def dAlFor (dt : TTd) (a b s pl : Nat) (di : TAd) (de : TEd) : TSd := fun De sd => dt sd (fun c => s < sd.length ∧ match sd[alJ a b c]? with
  | some (.own _) => di (sd.set s .un) (fun xs => ∃ I : Nat → Sd → Prop, I 0 (sd.set s .un) ∧
    (∀ i d sd', xs[i]? = some d → I i sd' → (match sd'[alJ a b c]? with
      | some (.own ds) => de (sd'.set pl (.dat d)) (fun e => ds.length < 100000 ∧ I (i + 1) ((sd'.set pl (.dat d)).set (alJ a b c) (.own (ds ++ [e])))) De.rs
      | _ => False)) ∧ ∀ sd', I xs.length sd' → De.nx sd') De.rs
  | _ => False) De.rs
theorem rs_alFor {wi : TI} {di : TAd} {a b s pl : Nat} (hsa : s ≠ a) (hsb : s ≠ b) (hpa : pl ≠ a) (hpb : pl ≠ b) (hps : pl ≠ s) (hc : RT K Dc Xe tt dt) (hi : RI K Dc Xe wi di) (he : RE K Dc Xe te dd) :
    RS K Dc Xe (tSeq (tAsg (tIf tt (tVar a) (tVar b)) (gName s)) (tFor wi (gName pl) (tDrop (tBM K "list" rAppend (tVar s) (tCons te tNil))))) (dAlFor dt a b s pl di dd) := by
  intro Hb0 H0 De E ok Hb H σ sd m hd
  refine hc Hb0 H0 De.rs ok.rs Hb H σ sd _ _ m hd fun Hb1 H1 cc g1 hd1 => ?_
  obtain ⟨j, hj⟩ : ∃ j, j = alJ a b cc := ⟨_, rfl⟩
  rw [← hj] at hd1
  have hsj : s ≠ j := by rw [hj]; unfold alJ; split <;> assumption
  have hpj : pl ≠ j := by rw [hj]; unfold alJ; split <;> assumption
  obtain ⟨hsl, hd1⟩ := hd1
  have hsl : s < σ.length := by rw [m.len]; exact hsl
  split at hd1 <;> try exact hd1.elim
  rename_i ds0 e0
  have m1 := m.step g1
  obtain ⟨o, q1, p, vs, q2, _⟩ := m1.sl j _ e0
  subst q2
  have key : tFor wi (gName pl) (tDrop (tBM K "list" rAppend (tVar s) (tCons te tNil))) E (σ.set s (some (.ref p))) H1 := by
    have m2 : M K Dc Hb0 H0 Hb1 H1 (σ.set s (some (.ref p))) (sd.set s .un) := m1.unset
    have k1 : (σ.set s (some (.ref p)))[s]? = some (some (.ref p)) ∧ (σ.set s (some (.ref p)))[j]? = some (some (.ref p)) := ⟨List.getElem?_set_self hsl, by rw [List.getElem?_set_ne hsj]; exact q1⟩
    refine hi Hb0 H0 De.rs ok.rs Hb1 H1 _ _ _ _ m2 hd1 fun Hb2 H2 J xs g2 wk hp => ?_
    obtain ⟨I, i0, turn, fin⟩ := hp
    have m3 := m2.step g2
    have e01 : Ex Hb0 Hb2 := m2.g.eb.trans g2.eb
    have d01 : ∀ a o, Hb2 a = some o → (∃ o', Hb0 a = some o') ∨ Fr0 H0 a := m3.g.dom
    refine ⟨fun i mm σ' H' => ∃ Hb' sd', M K Dc Hb2 H0 Hb' H' σ' sd' ∧ (σ'[s]? = some (some (.ref p)) ∧ σ'[j]? = some (some (.ref p))) ∧ i ≤ xs.length ∧ mm = xs.length - i ∧ I i sd', ⟨xs.length, Hb2, _, m3.lift e01 (Ex.refl _), k1, Nat.zero_le _, rfl, i0⟩, ?_⟩
    rintro i mm σ' H' ⟨Hb', sd', m', ⟨a1, a2⟩, hi', rfl, inv⟩
    obtain ⟨w1, w2⟩ := wk Hb' H' m'.g.ok m'.g.eb
    by_cases hlt : i < xs.length
    · obtain ⟨go, yl⟩ := w1 i xs[i] (by simp [hlt])
      refine .inr ⟨go, fun σ2 H2 => ∃ Hb2' sd2, M K Dc Hb2 H0 Hb2' H2 σ2 sd2 ∧ (σ2[s]? = some (some (.ref p)) ∧ σ2[j]? = some (some (.ref p))) ∧ I (i + 1) sd2, fun σ2 H2 ⟨Hb2', sd2, z1, z2, z4⟩ => ⟨xs.length - (i + 1), by omega, Hb2', sd2, z1, z2, hlt, rfl, z4⟩, fun x H3 y => ?_⟩
      obtain ⟨Hb3, g3, dx⟩ := yl x H3 y
      have tn := turn i xs[i] sd' (by simp [hlt]) inv
      split at tn <;> try exact tn.elim
      rename_i ds e
      have m4 := (m'.step g3).set (i := pl) dx
      have b1 : (σ'.set pl (some x))[s]? = some (some (.ref p)) := by rw [List.getElem?_set_ne hps]; exact a1
      have b2 : (σ'.set pl (some x))[j]? = some (some (.ref p)) := by rw [List.getElem?_set_ne hpj]; exact a2
      have e' : (sd'.set pl (.dat xs[i]))[j]? = some (.own ds) := by rw [List.getElem?_set_ne hpj]; exact e
      obtain ⟨o, h1, p', vs', h2, h3, h4, h5, h6, h7⟩ := m4.sl j _ e'
      rw [b2] at h1
      cases h1
      cases h2
      refine ⟨.ref p, b1, .inl ⟨rfl, _, SqL.of h6⟩, ?_⟩
      refine he Hb2 H0 De.rs (fun Hb H c g h => ok.rs Hb H c (g.down e01 d01) h) Hb3 H3 _ _ _ _ m4 tn fun Hb4 H4 v d g4 dv hp4 => ?_
      have m5 := m4.step g4
      refine ⟨p, vs', v, rfl, rfl, g4.eh _ _ h6 h5 (fun _ h => nomatch h), Evl.sz_lt (by rw [h7.length]; exact hp4.1), ?_⟩
      exact ⟨Hb4, _, m5.write e' b2 ((h7.mono g4.eb).append (dts_cons dv dts_nil)), ⟨b1, b2⟩, hp4.2⟩
    · have e : i = xs.length := by omega
      subst e
      exact .inl ⟨w2, ok.nx Hb' H' σ' sd' (m'.down e01 d01) (fin sd' inv)⟩
  cases cc with
  | true => exact ⟨.ref p, by rw [show a = j from hj.symm]; exact q1, key⟩
  | false => exact ⟨.ref p, by rw [show b = j from hj.symm]; exact q1, key⟩
theorem dss_alFor (a b s pl : Nat) {xa xb xs xp : Str} {elt iter : Expr} {wi : TI} {di : TAd} {pa pb ps pp p1 p2 p3 p4 p5 p6 p7 : Pos} (cx : Ctx X Xe) (hN : X.N.Nodup) (hc : DT X K Dc Xe c tt dt) (hi : DI X K Dc Xe (.Name xp pp) iter wi di) (he : DE X K Dc Xe elt te dd)
    (na : X.N[a]? = some xa := by rfl) (nb : X.N[b]? = some xb := by rfl) (ns : X.N[s]? = some xs := by rfl) (np : X.N[pl]? = some xp := by rfl)
    (va : Vis X.env.scope xa := by exact Or.inl rfl) (vb : Vis X.env.scope xb := by exact Or.inl rfl) (vs : Vis X.env.scope xs := by exact Or.inl rfl)
    (ls : Loc X.env.scope xs := by exact Or.inl rfl) (lp : Loc X.env.scope xp := by exact Or.inl rfl)
    (fs : X.fn xs = true ∨ X.env.scope.names.lookup xs = some .local := by first | exact .inl rfl | exact .inr rfl) (fp : X.fn xp = true ∨ X.env.scope.names.lookup xp = some .local := by first | exact .inl rfl | exact .inr rfl)
    (ha1 : (xa == ("__debug__" : Str)) = false := by decide) (ha2 : (xa == ("__classdict__" : Str)) = false := by decide)
    (hb1 : (xb == ("__debug__" : Str)) = false := by decide) (hb2 : (xb == ("__classdict__" : Str)) = false := by decide)
    (hs1 : (xs == ("__debug__" : Str)) = false := by decide) (hs2 : (xs == ("__classdict__" : Str)) = false := by decide)
    (hsa : s ≠ a := by decide) (hsb : s ≠ b := by decide) (hpa : pl ≠ a := by decide) (hpb : pl ≠ b := by decide) (hps : pl ≠ s := by decide)
    (hsw : swapsWith (.IfExp c (.Name xa pa) (.Name xb pb) p1) (some (.Name xs ps)) p2.line X.env = pure false := by rfl)
    (hst : starEach [elt] X.env = (false, eval elt X.env) :: starEach [] X.env := by rfl)
    (hsx : swapsWith (.Call (.Attribute (.Name xs p3) "append" p4) [elt] [] p5) none p6.line X.env = pure false := by rfl)
    (pe : PE X (.Name xs p3) (tVar s) → PA X [elt] (tCons te tNil) → PE X (.Call (.Attribute (.Name xs p3) "append" p4) [elt] [] p5) (tBM X.K "list" rAppend (tVar s) (tCons te tNil)) := by
      intro h1 h2; exact pe_bm PySem.F.plainAttrs_list PySem.F.slot_list_append PySem.F.type_list_append mt_append h1 h2)
    (hit : ∀ x, foldedSetIterable iter X.env x = pure x := by intro _; rfl) :
    DSs X K Dc Xe [.Assign [.Name xs ps] (.IfExp c (.Name xa pa) (.Name xb pb) p1) p2, .For (.Name xp pp) iter [.Expr (.Call (.Attribute (.Name xs p3) "append" p4) [elt] [] p5) p6] [] p7]
      (tSeq (tAsg (tIf tt (tVar a) (tVar b)) (gName s)) (tFor wi (gName pl) (tDrop (tBM K "list" rAppend (tVar s) (tCons te tNil))))) (dAlFor dt a b s pl di dd) := by
  obtain rfl := hc.hK
  exact ⟨rfl, pss_cons (ps_set hN ns ls (pe_ifExp hc.pe (pe_var na va ha1 ha2) (pe_var nb vb hb1 hb2)) hsw fs) (pss_one (ps_for cx.own cx.calm hi.pe (pg_name hN np lp fp) (pss_one (ps_expr (pe (pe_var ns vs hs1 hs2) (pa_cons he.pe pa_nil hst)) hsx)) hit)),
    rs_alFor hsa hsb hpa hpb hps hc.rd hi.rd he.rd⟩
/-! ### statements one by one -/
theorem set_to {i : Nat} {u : TSd} {De : DEnds} {sd : Sd} (d0 : D) (hd : ∀ Pd : D → Prop, Pd d0 → dd sd Pd De.rs) (h : u De (sd.set i (.dat d0))) : dSeq (dAsg dd (dgName i)) u De sd := hd _ h
theorem all_to {α : Type} {i : Nat} {u : TSd} {De : DEnds} {sd : Sd} (f : α → D) (ok : α → Prop) (hd : ∀ Pd : D → Prop, (∀ a, ok a → Pd (f a)) → dd sd Pd De.rs) (h : ∀ a, ok a → u De (sd.set i (.dat (f a)))) : dSeq (dAsg dd (dgName i)) u De sd := hd _ h
theorem par_to {i j : Nat} {dr : TAd} {u : TSd} {De : DEnds} {sd : Sd} (d1 d2 : D) (hd : ∀ Pd : List D → Prop, Pd [d1, d2] → dr sd Pd De.rs) (h : u De ((sd.set i (.dat d1)).set j (.dat d2))) : dSeq (dPar i j dr) u De sd := hd _ h
theorem par3_to {i j l : Nat} {dr : TAd} {u : TSd} {De : DEnds} {sd : Sd} (d1 d2 d3 : D) (hd : ∀ Pd : List D → Prop, Pd [d1, d2, d3] → dr sd Pd De.rs) (h : u De (((sd.set i (.dat d1)).set j (.dat d2)).set l (.dat d3))) : dSeq (dPar3 i j l dr) u De sd := hd _ h
theorem par_all {α : Type} {i j : Nat} {dr : TAd} {u : TSd} {De : DEnds} {sd : Sd} (f g : α → D) (ok : α → Prop) (hd : ∀ Pd : List D → Prop, (∀ a, ok a → Pd [f a, g a]) → dr sd Pd De.rs) (h : ∀ a, ok a → u De ((sd.set i (.dat (f a))).set j (.dat (g a)))) : dSeq (dPar i j dr) u De sd := hd _ h
theorem set_to' {i : Nat} {u : TSd} {De : DEnds} {sd sd' : Sd} (d0 : D) (hd : ∀ Pd : D → Prop, Pd d0 → dd sd Pd De.rs) (e : sd.set i (.dat d0) = sd') (h : u De sd') : dSeq (dAsg dd (dgName i)) u De sd := hd _ (by show u De _; rw [e]; exact h)
theorem par_to' {i j : Nat} {dr : TAd} {u : TSd} {De : DEnds} {sd sd' : Sd} (d1 d2 : D) (hd : ∀ Pd : List D → Prop, Pd [d1, d2] → dr sd Pd De.rs) (e : (sd.set i (.dat d1)).set j (.dat d2) = sd') (h : u De sd') : dSeq (dPar i j dr) u De sd := hd _ (by show u De _; rw [e]; exact h)
theorem par_all' {α : Type} {i j : Nat} {dr : TAd} {u : TSd} {De : DEnds} {sd : Sd} {sd' : α → Sd} (f g : α → D) (ok : α → Prop) (hd : ∀ Pd : List D → Prop, (∀ a, ok a → Pd [f a, g a]) → dr sd Pd De.rs) (e : ∀ a, (sd.set i (.dat (f a))).set j (.dat (g a)) = sd' a) (h : ∀ a, ok a → u De (sd' a)) : dSeq (dPar i j dr) u De sd := hd _ (fun a ha => by show u De _; rw [e]; exact h a ha)
theorem for_seq {di : TAd} {dg : TGd} {db u : TSd} {De : DEnds} {sd : Sd} (h : di sd (fun xs => ∃ I : Nat → Sd → Prop, I 0 sd ∧ (∀ i d sd', xs[i]? = some d → I i sd' → dg d sd' (fun sd2 => db ⟨I (i + 1), De.rt, u De, I (i + 1), De.rs⟩ sd2)) ∧ (∀ sd', I xs.length sd' → u De sd')) De.rs) : dSeq (dFor di dg db) u De sd := h
theorem if_no {t u : TSd} {De : DEnds} {sd : Sd} (hd : ∀ Pb : Bool → Prop, Pb false → dt sd Pb De.rs) (h : u De sd) : dSeq (dIfS dt t dNext) u De sd := hd _ h
theorem if_noE {t : TSd} {De : DEnds} {sd : Sd} (hd : ∀ Pb : Bool → Prop, Pb false → dt sd Pb De.rs) (h : De.nx sd) : dIfS dt t dNext De sd := hd _ h
theorem if_noN {t : TSd} {nx bk ct : Sd → Prop} {rt : D → Prop} {rs : XF} {sd : Sd} (hd : ∀ Pb : Bool → Prop, Pb false → dt sd Pb rs) (h : nx sd) : dIfS dt t dNext ⟨nx, rt, bk, ct, rs⟩ sd := hd _ h
theorem if_case {t e u : TSd} {De : DEnds} {sd : Sd} (b : Bool) (hd : ∀ Pb : Bool → Prop, Pb b → dt sd Pb De.rs) (h1 : b = true → t { De with nx := u De } sd) (h2 : b = false → e { De with nx := u De } sd) : dSeq (dIfS dt t e) u De sd := hd _ (by
  cases b
  · exact h2 rfl
  · exact h1 rfl)
theorem if_caseE {t e : TSd} {De : DEnds} {sd : Sd} (b : Bool) (hd : ∀ Pb : Bool → Prop, Pb b → dt sd Pb De.rs) (h1 : b = true → t De sd) (h2 : b = false → e De sd) : dIfS dt t e De sd := hd _ (by
  cases b
  · exact h2 rfl
  · exact h1 rfl)
/-- a test «x != d» that does not hold, «x == d» that does -/
theorem ne_no {sd : Sd} {F : XF} {Pb : Bool → Prop} (d0 : D) (hs : shp d0) (ha : ∀ Pd : D → Prop, Pd d0 → da sd Pd F) (hb : ∀ Pd : D → Prop, Pd d0 → db sd Pd F) (h : Pb false) : dTest (dOp dNe da db) sd Pb F :=
  ha _ (hb _ ⟨hs, hs, by
    have e : (!PyData.eqv (toPy d0) (toPy d0)) = false := by rw [PySem.SeqAt.eqv_refl _ (SeqAt.canLay_of_shaped hs)]; rfl
    rw [e]
    exact h⟩)
theorem eq_yes {sd : Sd} {F : XF} {Pb : Bool → Prop} (d0 : D) (hs : shp d0) (ha : ∀ Pd : D → Prop, Pd d0 → da sd Pd F) (hb : ∀ Pd : D → Prop, Pd d0 → db sd Pd F) (h : Pb true) : dTest (dOp dEq da db) sd Pb F :=
  ha _ (hb _ ⟨hs, hs, by
    have e : PyData.eqv (toPy d0) (toPy d0) = true := PySem.SeqAt.eqv_refl _ (SeqAt.canLay_of_shaped hs)
    rw [e]
    exact h⟩)
theorem or_no {sd : Sd} {F : XF} {Pb : Bool → Prop} (h1 : ∀ Pb : Bool → Prop, Pb false → dt sd Pb F) (h2 : ∀ Pb : Bool → Prop, Pb false → du sd Pb F) (h : Pb false) : dOr dt du sd Pb F := h1 _ (h2 _ h)
theorem and_no1 {sd : Sd} {F : XF} {Pb : Bool → Prop} (h1 : ∀ Pb : Bool → Prop, Pb false → dt sd Pb F) (h : Pb false) : dAnd dt du sd Pb F := h1 _ h
theorem and_no2 {sd : Sd} {F : XF} {Pb : Bool → Prop} (h1 : ∀ Pb : Bool → Prop, Pb true → dt sd Pb F) (h2 : ∀ Pb : Bool → Prop, Pb false → du sd Pb F) (h : Pb false) : dAnd dt du sd Pb F := h1 _ (h2 _ h)
theorem and_b {sd : Sd} {F : XF} {Pb : Bool → Prop} (b : Bool) (h1 : ∀ Pb : Bool → Prop, Pb true → dt sd Pb F) (h2 : ∀ Pb : Bool → Prop, Pb b → du sd Pb F) (h : Pb b) : dAnd dt du sd Pb F := h1 _ (h2 _ h)
theorem notN_no {sd : Sd} {F : XF} {Pb : Bool → Prop} (h1 : ∀ Pd : D → Prop, Pd .non → dd sd Pd F) (h : Pb false) : dTest (dUn (fun x P => P (.bl (!isNon x))) dd) sd Pb F := h1 _ h
theorem not_no {sd : Sd} {F : XF} {Pb : Bool → Prop} (h1 : ∀ Pb : Bool → Prop, Pb true → dt sd Pb F) (h : Pb false) : dNot dt sd Pb F := h1 _ h
theorem val_yes {sd : Sd} {F : XF} {Pb : Bool → Prop} (b : Bool) (h1 : ∀ Pd : D → Prop, Pd (.bl b) → dd sd Pd F) (h : Pb b) : dTest dd sd Pb F := h1 _ h
end
end RW

/-! of RWDesk2, RWWorld3, without the worlds: a call within an __init__; a method without arguments -/
set_option Elab.async false
set_option linter.all false
set_option maxRecDepth 100000
set_option maxHeartbeats 2000000
namespace RW
open PySem L2
open Evl (Ex fresh_back)
section
variable {X : Cx} {K : PySem.W.Frag} {Dc : Gr} {Xe : XK} {C : Addr} {ns : List Str} {e : Expr} {te : TE} {dd : TEd} {pos : Pos}
theorem din_expr (h : DE X K Dc Xe e te dd) (hs : swapsWith e none pos.line X.env = pure false := by rfl) : DIn X K Dc Xe C (.Expr e pos) (tDrop te) (fun De sd => dd sd (fun _ => De.nx sd) De.rs) := ⟨h.hK, ps_expr h.pe hs, by
  intro x dx Hb1 H1 De E ok Hb H σ ns xs r im hd
  obtain ⟨fs, q1, q2, q3, m⟩ := im.m
  exact h.rd _ H De.rs (ok.rs.im im) _ H σ _ _ _ m hd fun Hb2 H2 v d g dv hp => ok.nx _ _ _ _ _ _ (im.back q1 q2 q3 g) hp⟩
/-- a method without arguments that leaves its instance as it is -/
theorem de_meth0 {k : Nat} {m : Str} {ps : List Str} {Ct : Ctr} {apos : Pos} {pl : Sem Bool} (cx : Ctx X Xe) (hc : Cls K C) (hi : ixOf m ns = none) (M : MtD X.prog X.w K X.mg X.base k C m ps Ct) (hr : Room k X.A) (he : DE X K Dc Xe e te dd)
    (ht : eval (.Call (.Attribute e m apos) [] [] pos) X.env = (do
      let ov ← eval e X.env
      standAt apos.atName
      let (f, first) ← holding [ov] (getMethod ov m pl)
      callWith pos f first (backTo pos (starEach [] X.env)) (backToKw pos (keywordEach [] X.env))) := by rfl) :
    DE X K Dc Xe (.Call (.Attribute e m apos) [] [] pos) (tMeth C m (spD K Ct) [] Xe te tNil) (dMeth C ns Ct dd dNil) := by
  obtain rfl := he.hK
  obtain ⟨f, fd, F, hm, hb⟩ := M.ex
  exact ⟨rfl, pe_meth0 (pl := pl) he.pe hc hm F hr hb .nil cx.pass ht, re_meth hi he.rd ra_nil⟩
end
end RW

/-! the mirror of likeness.py, backs.py and the rest of forms.py -/
set_option Elab.async false
set_option linter.all false
set_option maxRecDepth 100000
set_option maxHeartbeats 2000000
set_option exponentiation.threshold 20000
namespace RW
/-- what holds of a result, if there is one -/
def Po {α : Type} (m : Mo α) (Q : α → Prop) : Prop := ∀ a, m = .ok a → Q a
theorem po_bind {α β : Type} {m : Mo α} {f : α → Mo β} {Q : β → Prop} (h : Po m fun a => Po (f a) Q) : Po (m >>= f) Q := fun b e => by
  cases q : m with
  | ok a => rw [q] at e; exact h a q b e
  | error er => rw [q] at e; cases e
theorem po_pure {α : Type} {a : α} {Q : α → Prop} (h : Q a) : Po (pure a) Q := fun b e => by cases e; exact h
theorem po_ok {α : Type} {a : α} {Q : α → Prop} (h : Q a) : Po (.ok a) Q := fun b e => by cases e; exact h
theorem po_err {α : Type} {e : Er} {Q : α → Prop} : Po (.error e) Q := fun b e => by cases e
theorem po_ite {α : Type} {c : Prop} [Decidable c] {a b : Mo α} {Q : α → Prop} (h1 : c → Po a Q) (h2 : ¬ c → Po b Q) : Po (if c then a else b) Q := by
  by_cases h : c
  · rw [if_pos h]; exact h1 h
  · rw [if_neg h]; exact h2 h
theorem po_true {α : Type} {m : Mo α} {Q : α → Prop} (h : ∀ a, Q a) : Po m Q := fun a _ => h a
theorem Po.mono {α : Type} {m : Mo α} {Q R : α → Prop} (h : Po m Q) (k : ∀ a, Q a → R a) : Po m R := fun a e => k a (h a e)
def rabs (q : Rat) : Rat := if q < 0 then -q else q
def cmul (p q : Rat) : Rat := Rat.divInt ((p.num * q.num).fdiv (Int.gcd p.num q.num : Int)) ((Int.gcd (p.den : Int) (q.den : Int) : Nat) : Int)
def commonM (p q : Rat) : Mo Rat := if (Sz 2000 p ∧ Sz 2000 q) ∧ p ≠ 0 then .ok (cmul p q) else .error .big
def toldW : Fm → Wv
  | .line s a => ⟨s, 1, s, [⟨0, a, a⟩]⟩
  | .wave W => W
def heldAtM (W : Wv) (spot : Rat) : Nat → Mo Nat
  | 0 => do
    let q ← atM W.places 0
    let l ← lessM spot q.p
    if l then .error .big else pure 0
  | n + 1 => do
    let q ← atM W.places (n + 1)
    let l ← lessM spot q.p
    if l then heldAtM W spot n else pure (n + 1)
def hereHM (W : Wv) (q : Pl) (spot : Rat) : Mo Rat := if q.p = spot then pure q.v else (do
  let t ← timesM W.slope spot
  plusM t q.a)
def heldEndM (W : Wv) (turn : Int) (spot : Rat) (n : Nat) : Mo (Rat × Rat) := do
  let q ← atM W.places n
  let here ← hereHM W q spot
  let g ← timesM (turn : Rat) W.gain
  let v ← plusM here g
  let dr ← driftM W turn
  let a ← plusM q.a dr
  pure (v, a)
def heldM (W : Wv) (x : Rat) : Mo (Rat × Rat) := do
  let q0 ← atM W.places 0
  let d ← minusM x q0.p
  let z ← overM d W.period
  let turn ← floorM z
  let f ← timesM (turn : Rat) W.period
  let spot ← minusM x f
  let n ← heldAtM W spot (W.places.length - 1)
  heldEndM W turn spot n
def risesOneM (W : Wv) (i : Nat) (ok : Bool) : Mo Bool := if ok then (do
    let q ← atM W.places i
    let before ← beforeM W i
    let t ← timesM W.slope q.p
    let left ← plusM t before
    let t2 ← timesM W.slope q.p
    let right ← plusM t2 q.a
    let l ← lessM q.v left
    if l then pure false else (do
      let r ← lessM right q.v
      pure !r)) else pure false
def risesM (f : Fm) : Mo Bool := if (toldW f).slope.num < 0 then pure false else iterE (risesOneM (toldW f)) (toldW f).places.length true
structure Pr where
  one : Wv
  two : Wv
  period : Rat
  end_ : Rat
  cuts : List Rat
  alike : Bool
def manyOfM (e : Rat) (W : Wv) : Mo Int := do
  let l ← isLineM W
  if l then pure 0 else (do
    let z ← overM e W.period
    if z.num.natAbs < 2 ^ 400 ∧ W.places.length < 2 ^ 50 then pure (z.num * (W.places.length : Int)) else .error .big)
def placeOneM (W : Wv) (t : Nat) (i : Nat) (acc : List Rat) : Mo (List Rat) := do
  let q ← atM W.places i
  let f ← timesM (t : Rat) W.period
  let p ← plusM q.p f
  if 100000 ≤ acc.length then .error .big else pure (acc ++ [p])
def placesTurnM (W : Wv) (t : Nat) (found : List Rat) : Mo (List Rat) := do
  let row ← iterE (placeOneM W t) W.places.length []
  if 100000 < found.length + row.length then .error .big else pure (found ++ row)
def turnsM (e : Rat) (W : Wv) : Mo Nat := do
  let l ← isLineM W
  if l then pure 0 else (do
    let z ← overM e W.period
    if z.num.natAbs < 2 ^ 50 then pure z.num.toNat else .error .big)
def placesOfM (e : Rat) (W : Wv) : Mo (List Rat) := do
  let n ← turnsM e W
  iterE (placesTurnM W) n []
def pairM (c d : List Step) (turns : Nat) : Mo Pr := do
  let f ← formM c
  let g ← formM d
  let period ← commonM (toldW f).period (toldW g).period
  let e ← timesM (turns : Rat) period
  let n1 ← manyOfM e (toldW f)
  let n2 ← manyOfM e (toldW g)
  if 2000 < n1 + n2 then .error .many else (do
    let p1 ← placesOfM e (toldW f)
    let p2 ← placesOfM e (toldW g)
    if 99990 < p1.length + p2.length then .error .big else (do
      let cs ← inSeqM ([0] ++ p1 ++ p2)
      if 99990 < cs.length then .error .big else (do
        let og ← overM (toldW f).gain (toldW f).period
        let tg ← overM (toldW g).gain (toldW g).period
        pure ⟨toldW f, toldW g, period, e, cs ++ [e], decide (og = tg)⟩)))
def gapAtM (P : Pr) (x : Rat) : Mo Rat := do
  let a ← heldM P.one x
  let b ← heldM P.two x
  minusM a.1 b.1
def gapBehindM (P : Pr) (x : Rat) : Mo (Rat × Rat) := do
  let s ← minusM P.one.slope P.two.slope
  let a ← heldM P.one x
  let b ← heldM P.two x
  let t ← minusM a.2 b.2
  pure (s, t)
def unlikeSM (s a low high : Rat) : Mo (List (Rat × Rat)) := do
  let n ← minusM 0 a
  let root ← overM n s
  let l ← lessM low root
  if l then (do
    let r ← lessM root high
    if r then pure [(low, root), (root, high)] else pure [(low, high)]) else pure [(low, high)]
def unlikeInM (P : Pr) (low high : Rat) : Mo (List (Rat × Rat)) := do
  let g ← gapBehindM P low
  if g.1 = 0 then pure (if g.2 = 0 then [] else [(low, high)]) else unlikeSM g.1 g.2 low high
def shareOneM (us : List (Rat × Rat)) (j : Nat) (acc : Rat) : Mo Rat := do
  let u ← atM us j
  let d ← minusM u.2 u.1
  plusM acc d
def shareTurnM (P : Pr) (i : Nat) (acc : Rat) : Mo Rat := do
  let lo ← atM P.cuts i
  let hi ← atM P.cuts (i + 1)
  let us ← unlikeInM P lo hi
  iterE (shareOneM us) us.length acc
def shareM (c d : List Step) : Mo Rat := do
  let P ← pairM c d 1
  if P.alike then (do
    let z ← iterE (shareTurnM P) (P.cuts.length - 1) 0
    overM z P.period) else pure 1
def gapLineM (s a x : Rat) : Mo Rat := do
  let t ← timesM s x
  let z ← plusM t a
  pure (rabs z)
def gapTurnM (P : Pr) (i : Nat) (acc : List Rat × List Rat) : Mo (List Rat × List Rat) := do
  let lo ← atM P.cuts i
  let hi ← atM P.cuts (i + 1)
  let g ← gapBehindM P lo
  let z ← gapAtM P lo
  if 99000 ≤ acc.1.length ∨ 99000 ≤ acc.2.length then .error .big
  else if g.1 = 0 then (do
    let u ← gapLineM g.1 g.2 lo
    pure (acc.1 ++ [rabs z] ++ [u], acc.2))
  else (do
    let u ← gapLineM g.1 g.2 lo
    let v ← gapLineM g.1 g.2 hi
    pure (acc.1 ++ [rabs z], acc.2 ++ [u] ++ [v]))
def lastM {α : Type} (xs : List α) : Mo α := atM xs (xs.length - 1)
def gapM (c d : List Step) : Mo (Option (Rat × Bool)) := do
  let P ← pairM c d 1
  if P.alike then (do
    let z ← iterE (gapTurnM P) (P.cuts.length - 1) ([], [])
    if 100000 < z.1.length + z.2.length then .error .big else (do
      let s ← inSeqM (z.1 ++ z.2)
      let m ← lastM s
      pure (some (m, decide (m ∈ z.1))))) else pure none
/-- the first fraction between by its bottom -/
def simpM (low high : Rat) : Nat → Nat → Mo (Int × Int)
  | 0, _ => .error .big
  | fuel + 1, b => do
    let t ← timesM low (b : Rat)
    let f ← floorM t
    if (f + 1).natAbs < 2 ^ 4000 ∧ b < 2 ^ 4000 ∧ Sz 4000 high then
      (if (f + 1) * (high.den : Int) < high.num * (b : Int) then pure (f + 1, (b : Int)) else simpM low high fuel (b + 1))
    else .error .big
def simplestM (low high : Rat) : Mo (Int × Int) := simpM low high ((1 / (high - low)).floor.toNat + 2) 1
def partOneM (us : List (Rat × Rat)) (j : Nat) (acc : List (Int × Int)) : Mo (List (Int × Int)) := do
  let u ← atM us j
  let z ← simplestM u.1 u.2
  if 100000 ≤ acc.length then .error .big else pure (acc ++ [z])
def partLowM (P : Pr) (lo : Rat) : Mo (List (Int × Int)) := do
  let g ← gapAtM P lo
  pure (if g = 0 then [] else [(lo.num, (lo.den : Int))])
def partZsM (P : Pr) (lo hi : Rat) : Mo (List (Int × Int)) := do
  let us ← unlikeInM P lo hi
  let zs ← iterE (partOneM us) us.length []
  if 1000 < zs.length then .error .big else pure zs
def partRowM (P : Pr) (lo hi : Rat) (acc : List (Int × Int)) : Mo (List (Int × Int)) := do
  let r ← partLowM P lo
  let zs ← partZsM P lo hi
  pure (acc ++ r ++ zs)
def partTurnM (P : Pr) (i : Nat) (acc : List (Int × Int)) : Mo (List (Int × Int)) := do
  let lo ← atM P.cuts i
  let hi ← atM P.cuts (i + 1)
  if 90000 ≤ acc.length then .error .big else partRowM P lo hi acc
/-- the pairs of parting -/
def partsM (c d : List Step) : Mo (List (Int × Int)) := do
  let P ← pairM c d 2
  iterE (partTurnM P) (P.cuts.length - 1) []
/-! ### backs -/
def pieceOneM (W : Wv) (i : Nat) (acc : List (Rat × Rat × Rat)) : Mo (List (Rat × Rat × Rat)) := do
  let q ← atM W.places i
  let e ← endM W.places W.period i
  if 99990 ≤ acc.length then .error .big else pure (acc ++ [(q.p, q.p, q.v)] ++ [(q.p, e, q.a)])
def piecesM (W : Wv) : Mo (List (Rat × Rat × Rat)) := iterE (pieceOneM W) W.places.length []
def turnOfM (gain number goal : Rat) : Mo (Option Int) := if gain = 0 then pure (if number = goal then some 0 else none) else (do
  let d ← minusM goal number
  let z ← overM d gain
  pure (if z.den = 1 then some z.num else none))
def flatAddM (W : Wv) (q : Rat × Rat × Rat) (acc : List (Rat × Rat)) (t : Int) : Mo (List (Rat × Rat)) := do
  let f ← timesM (t : Rat) W.period
  let a ← plusM q.1 f
  let b ← plusM q.2.1 f
  if 100000 ≤ acc.length then .error .big else pure (acc ++ [(a, b)])
def flatOneM (W : Wv) (goal : Rat) (ps : List (Rat × Rat × Rat)) (i : Nat) (acc : List (Rat × Rat)) : Mo (List (Rat × Rat)) := do
  let q ← atM ps i
  let t ← turnOfM W.gain q.2.2 goal
  match t with
  | none => pure acc
  | some t => flatAddM W q acc t
def flatM (W : Wv) (goal : Rat) : Mo (List (Rat × Rat)) := do
  let ps ← piecesM W
  iterE (flatOneM W goal ps) ps.length []
def steepPlM (W : Wv) (goal : Rat) (q : Rat × Rat × Rat) (acc : List (Rat × Rat)) : Mo (List (Rat × Rat)) := do
  let d ← minusM goal q.2.2
  let z ← overM d W.slope
  let l ← lessM q.1 z
  if l then (do
    let r ← lessM z q.2.1
    if r then (if 99990 ≤ acc.length then .error .big else pure (acc ++ [(z, z)])) else pure acc) else pure acc
def steepOneM (W : Wv) (goal : Rat) (ps : List (Rat × Rat × Rat)) (i : Nat) (acc : List (Rat × Rat)) : Mo (List (Rat × Rat)) := do
  let q ← atM ps i
  if q.1 = q.2.1 then (if 99990 ≤ acc.length then .error .big else pure (acc ++ (if q.2.2 = goal then [(q.1, q.1)] else []))) else steepPlM W goal q acc
def steepM (W : Wv) (goal : Rat) : Mo (List (Rat × Rat)) := do
  let ps ← piecesM W
  iterE (steepOneM W goal ps) ps.length []
def cutNotM (W : Wv) (q : Rat × Rat) (acc : List (Rat × Rat)) : Mo (List (Rat × Rat)) := do
  let a ← minusM q.1 W.period
  let b ← minusM q.2 W.period
  pure (acc ++ [(a, b)])
def cutMidM (W : Wv) (q : Rat × Rat) (acc : List (Rat × Rat)) : Mo (List (Rat × Rat)) := do
  let r ← lessM W.period q.2
  if r then (do
    let b ← minusM q.2 W.period
    pure (acc ++ [(q.1, W.period), (0, 0), (0, b)])) else pure (acc ++ [(q.1, q.2)])
def cutOneM (W : Wv) (some_ : List (Rat × Rat)) (i : Nat) (acc : List (Rat × Rat)) : Mo (List (Rat × Rat)) := do
  let q ← atM some_ i
  if 99990 ≤ acc.length then .error .big else (do
    let l ← lessM q.1 W.period
    if l then cutMidM W q acc else cutNotM W q acc)
def cutM (W : Wv) (some_ : List (Rat × Rat)) : Mo (List (Rat × Rat)) := iterE (cutOneM W some_) some_.length []
def aheadM (p q : Rat × Rat) : Mo Bool := do
  let l ← lessM p.1 q.1
  if l then pure true else (if p.1 = q.1 then lessM p.2 q.2 else pure false)
def placeAtM (found : List (Rat × Rat)) (one : Rat × Rat) : Nat → Mo Nat
  | 0 => .error .big
  | fuel + 1 => let at_ := found.length - fuel
    if at_ < found.length then (do
      let f ← atM found at_
      let l ← aheadM f one
      if l then placeAtM found one fuel else pure at_)
    else pure at_
def risingOneM (some_ : List (Rat × Rat)) (i : Nat) (found : List (Rat × Rat)) : Mo (List (Rat × Rat)) := do
  let one ← atM some_ i
  let at_ ← placeAtM found one (found.length + 1)
  if 100000 ≤ found.length then .error .big else pure (found.take at_ ++ [one] ++ found.drop at_)
def risingM (some_ : List (Rat × Rat)) : Mo (List (Rat × Rat)) := iterE (risingOneM some_) some_.length []
structure Sc where
  lo : Rat
  hi : Rat
  li : Bool
  hin : Bool
  deriving DecidableEq
def touch (q : Rat × Rat) (l : Sc) : Bool := decide (l.hi = q.1) && (decide (q.1 = q.2) || l.hin)
def putOne (q : Rat × Rat) (found : List Sc) : List Sc := match found.getLast? with
  | some l => if touch q l = true then found.dropLast ++ [⟨l.lo, q.2, l.li, decide (q.1 = q.2)⟩] else found ++ [⟨q.1, q.2, decide (q.1 = q.2), decide (q.1 = q.2)⟩]
  | none => found ++ [⟨q.1, q.2, decide (q.1 = q.2), decide (q.1 = q.2)⟩]
def putOneM (rows : List (Rat × Rat)) (i : Nat) (found : List Sc) : Mo (List Sc) := do
  let q ← atM rows i
  if 100000 ≤ found.length then .error .big else pure (putOne q found)
def putM (some_ : List (Rat × Rat)) : Mo (List Sc) := do
  let rows ← risingM some_
  iterE (putOneM rows) rows.length []
inductive Sv where
  | all
  | sc (s : Sc)
  deriving DecidableEq
def backsM (W : Wv) (x : Rat) : Mo (List (Rat × Rat)) := if W.slope = 0 then flatM W x else steepM W x
def cutIfM (W : Wv) (some_ : List (Rat × Rat)) : Mo (List (Rat × Rat)) := if W.gain = 0 then cutM W some_ else pure some_
def lineSrcM (s a x : Rat) : Mo (List Sv) := if s = 0 then pure (if a = x then [.all] else []) else (do
  let d ← minusM x a
  let z ← overM d s
  pure [.sc ⟨z, z, true, true⟩])
def waveSrcM (W : Wv) (x : Rat) : Mo (List Sv) := do
  let some_ ← backsM W x
  let cut ← cutIfM W some_
  let r ← putM cut
  pure (r.map .sc)
def srcM (f : Fm) (x : Rat) : Mo (List Sv) := match f with
  | .line s a => lineSrcM s a x
  | .wave W => waveSrcM W x
def okS {α : Type} [DecidableEq α] (m : Mo α) (a : α) : Bool := match m with
  | .ok b => decide (b = a)
  | _ => false
theorem okS_of {α : Type} [DecidableEq α] {m : Mo α} {a : α} (h : okS m a = true) : m = .ok a := by
  unfold okS at h
  split at h
  · rw [of_decide_eq_true h]
  · cases h
example : okS (shareM [.near (1/10) .up, .near 1 .up] [.near 1 .up]) (1/20) = true := by decide +kernel
example : okS (gapM [.near 1 .up] []) (some (1/2, true)) = true := by decide +kernel
example : okS (gapM [.down 1] []) (some (1, false)) = true := by decide +kernel
example : okS (do let f ← formM [.near (1/10) .up, .near 1 .up]; srcM f 2) [.sc ⟨29/20, 49/20, true, false⟩] = true := by decide +kernel
example : okS (partsM [.near (1/10) .up, .near 1 .up] [.near 1 .up]) [(9, 20), (5, 11), (29, 20), (16, 11)] = true := by decide +kernel
end RW

/-! texts -/
set_option Elab.async false
set_option linter.all false
set_option maxRecDepth 100000
set_option maxHeartbeats 2000000
namespace RW
open PySem L2
open Evl (Ex fresh_back)
section
variable {X : Cx} {K : PySem.W.Frag} {Dc : Gr} {Xe : XK} {e a b c : Expr} {es : List Expr} {ta tb te : TE} {da db dd : TEd} {pos : Pos} {tt tu : TT} {dt du : TTd}
/-- an integer as a text -/
def iS (i : Int) : Str := toString i
@[simp] def dStrI : List D → (D → Prop) → Prop := fun ds P => match int1 ds with | some i => i.natAbs.log2 < 1920 ∧ P (.str (iS i)) | none => False
def rStrI : List V → Hp → VK → Prop := fun xs H Q => ∃ i, xs = [.int i] ∧ i.natAbs.log2 < 1920 ∧ Q (.str (toString i)) H
theorem rc_strI : RCD K Dc rStrI dStrI := by
  intro Hb H xs ds P Q ok hd h k
  unfold dStrI at h
  split at h <;> try exact h.elim
  rename_i i e
  rw [int1_of hd e]
  exact ⟨i, rfl, h.1, k Hb H _ _ ok dt_str h.2⟩
theorem de_strI {p : Pos} {tr : TA} {dr : TAd} (hm : X.mg "str" = none) (ha : DA X K Dc Xe (e :: es) tr dr) (hg : Gl X "str" := by rfl)
    (he : starEach (e :: es) X.env = (false, eval e X.env) :: starEach es X.env := by rfl) (hpl : (backTo pos (starEach es X.env)).any (·.1) = false := by rfl) : DE X K Dc Xe (.Call (.Name "str" p) (e :: es) [] pos) (tCB rStrI tr) (dCB dStrI dr) :=
  de_callTy (r := rStrI) call_str_int rc_strI hg hm (by decide +kernel) ha (by decide) (by decide) he hpl
/-! f-strings -/
@[simp] def dFmt (dd : TEd) : TEd := fun sd P F => dd sd (fun x => match x with | .int i => i.natAbs.log2 < 1920 ∧ P (.str (iS i)) | .str y => y.length ≤ 100000 ∧ P (.str y) | _ => False) F
theorem de_fmt (h : DE X K Dc Xe e te dd) : DE X K Dc Xe (.FormattedValue e (-1) none pos) (tFmt te) (dFmt dd) := ⟨h.hK, pe_fmt h.pe, by
  intro Hb0 H0 F hF Hb H σ sd P Q m hd k
  refine h.rd Hb0 H0 F hF Hb H σ sd _ _ m hd fun Hb1 H1 v d g1 dv hp => ?_
  cases d <;> try exact hp.elim
  · simp only [Dt] at dv
    exact .inr ⟨_, dv, hp.1, k Hb1 H1 _ _ g1 dt_str hp.2⟩
  · simp only [Dt] at dv
    exact .inl ⟨_, dv, Evl.sz_of hp.1, k Hb1 H1 _ _ g1 dt_str hp.2⟩⟩
@[simp] def dJs : List TEd → Str → Sd → (Str → Prop) → XF → Prop
  | [], acc, _, P, _ => P acc
  | d :: ds, acc, sd, P, F => d sd (fun x => ∃ y : Str, x = .str y ∧ (acc ++ y).length ≤ 100000 ∧ dJs ds (acc ++ y) sd P F) F
structure DJ (X : Cx) (K : PySem.W.Frag) (Dc : Gr) (Xe : XK) (es : List Expr) (ts : List TE) (ds : List TEd) : Prop where
  hK : X.K = K
  pj : PJ X es ts
  rd : ∀ (Hb0 H0 : Hp) (F : XF), XOk Dc Xe Hb0 H0 F → ∀ (Hb H : Hp) (σ : St) (sd : Sd) (acc : Str) (P : Str → Prop) (Q : Str → Hp → Prop), M K Dc Hb0 H0 Hb H σ sd → dJs ds acc sd P F → (∀ Hb2 H2 y, Good Dc Hb H Hb2 H2 → P y → Q y H2) → tJs ts acc σ H Q
theorem dj_nil (hK : X.K = K := by rfl) : DJ X K Dc Xe [] [] [] := ⟨hK, .nil, fun Hb0 H0 F hF Hb H σ sd acc P Q m hd k => k Hb H acc m.g.ok hd⟩
theorem dj_cons {ts : List TE} {ds : List TEd} (h : DE X K Dc Xe e te dd) (r : DJ X K Dc Xe es ts ds) : DJ X K Dc Xe (e :: es) (te :: ts) (dd :: ds) := ⟨h.hK, .cons h.pe r.pj, by
  intro Hb0 H0 F hF Hb H σ sd acc P Q m hd k
  refine h.rd Hb0 H0 F hF Hb H σ sd _ _ m hd fun Hb1 H1 v d g1 dv hp => ?_
  obtain ⟨y, rfl, hl, hp⟩ := hp
  simp only [Dt] at dv
  exact ⟨y, dv, Evl.sz_of hl, r.rd Hb0 H0 F hF Hb1 H1 σ sd _ P Q (m.step g1) hp fun Hb2 H2 y g2 hy => k Hb2 H2 y (g1.trans g2) hy⟩⟩
@[simp] def dJoined (ds : List TEd) : TEd := fun sd P F => dJs ds Str.empty sd (fun y => P (.str y)) F
theorem de_joined {v1 v2 : Expr} {rest : List Expr} {ts : List TE} {ds : List TEd} (h : DJ X K Dc Xe (v1 :: v2 :: rest) ts ds) : DE X K Dc Xe (.JoinedStr (v1 :: v2 :: rest) pos) (fun σ H Q => tJs ts Str.empty σ H fun out H1 => Q (.str out) H1) (dJoined ds) :=
  ⟨h.hK, pe_joined h.pj, by
    intro Hb0 H0 F hF Hb H σ sd P Q m hd k
    exact h.rd Hb0 H0 F hF Hb H σ sd _ _ _ m hd fun Hb2 H2 y g hy => k Hb2 H2 _ _ g dt_str hy⟩
/-! s.join(xs) -/
theorem dts_strs {Hb : Hp} : ∀ {ys : List Str} {vs : List V}, Dts K Dc Hb (ys.map D.str) vs → vs = ys.map V.str
  | [], vs, h => by rw [List.map_nil] at h; rw [h.nil]; rfl
  | y :: ys, vs, h => by
    rw [List.map_cons] at h
    obtain ⟨v, r, rfl, h1, h2⟩ := h.cons
    simp only [Dt] at h1
    rw [h1, dts_strs h2, List.map_cons]
theorem strs_dts {Hb : Hp} : ∀ ys : List Str, Dts K Dc Hb (ys.map D.str) (ys.map V.str)
  | [] => dts_nil
  | y :: ys => dts_cons dt_str (strs_dts ys)
@[simp] def dJoin (da db : TEd) : TEd := fun sd P F => da sd (fun x => ∃ s : Str, x = .str s ∧ db sd (fun y => ∃ ys : List Str, y = .lst (ys.map D.str) ∧ (ys.map (·.length)).sum + ys.length * s.length ≤ 16777216 ∧ P (.str (Txt.join s ys))) F) F
def rJoin (K : PySem.W.Frag) : V → List V → Hp → VK → Prop := fun x xs H Q => ∃ a p, ∃ ys : List Str, x = .str a ∧ xs = [.ref p] ∧ (SqL K H p (ys.map V.str) ∨ SqT K H p (ys.map V.str)) ∧ (ys.map (·.length)).sum + ys.length * a.length ≤ 16777216 ∧ Q (.str (Txt.join a ys)) H
theorem de_join {p : Pos} (ha : DE X K Dc Xe a ta da) (hb : DE X K Dc Xe b tb db) (hs : starEach [b] X.env = [(false, eval b X.env)] := by rfl) (hbase : attributeBase a "join" X.env (eval a X.env) = eval a X.env := by rfl) (hline : (p.endLine == pos.line) = true := by rfl) :
    DE X K Dc Xe (.Call (.Attribute a "join" p) [b] [] pos) (tM1 (rJoin K) ta tb) (dJoin da db) := by
  obtain rfl := ha.hK
  refine ⟨rfl, pe_join ha.pe hb.pe hs hbase hline, ?_⟩
  intro Hb0 H0 F hF Hb H σ sd P Q m hd k
  refine ha.rd Hb0 H0 F hF Hb H σ sd _ _ m hd fun Hb1 H1 v d g1 dv hp => ?_
  obtain ⟨s, rfl, hp⟩ := hp
  simp only [Dt] at dv
  subst dv
  refine ⟨⟨s, rfl⟩, ?_⟩
  refine hb.rd Hb0 H0 F hF Hb1 H1 σ sd _ _ (m.step g1) hp fun Hb2 H2 v d g2 dv hp2 => ?_
  obtain ⟨ys, rfl, hz, hp2⟩ := hp2
  simp only [Dt] at dv
  obtain ⟨l, vs, rfl, h1, h2⟩ := dv
  rw [dts_strs h2] at h1
  exact ⟨s, l, ys, rfl, rfl, .inl (SqL.of (g2.sub _ _ h1)), hz, k Hb2 H2 _ _ (g1.trans g2) dt_str hp2⟩
/-! s.split(t) -/
def rSplit : V → List V → Hp → VK → Prop := fun x xs H Q => ∃ a b, x = .str a ∧ xs = [.str b] ∧ (b.length == 0) = false ∧ a.length + 2 ≤ sizeLine ∧ rNewStrs (Txt.split a b) H Q
@[simp] def dSplit (da db : TEd) : TAd := fun sd P F => da sd (fun x => ∃ s : Str, x = .str s ∧ db sd (fun y => ∃ t : Str, y = .str t ∧ (t.length == 0) = false ∧ s.length ≤ 90000 ∧ P ((Txt.split s t).map D.str)) F) F
theorem dl_split {p : Pos} (ha : DE X K Dc Xe a ta da) (hb : DE X K Dc Xe b tb db) (hs : starEach [b] X.env = [(false, eval b X.env)] := by rfl) (hbase : attributeBase a "split" X.env (eval a X.env) = eval a X.env := by rfl) (hline : (p.endLine == pos.line) = true := by rfl) :
    DL X K Dc Xe (.Call (.Attribute a "split" p) [b] [] pos) (tM1 rSplit ta tb) (dSplit da db) := by
  obtain rfl := ha.hK
  refine ⟨rfl, pe_split ha.pe hb.pe hs hbase hline, ?_⟩
  intro Hb0 H0 F hF Hb H σ sd P Q m hd k
  refine ha.rd Hb0 H0 F hF Hb H σ sd _ _ m hd fun Hb1 H1 v d g1 dv hp => ?_
  obtain ⟨s, rfl, hp⟩ := hp
  simp only [Dt] at dv
  subst dv
  refine ⟨⟨s, rfl⟩, ?_⟩
  refine hb.rd Hb0 H0 F hF Hb1 H1 σ sd _ _ (m.step g1) hp fun Hb2 H2 v d g2 dv hp2 => ?_
  obtain ⟨t, rfl, ht, hl, hp2⟩ := hp2
  simp only [Dt] at dv
  subst dv
  refine ⟨s, t, rfl, rfl, ht, Evl.sz_of (by omega), fun l hl => ?_⟩
  have g3 := Good.newH (o := .lst ((Txt.split s t).map V.str)) g2.ok hl
  exact k _ _ l _ _ ((g1.trans g2).trans g3) (g1.notnone (g2.notnone hl)) (fresh_back g2.sub hl) upd_same (strs_dts _) hp2
/-! t * k -/
@[simp] def dRepT : D → D → (D → Prop) → Prop := fun x y P => match x, y with
  | .tup ds, .int k => (ds ≠ [] ∧ 2 ≤ k ∧ k ≤ 1000 ∧ ds.length ≤ 1000) ∧ P (.tup (List.replicate k.toNat ds).flatten)
  | _, _ => False
theorem dts_rep {Hb : Hp} {ds : List D} {vs : List V} (h : Dts K Dc Hb ds vs) : ∀ n : Nat, Dts K Dc Hb (List.replicate n ds).flatten (List.replicate n vs).flatten
  | 0 => dts_nil
  | n + 1 => by
    rw [List.replicate_succ, List.replicate_succ, List.flatten_cons, List.flatten_cons]
    exact h.append (dts_rep h n)
theorem r2_repT : R2D K Dc (rRepT K) dRepT := by
  intro Hb H x y d e P Q ok hx hy h k
  cases d <;> cases e <;> try exact h.elim
  rename_i ds i
  simp only [Dt] at hx hy
  obtain ⟨l, vs, rfl, h1, h2⟩ := hx
  subst hy
  obtain ⟨⟨a1, a2, a3, a4⟩, hp⟩ := h
  refine ⟨l, i, vs, rfl, rfl, SqT.of (ok.sub _ _ h1), fun z => a1 ?_, a2, a3, by rw [h2.length]; exact a4, fun p hn => ?_⟩
  · subst z
    have := h2.length
    exact List.length_eq_zero_iff.mp this.symm
  · have g := Good.new (o := .tup (List.replicate i.toNat vs).flatten) ok hn
    refine k _ _ _ _ g ?_ hp
    simp only [Dt]
    exact ⟨p, _, rfl, upd_same, (dts_rep h2 i.toNat).mono g.eb⟩
theorem de_repT (ha : DE X K Dc Xe a ta da) (hb : DE X K Dc Xe b tb db) : DE X K Dc Xe (.BinOp a .Mult b pos) (tOp (rRepT K) ta tb) (dOp dRepT da db) := by obtain rfl := ha.hK; exact de_op op_repT r2_repT ha hb
/-! ### statements one by one -/
theorem for_to {di : TAd} {dg : TGd} {ds : TSd} {De : DEnds} {sd : Sd} (xs : List D) (hd : ∀ Pl : List D → Prop, Pl xs → di sd Pl De.rs) (I : Nat → Sd → Prop) (h0 : I 0 sd)
    (h1 : ∀ i d sd', xs[i]? = some d → I i sd' → dg d sd' (fun sd2 => ds ⟨I (i + 1), De.rt, De.nx, I (i + 1), De.rs⟩ sd2)) (h2 : ∀ sd', I xs.length sd' → De.nx sd') : dFor di dg ds De sd := hd _ ⟨I, h0, h1, h2⟩
theorem for_toS {di : TAd} {dg : TGd} {ds u : TSd} {De : DEnds} {sd : Sd} (xs : List D) (hd : ∀ Pl : List D → Prop, Pl xs → di sd Pl De.rs) (I : Nat → Sd → Prop) (h0 : I 0 sd)
    (h1 : ∀ i d sd', xs[i]? = some d → I i sd' → dg d sd' (fun sd2 => ds ⟨I (i + 1), De.rt, u De, I (i + 1), De.rs⟩ sd2)) (h2 : ∀ sd', I xs.length sd' → u De sd') : dSeq (dFor di dg ds) u De sd := hd _ ⟨I, h0, h1, h2⟩
theorem eq_no {sd : Sd} {F : XF} {Pb : Bool → Prop} (d0 d1 : D) (h0 : shp d0) (h1 : shp d1) (e : PyData.eqv (toPy d0) (toPy d1) = false) (ha : ∀ Pd : D → Prop, Pd d0 → da sd Pd F) (hb : ∀ Pd : D → Prop, Pd d1 → db sd Pd F) (h : Pb false) : dTest (dOp dEq da db) sd Pb F :=
  ha _ (hb _ ⟨h0, h1, by rw [e]; exact h⟩)
theorem ne_yes {sd : Sd} {F : XF} {Pb : Bool → Prop} (d0 d1 : D) (h0 : shp d0) (h1 : shp d1) (e : PyData.eqv (toPy d0) (toPy d1) = false) (ha : ∀ Pd : D → Prop, Pd d0 → da sd Pd F) (hb : ∀ Pd : D → Prop, Pd d1 → db sd Pd F) (h : Pb true) : dTest (dOp dNe da db) sd Pb F :=
  ha _ (hb _ ⟨h0, h1, by rw [e]; exact h⟩)
theorem eq_b {sd : Sd} {F : XF} {Pb : Bool → Prop} (b : Bool) (d0 d1 : D) (h0 : shp d0) (h1 : shp d1) (e : PyData.eqv (toPy d0) (toPy d1) = b) (ha : ∀ Pd : D → Prop, Pd d0 → da sd Pd F) (hb : ∀ Pd : D → Prop, Pd d1 → db sd Pd F) (h : Pb b) : dTest (dOp dEq da db) sd Pb F :=
  ha _ (hb _ ⟨h0, h1, by rw [e]; exact h⟩)
theorem or_bb {sd : Sd} {F : XF} {Pb : Bool → Prop} (b c : Bool) (h1 : ∀ Pb : Bool → Prop, Pb b → dt sd Pb F) (h2 : ∀ Pb : Bool → Prop, Pb c → du sd Pb F) (h : Pb (b || c)) : dOr dt du sd Pb F := h1 _ (by
  cases b
  · exact h2 _ h
  · exact h)
theorem and_bb {sd : Sd} {F : XF} {Pb : Bool → Prop} (b c : Bool) (h1 : ∀ Pb : Bool → Prop, Pb b → dt sd Pb F) (h2 : ∀ Pb : Bool → Prop, Pb c → du sd Pb F) (h : Pb (b && c)) : dAnd dt du sd Pb F := h1 _ (by
  cases b
  · exact h
  · exact h2 _ h)
theorem tg2_to {i j : Nat} {x y : D} {sd sd' : Sd} {Ps : Sd → Prop} (e : (sd.set i (.dat x)).set j (.dat y) = sd') (h : Ps sd') : dgTup 2 (dgCons (dgName i) (dgCons (dgName j) dgNil)) (.tup [x, y]) sd Ps := ⟨rfl, by show Ps _; rw [e]; exact h⟩
theorem asg_nx {i : Nat} {De : DEnds} {sd sd' : Sd} (d0 : D) (hd : ∀ Pd : D → Prop, Pd d0 → dd sd Pd De.rs) (e : sd.set i (.dat d0) = sd') (h : De.nx sd') : dAsg dd (dgName i) De sd := hd _ (by show De.nx _; rw [e]; exact h)
theorem asg_to {dg : TGd} {u : TSd} {De : DEnds} {sd sd' : Sd} (d0 : D) (hd : ∀ Pd : D → Prop, Pd d0 → dd sd Pd De.rs) (hg : ∀ Ps : Sd → Prop, Ps sd' → dg d0 sd Ps) (h : u De sd') : dSeq (dAsg dd dg) u De sd := hd _ (hg _ h)
theorem told_to {mg : Str → Option Value} {sd : Sd} {Pd : D → Prop} {Fx : XF} (h : db (sd.map calmS) Pd (fun c => ∃ i, i < 6 ∧ c = clsOf mg (excS i) ∧ Pd (errD i))) : dTold mg db sd Pd Fx := h
end
end RW

/-! a comprehension whose element is a call that may raise -/
set_option Elab.async false
set_option linter.all false
set_option maxRecDepth 100000
set_option maxHeartbeats 2000000
namespace RW
open PySem L2
open PySem.Spec PyProof.Rows
open Evl (Ex fresh_back)
/-- the block of a comprehension that lets exceptions out: what is owed then -/
abbrev blkR (X : Cx) (s : Shared) (H : Hp) (scope : Scope) (cenv : Env) (fp : List Addr) : Cx :=
  { X.blk s H scope cenv fp with xe := notedBy (model X.prog X.w) X.A cenv (CompFails (model X.prog X.w) X.A X.xe cenv) }
theorem Inv.xeTo {X : Cx} {pins : List (Addr × Obj)} {σ : L2.St} {H : Hp} {s : Shared} {E : Value → Shared → Prop} (I : Inv X pins σ H s) : Inv { X with xe := E } pins σ H s :=
  ⟨⟨I.ok.mod, I.ok.kind, I.ok.glob, I.ok.blt, I.ok.above, I.ok.inj, I.ok.has, I.ok.cab, I.ok.hd, I.ok.frames, I.ok.stk, I.ok.exf, I.ok.bs, I.ok.bsz, I.ok.noex, I.ok.exfs, I.ok.funs, I.ok.frf⟩, I.os, I.bare, I.base, I.loc, I.cell, I.free, I.freeC, I.pin, I.hok, I.len⟩
/-- behind a call that raised: the state without the exception, over a ground B -/
theorem call_fl {X : Cx} {pins : List (Addr × Obj)} {σ : L2.St} {H : Hp} {s s' : Shared} {E : XK} {u : Value} (I : Inv X pins σ H s) (c : L2N.CX X.prog X.w X.stack H s E u s') :
    ∃ (a : Addr) (B : Heap) (sJ : Shared) (H' : Hp) (cls : Value) (d : Option Addr), u = .ref a ∧ Inv X pins σ H' sJ ∧ (∀ b o, sJ.heap.get? b = some o → b ∉ frs X.stack → B.get? b = some o) ∧ (∀ b o, sJ.heap.get? b = some o → s'.heap.get? b = some o) ∧
      HandSPX.FlyingZ B X.stack a (L2N.Zn cls d) s'.heap ∧ H' a = none ∧ s'.os = sJ.os ∧ AllBare s'.gens ∧ E cls d H' := by
  obtain ⟨a, B, H', cls, d, rfl, fl, hok, ub, na, os, ag, hE⟩ := c
  obtain ⟨G, g1, g2⟩ := restrict s'.heap fun b => (B.get? b).isSome || decide (b ∈ frs X.stack)
  have inB : ∀ b o, B.get? b = some o → G.get? b = some o := fun b o e => (g1 b (by simp [e])).trans (fl.1 b o e)
  have inF : ∀ b, b ∈ frs X.stack → G.get? b = s'.heap.get? b := fun b hb => g1 b (by simp [hb])
  have outG : ∀ b o, G.get? b = some o → s'.heap.get? b = some o ∧ (b ∉ frs X.stack → B.get? b = some o) := fun b o e => by
    by_cases q : ((B.get? b).isSome || decide (b ∈ frs X.stack)) = true
    · rw [g1 b q] at e
      refine ⟨e, fun hb => ?_⟩
      have z : (B.get? b).isSome = true := by simpa [hb] using q
      obtain ⟨o', z⟩ := Option.isSome_iff_exists.mp z
      have z2 := fl.1 b o' z
      rw [e] at z2; cases z2
      exact z
    · rw [g2 b (by simpa using q)] at e; cases e
  refine ⟨a, B, { s with heap := G, gens := s'.gens, drawn := s'.drawn, toks := s'.toks }, H', cls, d, rfl, ?_, fun b o e hb => (outG b o e).2 hb, fun b o e => (outG b o e).1, fl, na, os, ag, hE⟩
  refine I.call (ch := []) ⟨fun b o e n hb _ => inB b o (ub.keep b o e n hb), fun b o e n hb _ => ?_, fun b o e n _ => ub.free b o e n, fun b o e _ => ?_, ub.tups, ub.frzs, ub.tbls⟩ (hok.kept inB) ag (fun _ z => nomatch z)
  · obtain ⟨sl, q⟩ := ub.slot b o e hb
    exact ⟨sl, (inF b hb).trans q⟩
  · by_cases hb : b ∈ frs X.stack
    · obtain ⟨sl, q⟩ := ub.slot b o e hb
      exact ⟨_, (inF b hb).trans q⟩
    · obtain ⟨o', q⟩ := ub.there b o e hb
      exact ⟨o', inB b o' q⟩
theorem funFrames_less {B B' : Heap} {h : Heap} (k : ∀ b, B.get? b = none → B'.get? b = none) : ∀ {l : List Env}, h.FunFrames B l → h.FunFrames B' l
  | [], _ => trivial
  | _ :: _, ⟨hk, ⟨L, o, hf, hb, r⟩, hr⟩ => ⟨hk, ⟨L, o, hf, k _ hb, r⟩, funFrames_less k hr⟩
/-- what the call in the element lets out is let out of the comprehension -/
theorem passes_blk {X : Cx} {W : L2.WX} {Xe : XK} (hs : X.stack = X.env :: X.outer) (hf : X.env.frame = some X.env.locals) (tk : L2N.Takes X W) (hW : ∀ cls d σ H, Xe cls d H → W cls d σ H) {pins : List (Addr × Obj)} {σ : L2.St} {H3 : Hp} {s3 : Shared} (I3 : Inv X pins σ H3 s3)
    {scope : Scope} {ce : Env} {fp : List Addr} (cL : ce.locals = s3.heap.objs.size) (cF : ce.frame = X.env.frame) (f3 : ∀ b ∈ fp, FpOk X pins H3 b ∧ b < s3.heap.objs.size) : Passes (L2N.CX X.prog X.w) (blkR X s3 H3 scope ce fp) Xe := by
  intro pins' σ' H' s e s' I c
  obtain ⟨a, B, sJ, Hj, cls, d, rfl, J, nb, up, fl, na, os, ag, w⟩ := call_fl I c
  have fl : HandSPX.FlyingZ B X.stack a (L2N.Zn cls d) s'.heap := fl
  have hfr : X.A.frames = some (X.env :: X.outer) := by rw [I3.ok.frames, hs]
  have nC : Hj ce.locals = none := J.free
  -- X's own state, with the block's names gone
  have K1 : Inv X pins σ Hj sJ := I3.call' (ch := fp) J.os J.base J.hok J.bare fun b hb => ⟨(f3 b hb).1.2.2.2.1, (f3 b hb).1.2.1, (f3 b hb).1.2.2.2.2.1, (f3 b hb).1.2.2.2.2.2⟩
  obtain ⟨f0, f1, f2, f4, f5, f6⟩ := I3.fpOk (b := ce.locals) (H' := Hj) (Nat.le_of_eq cL.symm) nC
  have K2 := K1.turned (it := ce.locals) (t' := sJ.toks) (h' := PySem.W.hideAll sJ.heap [ce.locals]) (fun b o hb e => PySem.W.hideAll_get _ e (by simpa using hb)) f0 f1 f4 f5 f6
  obtain ⟨B3, hB3⟩ : ∃ B3, B3 = PySem.W.hideAll B [ce.locals] := ⟨_, rfl⟩
  have b3C : B3.get? ce.locals = none := by rw [hB3]; exact PySem.W.hideAll_none _ List.mem_cons_self
  have b3B : ∀ b o, B3.get? b = some o → B.get? b = some o := fun b o e => by rw [hB3] at e; exact PySem.W.of_hideAll _ e
  have b3N : ∀ b, B.get? b = none → B3.get? b = none := fun b e => by
    cases q : B3.get? b with
    | none => rfl
    | some o => rw [b3B b o q] at e; cases e
  obtain ⟨x1, x2, x3, oe, vs, T, oT, ts, x4, x5, x6, x7, x8, x9⟩ := fl
  have fl3 : HandSPX.FlyingZ B3 (X.env :: X.outer) a (L2N.Zn cls d) s'.heap := ⟨fun b o e => x1 b o (b3B b o e), b3N _ x2, funFrames_less b3N (hs ▸ x3), oe, vs, T, oT, ts, x4, x5, x6, x7, b3N _ x8, x9⟩
  show wpAny _ X.A (noteFrame (.ref a) ce) _ _ s'
  rw [noteFrame_env _ cF]
  refine PXN.looks_onZ L2N.Zn.steady hfr hf fl3 fun h1 hh up1 => ?_
  obtain ⟨m, hnJ, _⟩ := J.loc
  have hnJ : sJ.heap.Ns ce.locals m := hnJ
  have hn1 : h1.Ns ce.locals m := hnJ.upToSlots fun b o e hnf => up1 b o (up b o e) hnf
  refine ⟨m, hn1, fun h2 m2 hn2 hs2 => ?_⟩
  obtain ⟨y1, y2, y3, oe', vs', T', oT', ts', y4, y5, y6, y7, y8, y9, y10, y11, y12⟩ := hh
  have noRec : ∀ b o v, h1.get? b = some o → o.data = .fields v → b ≠ ce.locals := fun b o v e hd z => by
    obtain ⟨o2, es, ep, e2, hd2, _⟩ := hn1
    rw [z, e2] at e; cases e
    rw [hd2] at hd; cases hd
  have hh2 : HandSPX.HeldZ B3 (X.env :: X.outer) a (L2N.Zn cls d) X.env.locals h2 :=
    ⟨fun b o e => (hs2.2 b fun z => by rw [z, b3C] at e; cases e).trans (y1 b o e), y2, Heap.FunFrames.sameBut hs2 hn2 y3, oe', vs', T', oT', ts', (hs2.2 a (noRec _ _ _ y4 y6)).trans y4, y5, y6, y7, y8, y9, (hs2.2 T' (noRec _ _ _ y10 y11)).trans y10, y11, y12⟩
  unfold PySem.passOn
  refine wpAny_bind (wpAny_field ((hs2.2 a (noRec _ _ _ y4 y6)).trans y4) y6 y7 ?_)
  rw [if_neg (show ¬ ((Value.ref T' == Value.none) = true) from by simp)]
  rw [cF, hf]
  refine wpAny_bind (HandSPX.setFlight_onZ hh2 fun h3 hh3 up3 => ?_)
  refine wpAny_throw ?_
  refine tk _ _ ⟨a, B3, _, pins, σ, Hj, cls, d, rfl, K2, fun b o e hb => ?_, fun b o e hnf => ?_, .inr (.inr (by rw [hs]; exact hh3)), na, os, ag, hW _ _ _ _ w⟩
  · have eJ : sJ.heap.get? b = some o := PySem.W.of_hideAll _ e
    have hbC : b ≠ ce.locals := fun z => by rw [z, PySem.W.hideAll_none _ List.mem_cons_self] at e; cases e
    rw [hB3]
    exact PySem.W.hideAll_get _ (nb b o eJ hb) (by simpa using hbC)
  · have eJ : sJ.heap.get? b = some o := PySem.W.of_hideAll _ e
    have hbC : b ≠ ce.locals := fun z => by rw [z, PySem.W.hideAll_none _ List.mem_cons_self] at e; cases e
    obtain ⟨sl, e1⟩ := up1 b o (up b o eJ) hnf
    obtain ⟨sl2, e2⟩ := up3 b _ ((hs2.2 b hbC).trans e1) hnf
    exact ⟨sl2, e2⟩

section
variable {X : Cx}
/-- [elt for target in iter], where the element may raise -/
theorem pe_lcR {W : L2.WX} {Xe : XK} {elt tg iter : Expr} {scope : Scope} {own : List (Str × Nat)} {pos : Pos} {wi : TI} {g : TG} {te : TE} (hs : X.stack = X.env :: X.outer) (hf : X.env.frame = some X.env.locals) (tk : L2N.Takes X W) (hW : ∀ cls d σ H, Xe cls d H → W cls d σ H)
    (hc : X.calm = true) (hN : X.N.Nodup) (hi : PI X tg iter wi) (ok : BlkOk X.N X.env.scope scope own) (hg : ∀ (s : Shared) (H : Hp) (C : Addr) (cl : List (Str × Addr)) (fp : List Addr), PG (X.blk s H scope (compEnvC scope cl C X.env) fp) tg g)
    (he : ∀ (s : Shared) (H : Hp) (C : Addr) (cl : List (Str × Addr)) (fp : List Addr), Passes (L2N.CX X.prog X.w) (blkR X s H scope (compEnvC scope cl C X.env) fp) Xe → PE (blkR X s H scope (compEnvC scope cl C X.env) fp) elt te)
    (hfs : ∀ x, foldedSetIterable iter X.env x = pure x := by intro _; rfl) : PE X (.ListComp elt [⟨tg, iter, [], 0⟩] scope pos) (tLc wi g tYes te (own.map (·.2))) := by
  refine ⟨fun pins s σ H Q I h => ?_⟩
  rw [eval_ListComp]
  have hfree : ∀ y ∈ scope.names, y.2 = .free → ∃ c, X.env.cells.lookup y.1 = some c := fun y hy e => (ok.free y hy e).elim (fun k => I.ok.has _ (.inl k)) (fun k => I.ok.has _ (.inr k))
  refine comprehension_at (use := none) rfl hfs (closure_ok hfree) ok.kind (fun y hy e => by rw [ok.uniq y hy, e])
    (thn (hi.run pins s σ H _ I h) fun xv s1 hx => thn hx fun itv s2 h2 => ?_)
  obtain ⟨it, fp, tn, J, H2, rfl, I2, T, st2, f2, q⟩ := h2
  refine wpAny_newObj_type (newEnv_comp ?_) (by show 0 ≤ sizeLine; decide)
  -- the new list, at D
  obtain ⟨D, hD⟩ : ∃ D, D = s2.heap.objs.size := ⟨_, rfl⟩
  rw [← hD]
  have hDn : H2 D = none := I2.hok.fresh (Nat.le_of_eq hD.symm)
  obtain ⟨V, ⟨m0, v0⟩, turn⟩ := q D hDn
  obtain ⟨s3, hs3⟩ : ∃ s3 : Shared, s3 = { s2 with heap := s2.heap.push { cls := .type "list", data := .seq ([] : List Value).toArray } } := ⟨_, rfl⟩
  obtain ⟨H3, hH3⟩ : ∃ H3, H3 = upd H2 D (.lst []) := ⟨_, rfl⟩
  have hp3 : s3.heap = s2.heap.push { cls := .type "list", data := .seq ([] : List Value).toArray } := by rw [hs3]
  have I3 : Inv X pins σ H3 s3 := by
    rw [hs3, hH3]
    exact I2.laid (t' := s2.toks) (fun b o e => Heap.get?_push_of_some _ e) (Nat.le_of_eq hD.symm) ⟨Nat.zero_le _, [], 0, .nil, by rw [hD]; exact Heap.get?_push_size _ rfl⟩
  have f3 : ∀ b ∈ fp, FpOk X pins H3 b ∧ b < s3.heap.objs.size := fun b hb => by
    obtain ⟨o, e, _⟩ := T.obj _ _ st2 b hb
    have hlt := Heap.lt_size e
    refine ⟨⟨?_, (f2 b hb).2⟩, by rw [hp3, Heap.size_push]; exact Nat.lt_succ_of_lt hlt⟩
    rw [hH3, upd_ne (by rw [hD]; exact Nat.ne_of_lt hlt)]
    exact (f2 b hb).1
  have I4 := block_start I3 ok hN f3
  have v0 : V 0 m0 H3 := by rw [hH3]; exact v0
  obtain ⟨cl, hcl⟩ : ∃ cl, cl = cellsFrom (s3.heap.objs.size + 1) scope.names (cloFrom X.env.cells scope.names []) := ⟨_, rfl⟩
  obtain ⟨ce, hce⟩ : ∃ ce, ce = compEnvC scope cl s3.heap.objs.size X.env := ⟨_, rfl⟩
  obtain ⟨s4, hs4⟩ : ∃ s4 : Shared, s4 = { s3 with heap := pushCells (s3.heap.push { cls := .type "dict", data := .dict #[] }) scope.names } := ⟨_, rfl⟩
  rw [← hs3]
  show codeAny _ _ (.compStart (.ListComp elt [⟨tg, iter, [], 0⟩] scope pos) 0 (.ref it) (.ref D) (compEnvC scope (cellsFrom (s3.heap.objs.size + 1) scope.names (cloFrom X.env.cells scope.names [])) s3.heap.objs.size X.env))
    (compEnds (model X.prog X.w) X.A X.xe none (EP X pins σ Q) (.ref D) (compEnvC scope (cellsFrom (s3.heap.objs.size + 1) scope.names (cloFrom X.env.cells scope.names [])) s3.heap.objs.size X.env)) { s3 with heap := pushCells (s3.heap.push { cls := .type "dict", data := .dict #[] }) scope.names }
  rw [← hcl] at I4 ⊢
  have cL : ce.locals = s3.heap.objs.size := by rw [hce]; rfl
  have cF : ce.frame = X.env.frame := by rw [hce]; rfl
  have pg := hg s3 H3 s3.heap.objs.size cl fp
  have pe := he s3 H3 s3.heap.objs.size cl fp (by rw [← hce]; exact passes_blk hs hf tk hW I3 cL cF f3)
  rw [← hce] at I4 pg pe ⊢
  rw [← hs4] at I4 ⊢
  -- the block's context; what is known of the iterator's parts in it
  obtain ⟨vs, hvs⟩ : ∃ vs, vs = own.map (·.2) := ⟨_, rfl⟩
  rw [← hvs] at I4 turn
  have st4 : tn 0 s4.heap := T.keep _ _ _ st2 fun b _ o e => by rw [hs4]; exact pushCells_keeps _ _ _ _ (Heap.get?_push_of_some _ (by rw [hp3]; exact Heap.get?_push_of_some _ e))
  have fpB : ∀ {σ' : L2.St} {H' : Hp} {s' : Shared}, Inv (X.blk s3 H3 scope ce fp) [] σ' H' s' → (∀ b ∈ fp, H' b = none) → ∀ b ∈ fp, FpOk (X.blk s3 H3 scope ce fp) [] H' b := fun I' hn b hb =>
    ⟨hn b hb, (I'.ok.exf b hb).1, I'.ok.exfs b hb, .inl hb, fun x c e => (I'.ok.exf b hb).2 x c e, fun p hp => absurd (show p ∈ ([] : List (Addr × Obj)) ++ [] from hp) (by simp)⟩
  have loop : codeAny (model X.prog X.w) X.A (.compLoop (.ListComp elt [⟨tg, iter, [], 0⟩] scope pos) 0 (.ref it) (.ref D) ce) (compEnds (model X.prog X.w) X.A X.xe none (EP X pins σ Q) (.ref D) ce) s4 := by
    refine compLoop_any (fun n s' => ∃ i H', Inv (X.blk s3 H3 scope ce fp) [] (wipe σ vs) H' s' ∧ tn i s'.heap ∧ (∀ b ∈ fp, H' b = none) ∧ V i n H') ?_ m0 ⟨0, H3, I4, st4, fun b hb => (f3 b hb).1.1, v0⟩
    rintro n s5 ⟨i, H5, I5, st5, n5, v5⟩
    rcases turn i n H5 v5 with ⟨stop, qq⟩ | ⟨go, Nx, hNx, step⟩
    · -- no more items
      refine thnF (T.done (X.blk s3 H3 scope ce fp) rfl rfl rfl hc i [] s5 _ H5 (fun _ _ => False) I5 (fpB I5 n5) st5 stop) fun r s6 ⟨hr, I6⟩ => ?_
      subst hr
      have I7 : Inv X pins σ H5 s6 := I3.call' (ch := fp) I6.os I6.base I6.hok I6.bare fun b hb => ⟨(f3 b hb).1.2.2.2.1, (f3 b hb).1.2.1, (f3 b hb).1.2.2.2.2.1, (f3 b hb).1.2.2.2.2.2⟩
      have nC : H5 ce.locals = none := I6.free
      obtain ⟨m, hn, _⟩ := I6.loc
      obtain ⟨g0, g1, g2, g3, g4, g5⟩ := I3.fpOk (b := ce.locals) (H' := H5) (Nat.le_of_eq cL.symm) nC
      exact ⟨m, hn, fun h' sb => ⟨.ref D, H5, I7.turned (t' := s6.toks) (fun b o hb e => (sb.2 b hb).trans e) g0 g1 g3 g4 g5, rfl, qq⟩⟩
    · refine thnF (T.item (X.blk s3 H3 scope ce fp) rfl rfl rfl hc i [] s5 _ H5 (fun _ _ => False) I5 (fpB I5 n5) st5 go) fun r s6 ⟨u, hr, h6⟩ => ?_
      subst hr
      refine thnF h6 fun _ s7 ⟨x, H7, I7, r7, y7, st7, n7⟩ => ?_
      refine thnF (pg.run _ s7 _ H7 x u _ (I7.pinned (fpB I7 n7) (T.obj _ _ st7)) r7 (step x H7 y7)) fun _ s8 ⟨σ8, H8, I8, hw8, q8⟩ => ?_
      refine wpAny_tests_nil ?_
      rw [if_pos rfl]
      have q8 : te σ8 H8 _ := q8
      refine wpAny_mono (pe.run _ s8 σ8 H8 _ (Inv.xeTo I8) q8) (fun z s10 ⟨yv, H10, I10, r10, acc, hD10, hz10, nx⟩ => ?_) (fun e s' h => h)
      refine app_ok (X := X.blk s3 H3 scope ce fp) (Inv.xeTo (X := blkR X s3 H3 scope ce fp) I10) hD10 hz10 r10 fun s11 I11 => ?_
      obtain ⟨m', hm, v'⟩ := hNx _ nx
      have kept : ∀ b ∈ fp, ∀ o, s7.heap.get? b = some o → s11.heap.get? b = some o ∧ upd H10 D (.lst (acc ++ [yv])) b = none := fun b hb o e =>
        let z := I11.pin (b, o) (List.mem_append_right _ (List.mem_append_right _ (mem_pinsAt hb e)))
        ⟨z.1, z.2.1⟩
      refine ⟨m', hm, i + 1, _, (I11.unpinned (pins := [])).weak (by rw [← hw8, wipe_length]) (fun j v e => by rw [← hw8] at e; exact (wipe_some e).1), T.keep _ _ _ st7 fun b hb o e => (kept b hb o e).1, fun b hb => ?_, v'⟩
      obtain ⟨o, e, _⟩ := T.obj _ _ st7 b hb
      exact (kept b hb o e).2
  exact codeAny_compStart_list loop (T.self X.A 0 _ _ _ st4 loop)
end
end RW

/-! a comprehension whose element raises: how it is read -/
set_option Elab.async false
set_option linter.all false
set_option maxRecDepth 100000
set_option maxHeartbeats 2000000
namespace RW
open PySem L2
open PySem.Spec PyProof.Rows
open Evl (Ex fresh_back)
section
variable {X : Cx} {K : PySem.W.Frag} {Dc : Gr} {Xe : XK} {te : TE} {dd : TEd} {tg : Expr} {pos : Pos}
def dLcR (di : TAd) (dg : TGd) (de : TEd) (vs : List Nat) : TAd := fun sd P F => di sd (fun xs => ∃ I : Nat → List D → Prop, I 0 [] ∧
  (∀ i d acc, xs[i]? = some d → I i acc → dg d (wipeD sd vs) (fun sd2 => de sd2 (fun y => acc.length < 100000 ∧ I (i + 1) (acc ++ [y])) F)) ∧ (∀ acc, I xs.length acc → P acc)) F
theorem rl_lcR {wi : TI} {di : TAd} {tg : TG} {dg : TGd} {vs : List Nat} (hi : RI K Dc Xe wi di) (hg : RG K Dc tg dg) (ht : Tch tg vs) (he : RE K Dc Xe te dd) : RL K Dc Xe (tLc wi tg tYes te vs) (dLcR di dg dd vs) := by
  intro Hb0 H0 F hF Hb H σ sd P Q m hd k
  refine hi Hb0 H0 F hF Hb H σ sd _ _ m hd fun Hb1 H1 J xs g1 wk hp => ?_
  obtain ⟨I, i0, turn, fin⟩ := hp
  intro p hp1
  have m1 := m.step g1
  have nd : ¬ Dc p := m1.g.ndc hp1
  have b1 : Hb1 p = none := fresh_back g1.sub hp1
  refine ⟨fun i mm H' => ∃ Hb' acc vacc, Good Dc Hb1 H1 Hb' H' ∧ Hb' p = none ∧ H' p = some (.lst vacc) ∧ Dts K Dc Hb' acc vacc ∧ i ≤ xs.length ∧ mm = xs.length - i ∧ I i acc,
    ⟨xs.length, Hb1, [], [], g1.ok.newH hp1, b1, upd_same, dts_nil, Nat.zero_le _, rfl, i0⟩, ?_⟩
  rintro i mm H' ⟨Hb', acc, vacc, g', b', h', dacc, hi', rfl, inv⟩
  obtain ⟨w1, w2⟩ := wk Hb' H' g'.ok g'.eb
  by_cases hlt : i < xs.length
  · obtain ⟨go, yl⟩ := w1 i xs[i] (by simp [hlt])
    refine .inr ⟨go, fun H2 => ∃ Hb2 acc2 vacc2, Good Dc Hb1 H1 Hb2 H2 ∧ Hb2 p = none ∧ H2 p = some (.lst vacc2) ∧ Dts K Dc Hb2 acc2 vacc2 ∧ I (i + 1) acc2,
      fun H2 ⟨Hb2, acc2, vacc2, q1, q2, q3, q4, q5⟩ => ⟨xs.length - (i + 1), by omega, Hb2, acc2, vacc2, q1, q2, q3, q4, hlt, rfl, q5⟩, fun x H2 y => ?_⟩
    obtain ⟨Hb2, g2, dx⟩ := yl x H2 y
    have stay : ∀ {Hb3 H3 : Hp}, Good Dc Hb' H' Hb3 H3 → Hb3 p = none ∧ H3 p = some (.lst vacc) := fun {Hb3 H3} g => by
      refine ⟨?_, g.eh _ _ h' nd (fun _ h => nomatch h)⟩
      cases q : Hb3 p with
      | none => rfl
      | some u =>
        rcases g.dom p u q with ⟨o', z⟩ | z
        · rw [b'] at z; cases z
        · exact (z.nl h').elim
    have mw : M K Dc Hb0 H0 Hb2 H2 (wipe σ vs) (wipeD sd vs) := ((m1.step g').step g2).wipe vs
    refine ht x _ H2 (fun σ3 H3 => tYes σ3 H3 fun b H4 => if b = true then te σ3 H4 fun y H5 => ∃ a, H5 p = some (.lst a) ∧ a.length < sizeLine ∧ (∃ Hb2 acc2 vacc2, Good Dc Hb1 H1 Hb2 (upd H5 p (.lst (a ++ [y]))) ∧ Hb2 p = none ∧ (upd H5 p (.lst (a ++ [y]))) p = some (.lst vacc2) ∧ Dts K Dc Hb2 acc2 vacc2 ∧ I (i + 1) acc2)
        else (∃ Hb2 acc2 vacc2, Good Dc Hb1 H1 Hb2 H4 ∧ Hb2 p = none ∧ H4 p = some (.lst vacc2) ∧ Dts K Dc Hb2 acc2 vacc2 ∧ I (i + 1) acc2)) _ ?_ fun σ3 H3 q3 l3 f3 => ⟨wipe_wipe l3 f3, q3⟩
    refine hg Hb0 H0 Hb2 H2 _ _ xs[i] x _ _ mw dx (turn i xs[i] acc (by simp [hlt]) inv) fun Hb3 H3 σ3 sd3 g3 m3 hp3 => ?_
    simp only [tYes, if_true]
    refine he Hb0 H0 F hF Hb3 H3 σ3 sd3 _ _ m3 hp3 fun Hb5 H5 v d g5 dv hp5 => ?_
    have g := (g2.trans g3).trans g5
    obtain ⟨s1, s2⟩ := stay g
    exact ⟨vacc, s2, Evl.sz_lt (by rw [dacc.length]; exact hp5.1), Hb5, acc ++ [d], vacc ++ [v], (g'.trans g).mut hp1 s1 nd (fun o' e => by rw [s2] at e; cases e; exact plo_lst), s1, upd_same, (dacc.mono g.eb).append (dts_cons dv dts_nil), hp5.2⟩
  · have e : i = xs.length := by omega
    subst e
    exact .inl ⟨w2, k Hb' H' p vacc acc (g1.trans g') (g1.notnone hp1) b' h' dacc (fin acc inv)⟩
theorem dl_lcR {iter elt : Expr} {scope : Scope} {own : List (Str × Nat)} {wi : TI} {di : TAd} {g : TG} {dg : TGd} (cx : Ctx X Xe) (hN : X.N.Nodup) (hi : DI X K Dc Xe tg iter wi di) (ok : BlkOk X.N X.env.scope scope own)
    (hg : ∀ (s : Shared) (H : Hp) (C : Addr) (cl : List (Str × Addr)) (fp : List Addr), Ctx (X.blk s H scope (compEnvC scope cl C X.env) fp) E0 → DG (X.blk s H scope (compEnvC scope cl C X.env) fp) K Dc tg g dg) (ht : Tch g (own.map (·.2)))
    (he : ∀ (s : Shared) (H : Hp) (C : Addr) (cl : List (Str × Addr)) (fp : List Addr) (E : Value → Shared → Prop), Passes (L2N.CX X.prog X.w) { X.blk s H scope (compEnvC scope cl C X.env) fp with xe := E } Xe → DE { X.blk s H scope (compEnvC scope cl C X.env) fp with xe := E } K Dc Xe elt te dd)
    (hs : X.stack = X.env :: X.outer := by rfl) (hf : X.env.frame = some X.env.locals := by rfl) (hfs : ∀ x, foldedSetIterable iter X.env x = pure x := by intro _; rfl) :
    DL X K Dc Xe (.ListComp elt [⟨tg, iter, [], 0⟩] scope pos) (tLc wi g tYes te (own.map (·.2))) (dLcR di dg dd (own.map (·.2))) :=
  ⟨hi.hK, pe_lcR (W := fun cls d _ H => Xe cls d H) hs hf cx.tk (fun _ _ _ _ h => h) cx.calm hN hi.pe ok (fun s H C cl fp => (hg s H C cl fp (ctx_blk cx.calm)).pe) (fun s H C cl fp ps => (he s H C cl fp _ ps).pe) hfs,
    rl_lcR hi.rd (hg X.s_0 X.H_0 0 [] [] (ctx_blk cx.calm)).rd ht (he X.s_0 X.H_0 0 [] [] (fun _ _ => True) (fun _ _ _ _ _ _ _ _ => trivial)).rd⟩
/-- a call where only what it lets out is known -/
theorem de_callP {k : Nat} {x : Str} {ps : List Str} {C : Ctr} {tr : TA} {dr : TAd} {p : Pos} {e : Expr} {es : List Expr} (pass : Passes (L2N.CX X.prog X.w) X Xe) (F : FnD X.prog X.w K X.mg X.base k x ps C) (hr : Room k X.A) (ha : DA X K Dc Xe (e :: es) tr dr) (hg : Gl X x := by rfl) (hdb : (x == ("__debug__" : Str)) = false := by decide)
    (he : starEach (e :: es) X.env = (false, eval e X.env) :: starEach es X.env := by rfl) (hpl : (backTo pos (starEach es X.env)).any (·.1) = false := by rfl) : DE X K Dc Xe (.Call (.Name x p) (e :: es) [] pos) (tCall (spD K C) [] Xe tr) (dCall C dr) := by
  obtain rfl := ha.hK
  obtain ⟨f, fd, F, hm, hk, hb⟩ := F.ex
  exact ⟨rfl, pe_call F hr hg hm hk hb .nil pass ha.pe hdb he hpl, re_call ha.rd⟩
end
end RW

/-! texts: slices, signs, one after the other, int(text), text + text -/
set_option Elab.async false
set_option linter.all false
set_option maxRecDepth 100000
set_option maxHeartbeats 2000000
namespace RW
open PySem L2
open PySem.Spec PyProof.Rows
open Evl (Ex fresh_back)
section
variable {X : Cx} {K : PySem.W.Frag} {Dc : Gr} {Xe : XK} {e a b : Expr} {es : List Expr} {ta tb te : TE} {da db dd : TEd} {tg : Expr} {pos : Pos}
/-- one sign -/
abbrev sgn (c : Nat) : Str := ⟨#[c]⟩
/-- t[a:b] -/
@[simp] def dSlS (dd : TEd) (dl dh : TOd) : TEd := fun sd P F => dd sd (fun x => match x with | .str z => z.length ≤ 100000 ∧ dl sd (fun l => dh sd (fun h => P (.str (cutS z l h))) F) F | _ => False) F
theorem de_slS {lo hi : Option Expr} {tl th : TO} {dl dh : TOd} {p2 : Pos} (h : DE X K Dc Xe e te dd) (hl : DO X K Dc Xe lo tl dl) (hh : DO X K Dc Xe hi th dh) : DE X K Dc Xe (.Subscript e (.Slice lo hi none p2) pos) (tSl rSlS te tl th) (dSlS dd dl dh) := by
  obtain rfl := h.hK
  refine ⟨rfl, pe_slice sl_str h.pe hl.pe hh.pe, ?_⟩
  intro Hb0 H0 F hF Hb H σ sd P Q m hd k
  refine h.rd Hb0 H0 F hF Hb H σ sd _ _ m hd fun Hb1 H1 x d g1 dx hd1 => ?_
  cases d <;> try exact hd1.elim
  rename_i z
  simp only [Dt] at dx
  subst dx
  refine hl.rd Hb0 H0 F hF Hb1 H1 σ sd _ _ (m.step g1) hd1.2 fun Hb2 H2 l g2 hd2 => ?_
  refine hh.rd Hb0 H0 F hF Hb2 H2 σ sd _ _ ((m.step g1).step g2) hd2 fun Hb3 H3 u g3 hd3 => ?_
  exact ⟨z, rfl, Evl.sz_of hd1.1, k Hb3 H3 _ _ ((g1.trans g2).trans g3) dt_str hd3⟩
/-- a sign in a text -/
def rInS : R2 := fun x y H Q => ∃ (c : Nat) (z : Str), x = .str ⟨#[c]⟩ ∧ y = .str z ∧ Q (.bl (decide (c ∈ z.cps.toList))) H
@[simp] def dInS : D → D → (D → Prop) → Prop := fun x y P => ∃ (c : Nat) (z : Str), x = .str (sgn c) ∧ y = .str z ∧ P (.bl (decide (c ∈ z.cps.toList)))
theorem r2_inS : R2D K Dc rInS dInS := by
  intro Hb H x y d e P Q ok hx hy h k
  obtain ⟨c, z, rfl, rfl, hp⟩ := h
  simp only [Dt] at hx hy
  subst hx hy
  exact ⟨c, z, rfl, rfl, k Hb H _ _ ok dt_bl hp⟩
theorem de_inS (ha : DE X K Dc Xe a ta da) (hb : DE X K Dc Xe b tb db) (hm : behindInMarks .In b = false := by rfl) : DE X K Dc Xe (.Compare a [.In] [b] pos) (tOp rInS ta tb) (dOp dInS da db) := by obtain rfl := ha.hK; exact de_cmp op_in_sign r2_inS ha hb hm
/-- sign after sign -/
@[simp] def diS (dd : TEd) : TAd := fun sd P F => dd sd (fun x => match x with | .str z => P (z.cps.toList.map fun c => D.str (sgn c)) | _ => False) F
theorem di_str (h : DE X K Dc Xe e te dd) : DI X K Dc Xe tg e (iStr te) (diS dd) := by
  obtain rfl := h.hK
  refine ⟨rfl, pi_str h.pe, ?_⟩
  intro Hb0 H0 F hF Hb H σ sd P R m hd k
  refine h.rd Hb0 H0 F hF Hb H σ sd _ _ m hd fun Hb1 H1 x d g1 dx hd1 => ?_
  cases d <;> try exact hd1.elim
  rename_i z
  simp only [Dt] at dx
  subst dx
  refine ⟨z, rfl, k Hb1 H1 _ _ g1 (fun Hb H ok ex => ⟨fun i d e => ?_, ?_⟩) hd1⟩
  · rw [List.getElem?_map, Option.map_eq_some_iff] at e
    obtain ⟨c, hc, rfl⟩ := e
    have hc2 : z.cps[i]? = some c := by rw [← Array.getElem?_toList]; exact hc
    refine ⟨(Array.getElem?_eq_some_iff.mp hc2).1, fun x H' y => ?_⟩
    obtain ⟨e1, c', e2, rfl⟩ := y
    subst e1
    rw [hc2] at e2; cases e2
    exact ⟨Hb, ok, dt_str⟩
  · show z.cps.size ≤ (z.cps.toList.map fun c => D.str (sgn c)).length
    rw [List.length_map, Array.length_toList]
    exact Nat.le_refl _
/-- int(text) -/
def rIntS : List V → Hp → VK → Prop := fun xs H Q => ∃ a n, xs = [.str a] ∧ PySem.intText? a = some n ∧ a.length ≤ 640 ∧ Q (.int n) H
@[simp] def dIntS : List D → (D → Prop) → Prop := fun ds P => ∃ a n, ds = [.str a] ∧ PySem.intText? a = some n ∧ a.length ≤ 640 ∧ P (.int n)
theorem rc_intS : RCD K Dc rIntS dIntS := by
  intro Hb H xs ds P Q ok hd h k
  obtain ⟨a, n, rfl, h1, h2, hp⟩ := h
  obtain ⟨v, r, rfl, h3, h4⟩ := hd.cons
  rw [h4.nil]
  simp only [Dt] at h3
  subst h3
  exact ⟨a, n, rfl, h1, h2, k Hb H _ _ ok dt_int hp⟩
theorem de_intS {p : Pos} {tr : TA} {dr : TAd} (hm : X.mg "int" = none) (ha : DA X K Dc Xe (e :: es) tr dr) (hg : Gl X "int" := by rfl)
    (he : starEach (e :: es) X.env = (false, eval e X.env) :: starEach es X.env := by rfl) (hpl : (backTo pos (starEach es X.env)).any (·.1) = false := by rfl) : DE X K Dc Xe (.Call (.Name "int" p) (e :: es) [] pos) (tCB rIntS tr) (dCB dIntS dr) :=
  de_callTy (r := rIntS) call_int_str rc_intS hg hm (by decide +kernel) ha (by decide) (by decide) he hpl
/-- text + text -/
def rAddS : R2 := fun x y H Q => ∃ i j, x = .str i ∧ y = .str j ∧ i.length + j.length ≤ sizeLine ∧ Q (.str (i ++ j)) H
@[simp] def dAddS : D → D → (D → Prop) → Prop := fun x y P => ∃ i j : Str, x = .str i ∧ y = .str j ∧ i.length + j.length ≤ 100000 ∧ P (.str (i ++ j))
theorem r2_addS : R2D K Dc rAddS dAddS := by
  intro Hb H x y d e P Q ok hx hy h k
  obtain ⟨i, j, rfl, rfl, hl, hp⟩ := h
  simp only [Dt] at hx hy
  subst hx hy
  exact ⟨i, j, rfl, rfl, Evl.sz_of hl, k Hb H _ _ ok dt_str hp⟩
theorem de_addS (ha : DE X K Dc Xe a ta da) (hb : DE X K Dc Xe b tb db) : DE X K Dc Xe (.BinOp a .Add b pos) (tOp rAddS ta tb) (dOp dAddS da db) := by obtain rfl := ha.hK; exact de_op op_add_str r2_addS ha hb
/-- the sign at a place -/
@[simp] def dIxS : D → D → (D → Prop) → Prop := fun x y P => ∃ (z : Str) (i : Int) (c : Nat), x = .str z ∧ y = .int i ∧ z.length ≤ 100000 ∧ atI z.cps.toList i = some c ∧ P (.str (sgn c))
theorem r2_ixS : R2D K Dc rIxS dIxS := by
  intro Hb H x y d e P Q ok hx hy h k
  obtain ⟨z, i, c, rfl, rfl, hl, e, hp⟩ := h
  simp only [Dt] at hx hy
  subst hx hy
  exact ⟨z, i, c, rfl, rfl, Evl.sz_of hl, e, k Hb H _ _ ok dt_str hp⟩
theorem de_ixS (ha : DE X K Dc Xe a ta da) (hb : DE X K Dc Xe b tb db) (hs : PlainIx b := by exact fun _ _ => rfl) : DE X K Dc Xe (.Subscript a b pos) (tOp rIxS ta tb) (dOp dIxS da db) := by obtain rfl := ha.hK; exact ⟨rfl, pe_ix ix_str ha.pe hb.pe hs, re_op r2_ixS ha.rd hb.rd⟩
/-- text * number -/
def repS (z : Str) (n : Nat) : Str := ⟨(List.replicate n z.cps).foldl (· ++ ·) #[]⟩
theorem repS_list (z : Str) (n : Nat) : (repS z n).cps.toList = (List.replicate n z.cps.toList).flatten := by
  have go : ∀ (n : Nat) (acc : Array Nat), ((List.replicate n z.cps).foldl (· ++ ·) acc).toList = acc.toList ++ (List.replicate n z.cps.toList).flatten := by
    intro n
    induction n with
    | zero => intro acc; simp
    | succ n ih => intro acc; rw [List.replicate_succ, List.foldl_cons, ih, List.replicate_succ, List.flatten_cons, Array.toList_append, List.append_assoc]
  show ((List.replicate n z.cps).foldl (· ++ ·) #[]).toList = _
  rw [go n #[]]
  rfl
theorem repS_length (z : Str) (n : Nat) : (repS z n).length = n * z.length := by
  show (repS z n).cps.size = n * z.cps.size
  rw [← Array.length_toList, repS_list, List.length_flatten, List.map_replicate, List.sum_replicate_nat, Array.length_toList]
def rMulS : R2 := fun x y H Q => ∃ (z : Str) (n : Nat), x = .str z ∧ y = .int (n : Int) ∧ 1 < n ∧ 0 < z.length ∧ n * z.length ≤ 100000 ∧ Q (.str (repS z n)) H
@[simp] def dMulS : D → D → (D → Prop) → Prop := fun x y P => ∃ (z : Str) (n : Nat), x = .str z ∧ y = .int (n : Int) ∧ 1 < n ∧ 0 < z.length ∧ n * z.length ≤ 100000 ∧ P (.str (repS z n))
theorem op_mulS : OpR X (binaryOp .Mult) rMulS := by
  intro pins s σ H x y v u Q I rx ry h
  obtain ⟨z, n, rfl, rfl, hn, hz, hl, q⟩ := h
  obtain ⟨t, rfl⟩ := rx
  obtain ⟨t', rfl⟩ := ry
  have n5 : n ≤ 100000 := Nat.le_trans (Nat.le_mul_of_pos_right n hz) hl
  have e1 : ((n : Int) == 1 || z.length == 0) = false := by
    rw [Bool.or_eq_false_iff]
    exact ⟨by simpa using (show ¬ (n : Int) = 1 by omega), by simpa using (show ¬ z.length = 0 by omega)⟩
  refine PySem.P.mul_str (by rw [decide_eq_false (by omega), decide_eq_false (by omega)]; rfl) (fun _ _ => ?_) (fun _ _ => ?_) ?_
  · have h2 : (z.length : Int) * (n : Int) ≤ 100000 := by
      have : z.length * n ≤ 100000 := by rw [Nat.mul_comm]; exact hl
      rw [← Int.natCast_mul]
      exact Int.ofNat_le.mpr this
    have h3 : (z.length : Int) ≤ (2 ^ 63 - 1) / (n : Int) := (Int.le_ediv_iff_mul_le (by omega)).mpr (Int.le_trans h2 (by decide))
    omega
  · have : z.length * (n : Int).toNat ≤ 100000 := by rw [show ((n : Int)).toNat = n by omega, Nat.mul_comm]; exact hl
    show decide (z.length * (n : Int).toNat > sizeLine) = false
    exact decide_eq_false (Nat.not_lt.mpr (Evl.sz_of this))
  · rw [if_neg (show ¬ (n : Int) < 1 by omega), e1, if_neg Bool.false_ne_true]
    rw [show ((n : Int)).toNat = n by omega]
    refine ⟨?_, .str (repS z n), H, I.tok _, ⟨_, rfl⟩, q⟩
    show (repS z n).length ≤ sizeLine
    rw [repS_length]
    exact Evl.sz_of hl
theorem r2_mulS : R2D K Dc rMulS dMulS := by
  intro Hb H x y d e P Q ok hx hy h k
  obtain ⟨z, n, rfl, rfl, h1, h2, h3, hp⟩ := h
  simp only [Dt] at hx hy
  subst hx hy
  exact ⟨z, n, rfl, rfl, h1, h2, h3, k Hb H _ _ ok dt_str hp⟩
theorem de_mulS (ha : DE X K Dc Xe a ta da) (hb : DE X K Dc Xe b tb db) : DE X K Dc Xe (.BinOp a .Mult b pos) (tOp rMulS ta tb) (dOp dMulS da db) := by obtain rfl := ha.hK; exact de_op op_mulS r2_mulS ha hb
end
end RW

/-! texts: what stands between separators; numbers of one or two figures -/
set_option Elab.async false
set_option linter.all false
set_option maxRecDepth 100000
set_option maxHeartbeats 2000000
namespace RW
open PySem L2
/-- the signs of a text -/
abbrev cs (z : Str) : List Nat := z.cps.toList
theorem spl_sub (S : List Nat) : ∀ (l acc : List Nat) (k : Nat), ∀ p ∈ TL.spl S k acc l, (∀ c ∈ p, c ∈ acc ∨ c ∈ l) ∧ p.length ≤ acc.length + l.length
  | [], acc, k, p, hp => by
    rw [TL.spl_nil] at hp
    rw [List.mem_singleton.mp hp]
    exact ⟨fun c hc => .inl hc, by simp⟩
  | c :: r, acc, 0, p, hp => by
    unfold TL.spl at hp
    split at hp
    · rcases List.mem_cons.mp hp with rfl | hp
      · exact ⟨fun c hc => .inl hc, by simp⟩
      · obtain ⟨h1, h2⟩ := spl_sub S r [] _ p hp
        refine ⟨fun d hd => .inr (List.mem_cons_of_mem _ ((h1 d hd).resolve_left (fun z => nomatch z))), ?_⟩
        simp at h2 ⊢
        omega
    · obtain ⟨h1, h2⟩ := spl_sub S r _ _ p hp
      refine ⟨fun d hd => ?_, ?_⟩
      · rcases h1 d hd with h | h
        · rcases List.mem_append.mp h with h | h
          · exact .inl h
          · rw [List.mem_singleton.mp h]; exact .inr List.mem_cons_self
        · exact .inr (List.mem_cons_of_mem _ h)
      · simp at h2 ⊢
        omega
  | c :: r, acc, k + 1, p, hp => by
    unfold TL.spl at hp
    obtain ⟨h1, h2⟩ := spl_sub S r acc k p hp
    exact ⟨fun d hd => (h1 d hd).imp id (List.mem_cons_of_mem _), by simp at h2 ⊢; omega⟩
theorem spl_ne (S : List Nat) : ∀ (l acc : List Nat) (k : Nat), TL.spl S k acc l ≠ []
  | [], acc, k => by rw [TL.spl_nil]; simp
  | c :: r, acc, 0 => by
    unfold TL.spl
    split
    · simp
    · exact spl_ne S r _ _
  | c :: r, acc, k + 1 => by
    unfold TL.spl
    exact spl_ne S r acc k
/-- the separators: plain and not empty -/
def sepB (y : Str) : Bool := !(cs y).isEmpty && y.cps.all (· < 256)
theorem split_cs {x y : Str} (hy : sepB y = true) : (Txt.split x y).map cs = TL.spl (cs y) 0 [] (cs x) := by
  unfold sepB at hy
  obtain ⟨h1, h2⟩ := Bool.and_eq_true_iff.mp hy
  exact TL.split_spl x y (by intro e; have e : cs y = [] := e; rw [e] at h1; cases h1) (TL.kind_ok h2)
theorem split_ne {x y : Str} (hy : sepB y = true) : Txt.split x y ≠ [] := fun e => by
  have := split_cs (x := x) hy
  rw [e] at this
  exact spl_ne _ _ _ _ this.symm
theorem split_part {x y p : Str} (hy : sepB y = true) (hp : p ∈ Txt.split x y) : (∀ c ∈ cs p, c ∈ cs x) ∧ p.length ≤ x.length := by
  have h : cs p ∈ (Txt.split x y).map cs := List.mem_map.mpr ⟨p, hp, rfl⟩
  rw [split_cs hy] at h
  obtain ⟨h1, h2⟩ := spl_sub _ _ _ _ _ h
  refine ⟨fun c hc => (h1 c hc).resolve_left (fun z => nomatch z), ?_⟩
  have e : ∀ z : Str, z.length = (cs z).length := fun z => by show z.cps.size = _; rw [Array.length_toList]
  rw [e, e]
  simpa using h2
theorem strOk_cs {z : Str} : PyData.strOk z = true ↔ ∀ c ∈ cs z, c < 0x110000 := by
  show z.cps.all (· < 0x110000) = true ↔ _
  rw [← Array.all_toList, List.all_eq_true]
  exact ⟨fun h c hc => of_decide_eq_true (h c hc), fun h c hc => decide_eq_true (h c hc)⟩
theorem split_ok {x y p : Str} (hy : sepB y = true) (hx : PyData.strOk x = true) (hp : p ∈ Txt.split x y) : PyData.strOk p = true :=
  strOk_cs.mpr fun c hc => strOk_cs.mp hx c ((split_part hy hp).1 c hc)
/-! ### numbers of one or two figures -/
def mkS (l : List Nat) : Str := ⟨l.toArray⟩
theorem mkS_cs (z : Str) : mkS (cs z) = z := by
  obtain ⟨a⟩ := z
  rfl
theorem cs_mkS (l : List Nat) : cs (mkS l) = l := rfl
def isNegS (z : Str) : Bool := (cs z).take 1 == [45]
def digS (z : Str) : List Nat := if isNegS z = true then (cs z).drop 1 else cs z
def figB (c : Nat) : Bool := decide (48 ≤ c) && decide (c ≤ 57)
def numB (z : Str) : Bool := (decide (1 ≤ (digS z).length) && decide ((digS z).length ≤ 2)) && (digS z).all figB
def figs : List Nat := [48, 49, 50, 51, 52, 53, 54, 55, 56, 57]
def nums : List Str := ((figs.map fun a => [a]) ++ figs.flatMap fun a => figs.map fun b => [a, b]).flatMap fun l => [mkS l, mkS (45 :: l)]
def numV (z : Str) : Int := (PySem.intText? z).getD 0
theorem nums_ok : ∀ z ∈ nums, PySem.intText? z = some (numV z) ∧ -99 ≤ numV z ∧ numV z ≤ 99 ∧ z.length ≤ 3 := by decide +kernel
theorem fig_mem {c : Nat} (h : figB c = true) : c ∈ figs := by
  unfold figB at h
  simp only [Bool.and_eq_true, decide_eq_true_eq] at h
  have : c = 48 ∨ c = 49 ∨ c = 50 ∨ c = 51 ∨ c = 52 ∨ c = 53 ∨ c = 54 ∨ c = 55 ∨ c = 56 ∨ c = 57 := by omega
  simpa [figs] using this
theorem numB_mem {z : Str} (h : numB z = true) : z ∈ nums := by
  unfold numB at h
  obtain ⟨h1, h2⟩ := Bool.and_eq_true_iff.mp h
  obtain ⟨h3, h4⟩ := Bool.and_eq_true_iff.mp h1
  have h3 := of_decide_eq_true h3
  have h4 := of_decide_eq_true h4
  have hd : digS z ∈ ((figs.map fun a => [a]) ++ figs.flatMap fun a => figs.map fun b => [a, b]) := by
    rw [List.all_eq_true] at h2
    match e : digS z, h3, h4 with
    | [a], _, _ =>
      exact List.mem_append_left _ (List.mem_map.mpr ⟨a, fig_mem (h2 a (by rw [e]; simp)), rfl⟩)
    | [a, b], _, _ =>
      exact List.mem_append_right _ (List.mem_flatMap.mpr ⟨a, fig_mem (h2 a (by rw [e]; simp)), List.mem_map.mpr ⟨b, fig_mem (h2 b (by rw [e]; simp)), rfl⟩⟩)
  refine List.mem_flatMap.mpr ⟨digS z, hd, ?_⟩
  unfold digS
  by_cases c : isNegS z = true
  · rw [if_pos c]
    have e : cs z = 45 :: (cs z).drop 1 := by
      unfold isNegS at c
      have c : (cs z).take 1 = [45] := by simpa using c
      conv => lhs; rw [← List.take_append_drop 1 (cs z), c]
      rfl
    refine List.mem_cons_of_mem _ (List.mem_singleton.mpr ?_)
    rw [← e, mkS_cs]
  · rw [if_neg c, mkS_cs]
    exact List.mem_cons_self
end RW

set_option Elab.async false
set_option linter.all false
set_option maxRecDepth 100000
set_option maxHeartbeats 2000000
set_option exponentiation.threshold 20000
namespace RW
open PySem L2
open Evl (Ex fresh_back)
structure Raw (K : PySem.W.Frag) (mg : Str → Option Value) (x : Str) (st : Stmt) (ps : List Str) : Prop where
  ex : ∃ (f : Addr) (fd : FuncData), Fun K x x st f fd ∧ mg x = some (.ref f) ∧ Binds K fd ps []
structure Tx (K : PySem.W.Frag) (mg : Str → Option Value) : Prop where
  n_abs : mg "abs" = none
  n_len : mg "len" = none
  n_int : mg "int" = none
  n_isinstance : mg "isinstance" = none
  n_tuple : mg "tuple" = none
  n_bool : mg "bool" = none
  n_str : mg "str" = none
  n_all : mg "all" = none
  n_any : mg "any" = none
  n_range : mg "range" = none
  n_max : mg "max" = none
  n_min : mg "min" = none
  n_sum : mg "sum" = none
  n_ValueError : mg "ValueError" = none
  e6 : Exc6 K mg
  g_MOST_STEPS : ∃ t, mg "MOST_STEPS" = some (.int 4 t)
  g_TIES : ∃ a, mg "TIES" = some (.ref a) ∧ ∃ (o : Obj) (its : Array Value) (n : Nat), K.lookup a = some o ∧ o.cls = .type "tuple" ∧ o.data = .seq its n ∧ its.size ≤ sizeLine ∧ Vals [.str "up", .str "down", .str "even", .str "odd"] its.toList
  x_InvalidChain : XC K mg "InvalidChain"
  n_list : mg "list" = none
  n_enumerate : mg "enumerate" = none
  g_MOST_PLACES : ∃ t, mg "MOST_PLACES" = some (.int 1000 t)
  x_TooMany : XC K mg "TooMany"
  x_InvalidText : XC K mg "InvalidText"
  x_NothingToUndo : XC K mg "NothingToUndo"
  c_Desk : Cls K (addrOf mg "Desk")
  na_Desk_rows : NoAttr K (addrOf mg "Desk") "rows"
  na_Desk_undone : NoAttr K (addrOf mg "Desk") "undone"
  g_Desk : mg "Desk" = some (.ref (addrOf mg "Desk"))
  x_InvalidStep : XC K mg "InvalidStep"
  x_InvalidNumber : XC K mg "InvalidNumber"
  c_Wave : Cls K (addrOf mg "Wave")
  na_Wave_slope : NoAttr K (addrOf mg "Wave") "slope"
  na_Wave_period : NoAttr K (addrOf mg "Wave") "period"
  na_Wave_gain : NoAttr K (addrOf mg "Wave") "gain"
  na_Wave_places : NoAttr K (addrOf mg "Wave") "places"
section
variable {P : Program} {w : World} {K : PySem.W.Frag} {mg : Str → Option Value} {base : Heap}
theorem log2_of {n m : Nat} (h : n < 2 ^ m) (hm : 0 < m) : n.log2 < m := PySem.Flt.log2_lt_of hm h
theorem cm_of {i j : Int} {a b : Nat} (h1 : i.natAbs < 2 ^ a) (h2 : j.natAbs < 2 ^ b) (ha : 0 < a) (hb : 0 < b) (h : a + b ≤ 1000000) : CM i j := .inr (wide_mul h1 h2 ha hb h)
theorem half_fr : fr 1 2 = rt (1 / 2) := by
  rw [show (rt (1 / 2)) = fr ((1 / 2 : Rat).num) (((1 / 2 : Rat).den : Nat) : Int) from rfl, show (1 / 2 : Rat).num = 1 by decide +kernel, show (1 / 2 : Rat).den = 2 by decide +kernel]
  rfl
abbrev tiesD : D := .ktp [.str "up", .str "down", .str "even", .str "odd"]
theorem de_g_MOST_STEPS {X : Cx} {Dc : Gr} {Xe : XK} {pos : Pos} (T : Tx K X.mg) (hg : Gl X "MOST_STEPS" := by rfl) (hK : X.K = K := by rfl) : DE X K Dc Xe (.Name "MOST_STEPS" pos) (tC (.int 4)) (dC (.int 4)) := by
  obtain ⟨t, h⟩ := T.g_MOST_STEPS
  exact de_glob hg h ⟨t, rfl⟩ (fun _ => dt_int) (by decide) hK
theorem de_g_TIES {X : Cx} {Dc : Gr} {Xe : XK} {pos : Pos} (T : Tx K X.mg) (hg : Gl X "TIES" := by rfl) (hK : X.K = K := by rfl) : DE X K Dc Xe (.Name "TIES" pos) (tC (.ref (addrOf X.mg "TIES"))) (dC tiesD) := by
  obtain ⟨a, h, o, its, n, h1, h2, h3, h4, h5⟩ := T.g_TIES
  have e : addrOf X.mg "TIES" = a := by unfold addrOf; rw [h]
  rw [e]
  refine de_glob (u := .ref a) hg h rfl (fun Hb => ?_) (by decide) hK
  simp only [Dt]
  exact ⟨a, _, rfl, .inr ⟨o, its, n, h1, h2, h3, h4, h5⟩, dts_cons dt_str (dts_cons dt_str (dts_cons dt_str (dts_cons dt_str dts_nil)))⟩
mutual
def pl : D → Bool
  | .non => true | .bl _ => true | .int _ => true | .str x => PyData.strOk x
  | .tup ds => pls ds
  | .lst ds => pls ds
  | _ => false
def pls : List D → Bool
  | [] => true
  | d :: ds => pl d && pls ds
end
def isWholeB : D → Int → Int → Bool
  | .int i, lo, hi => decide (lo ≤ i) && decide (i ≤ hi)
  | _, _, _ => false
theorem isWholeB_int {d : D} {lo hi : Int} (h : isWholeB d lo hi = true) : ∃ i, d = .int i ∧ lo ≤ i ∧ i ≤ hi := by
  cases d <;> simp [isWholeB] at h
  exact ⟨_, rfl, h.1, h.2⟩
def isFrB : D → Int → Bool
  | .tup [x, y], far => isWholeB x (-far) far && (isWholeB y 1 far && (match x, y with | .int a, .int b => decide (Int.gcd a b = 1) | _, _ => false))
  | _, _ => false
theorem isFrB_fr {d : D} {far : Int} (h : isFrB d far = true) : ∃ a b, d = fr a b := by
  unfold isFrB at h
  split at h
  · rename_i x y
    simp only [Bool.and_eq_true] at h
    obtain ⟨i, rfl, _⟩ := isWholeB_int h.1
    obtain ⟨j, rfl, _⟩ := isWholeB_int h.2.1
    exact ⟨i, j, rfl⟩
  · cases h
def topB (p : Int → Bool) : D → Bool
  | .tup (.int a :: _) => p a
  | _ => false
def tieB : D → Bool
  | .str s => inV (.str s) [.str "up", .str "down", .str "even", .str "odd"]
  | _ => false
def isStepB : D → Bool
  | .tup [.str k, f] => isFrB f 10 && (if inV (.str k) [.str "down", .str "up", .str "rest"] then topB (fun a => decide (0 < a)) f else decide (k = "add") || (decide (k = "times") && topB (fun a => !decide (a = 0)) f))
  | .tup [.str k, f, t] => isFrB f 10 && (decide (k = "near") && (topB (fun a => decide (0 < a)) f && tieB t))
  | _ => false
def isChB : D → Bool
  | .tup xs => decide (xs.length ≤ 4) && xs.all isStepB
  | _ => false
abbrev s_divisor : Stmt := topS 10
abbrev N_divisor : List Str := ["one", "other"]
theorem sc_divisor : FnScope N_divisor ["one", "other"] (defScope s_divisor) := ⟨rfl, rfl, rfl, by decide +kernel, rfl, by decide +kernel, by decide +kernel⟩
def divisorC : Ctr := fun ds Q _ => ∃ a b : Int, ds = [.int a, .int b] ∧ Q (.int (Int.gcd a b))
theorem fn_divisor (T : Tx K mg) (R : Raw K mg "divisor" s_divisor ["one", "other"])  : FnD P w K mg base 1 "divisor" ["one", "other"] divisorC := by
  obtain ⟨f, fd, R, gm, hb⟩ := R.ex
  refine fnD_of R gm sc_divisor hb (fun ds Q F h => ?_) (fun cdv A outer s H E Dc hr => ?_)
  · obtain ⟨_, _, rfl, _⟩ := h; rfl
  have cx : Ctx (cxOf (L2N.CX P w) P w K mg base N_divisor "divisor" (defScope s_divisor) f cdv A outer s H E) E := ctx_of
  refine ⟨_, _, (dss_cons (ds_par 0 1 cx.calm sc_divisor.nd (da_cons (de_abs T.n_abs (da_cons (dv 0) da_nil)) (da_cons (de_abs T.n_abs (da_cons (dv 1) da_nil)) da_nil)))
  (dss_cons (ds_while cx (dt_ne hr (dv 1) (de_int))
    (dss_one (ds_par 0 1 cx.calm sc_divisor.nd (da_cons (dv 1) (da_cons (de_mod (dv 0) (dv 1)) da_nil)))))
  (dss_one (ds_ret (dv 0))))), fun ds Q F hc => ?_⟩
  obtain ⟨a, b, rfl, hQ⟩ := hc
  refine ⟨fun m sd => ∃ x y : Int, sd = [.dat (.int x), .dat (.int y)] ∧ 0 ≤ x ∧ 0 ≤ y ∧ Int.gcd x y = Int.gcd a b ∧ m = y.toNat, ⟨_, _, _, rfl, ?_, ?_, ?_, rfl⟩, ?_⟩
  · split <;> omega
  · split <;> omega
  · split <;> split <;> simp
  · rintro m sd ⟨x, y, rfl, hx, hy, hg, rfl⟩
    refine ⟨rfl, rfl, ?_⟩
    show if (!PyData.eqv (.int y) (.int 0)) = true then _ else _
    rw [eqv_int]
    by_cases h : y = 0
    · refine ite_f (by rw [h]; rfl) ?_
      show Q (.int x)
      rw [h, Int.gcd_zero_right] at hg
      rw [← hg] at hQ
      have e : ((x.natAbs : Nat) : Int) = x := by omega
      rw [e] at hQ
      exact hQ
    · refine ite_t (by simp [h]) ⟨fun sd => ∃ x' y' : Int, sd = [.dat (.int x'), .dat (.int y')] ∧ x' = y ∧ y' = x.fmod y, ?_, ?_⟩
      · rintro sd ⟨x', y', rfl, rfl, rfl⟩
        have hy0 : 0 < x' := by omega
        rw [Int.fmod_eq_emod_of_nonneg x (by omega)]
        have h1 := Int.emod_nonneg x (show x' ≠ 0 by omega)
        have h2 := Int.emod_lt_of_pos x hy0
        exact ⟨(x % x').toNat, by omega, x', x % x', rfl, by omega, by omega, by rw [← hg]; exact gcd_em hx hy, rfl⟩
      · exact ⟨h, y, x.fmod y, rfl, rfl, rfl⟩

abbrev s_lowest : Stmt := topS 11
abbrev N_lowest : List Str := ["top", "bottom", "common"]
theorem sc_lowest : FnScope N_lowest ["top", "bottom"] (defScope s_lowest) := ⟨rfl, rfl, rfl, by decide +kernel, rfl, by decide +kernel, by decide +kernel⟩
def lowestC : Ctr := fun ds Q _ => ∃ t b : Int, ds = [.int t, .int b] ∧ b ≠ 0 ∧ b.natAbs < 2 ^ 9000 ∧ Q (rt (Rat.divInt t b))
theorem fn_lowest (T : Tx K mg) (R : Raw K mg "lowest" s_lowest ["top", "bottom"]) (F_divisor : FnD P w K mg base 1 "divisor" ["one", "other"] divisorC) : FnD P w K mg base 2 "lowest" ["top", "bottom"] lowestC := by
  obtain ⟨f, fd, R, gm, hb⟩ := R.ex
  refine fnD_of R gm sc_lowest hb (fun ds Q F h => ?_) (fun cdv A outer s H E Dc hr => ?_)
  · obtain ⟨_, _, rfl, _⟩ := h; rfl
  have cx : Ctx (cxOf (L2N.CX P w) P w K mg base N_lowest "lowest" (defScope s_lowest) f cdv A outer s H E) E := ctx_of
  refine ⟨_, _, (dss_cons (ds_set 2 sc_lowest.nd (de_call cx F_divisor (hr.mono (by decide)) (da_cons (dv 0) (da_cons (dv 1) da_nil))))
  (dss_cons (ds_set 2 sc_lowest.nd (de_if (dt_lt (dv 1) (de_int)) (de_neg (dv 2)) (dv 2)))
  (dss_one (ds_ret (de_tup (da_cons (de_fdv (dv 0) (dv 2)) (da_cons (de_fdv (dv 1) (dv 2)) da_nil))))))), fun ds Q F hc => ?_⟩
  obtain ⟨t, b, rfl, hb0, hsz, hQ⟩ := hc
  refine ⟨t, b, rfl, ?_⟩
  have e1 := low_num (t := t) hb0
  have e2 := low_den (t := t) hb0
  have hg : 0 < Int.gcd t b := Nat.pos_of_ne_zero fun h => hb0 (Int.gcd_eq_zero_iff.mp h).2
  have hl : (Int.gcd t b).log2 < 9000 := log2_of (Nat.lt_of_le_of_lt (Nat.le_of_dvd (by omega) (Int.natAbs_dvd_natAbs.mpr (Int.gcd_dvd_right t b) |> fun z => by simpa using z)) hsz) (by decide)
  have fin : ∀ c : Int, c = (if b < 0 then -(Int.gcd t b : Int) else (Int.gcd t b : Int)) → CF t c ∧ CF b c ∧ 2 ≤ 100000 ∧ Q (fr (t.fdiv c) (b.fdiv c)) := fun c hc => by
    have hn : c.natAbs = Int.gcd t b := by rw [hc]; split <;> simp
    have h0 : c ≠ 0 := by omega
    refine ⟨⟨h0, by rw [hn]; exact hl⟩, ⟨h0, by rw [hn]; exact hl⟩, by decide, ?_⟩
    rw [hc, e1, e2]
    exact hQ
  refine ite_b (fun h => ?_) (fun h => ?_)
  · exact fin _ (by rw [if_pos (of_decide_eq_true h)])
  · exact fin _ (by rw [if_neg (of_decide_eq_false h)])

abbrev s_is_whole : Stmt := topS 19
abbrev N_is_whole : List Str := ["value", "low", "high"]
theorem sc_is_whole : FnScope N_is_whole ["value", "low", "high"] (defScope s_is_whole) := ⟨rfl, rfl, rfl, by decide +kernel, rfl, by decide +kernel, by decide +kernel⟩
def is_wholeC : Ctr := fun ds Q _ => ∃ d lo hi, ds = [d, .int lo, .int hi] ∧ pl d = true ∧ Q (.bl (isWholeB d lo hi))
theorem fn_is_whole (T : Tx K mg) (R : Raw K mg "is_whole" s_is_whole ["value", "low", "high"])  : FnD P w K mg base 1 "is_whole" ["value", "low", "high"] is_wholeC := by
  obtain ⟨f, fd, R, gm, hb⟩ := R.ex
  refine fnD_of R gm sc_is_whole hb (fun ds Q F h => ?_) (fun cdv A outer s H E Dc hr => ?_)
  · obtain ⟨_, _, _, rfl, _⟩ := h; rfl
  have cx : Ctx (cxOf (L2N.CX P w) P w K mg base N_is_whole "is_whole" (defScope s_is_whole) f cdv A outer s H E) E := ctx_of
  refine ⟨_, _, (dss_one (ds_ret (de_and (de_isi isi_int T.n_isinstance T.n_int (by decide +kernel) (dv 0)) (de_and (de_not (de_isi isi_bool T.n_isinstance T.n_bool (by decide +kernel) (dv 0))) (de_one (de_lele (dv 1) (dv 0) (dv 2))))))), fun ds Q F hc => ?_⟩
  obtain ⟨d, lo, hi, rfl, hd, hQ⟩ := hc
  cases d <;> simp [isWholeB, pl] at hd hQ ⊢ <;> try exact hQ
  rename_i i
  by_cases h1 : lo ≤ i
  · simp [h1] at hQ ⊢
    exact hQ
  · simp [h1] at hQ ⊢
    exact hQ

abbrev s_is_fraction : Stmt := topS 20
abbrev N_is_fraction : List Str := ["value", "far"]
theorem sc_is_fraction : FnScope N_is_fraction ["value", "far"] (defScope s_is_fraction) := ⟨rfl, rfl, rfl, by decide +kernel, rfl, by decide +kernel, by decide +kernel⟩
def is_fractionC : Ctr := fun ds Q _ => ∃ d far, ds = [d, .int far] ∧ pl d = true ∧ Q (.bl (isFrB d far))
theorem fn_is_fraction (T : Tx K mg) (R : Raw K mg "is_fraction" s_is_fraction ["value", "far"]) (F_is_whole : FnD P w K mg base 1 "is_whole" ["value", "low", "high"] is_wholeC) (F_divisor : FnD P w K mg base 1 "divisor" ["one", "other"] divisorC) : FnD P w K mg base 2 "is_fraction" ["value", "far"] is_fractionC := by
  obtain ⟨f, fd, R, gm, hb⟩ := R.ex
  refine fnD_of R gm sc_is_fraction hb (fun ds Q F h => ?_) (fun cdv A outer s H E Dc hr => ?_)
  · obtain ⟨_, _, rfl, _⟩ := h; rfl
  have cx : Ctx (cxOf (L2N.CX P w) P w K mg base N_is_fraction "is_fraction" (defScope s_is_fraction) f cdv A outer s H E) E := ctx_of
  refine ⟨_, _, (dss_cons (ds_if (dt_w (dw_or (dt_not (dt_val (de_isi isi_tup T.n_isinstance T.n_tuple (by decide +kernel) (dv 0)))) (dw_or (dt_ne hr (de_len T.n_len (da_cons (dv 0) da_nil)) (de_int)) (dw_or1 (dt_not (dt_val (de_call cx F_is_whole (hr.mono (by decide)) (da_cons (de_ix (dv 0) (de_int)) (da_cons (de_neg (dv 1)) (da_cons (dv 1) da_nil))))))))))
    (dss_one (ds_ret (de_bl)))
    dss_nil)
  (dss_one (ds_ret (de_and (de_call cx F_is_whole (hr.mono (by decide)) (da_cons (de_ix (dv 0) (de_int)) (da_cons (de_int) (da_cons (dv 1) da_nil)))) (de_one (de_eq hr (de_call cx F_divisor (hr.mono (by decide)) (da_cons (de_ix (dv 0) (de_int)) (da_cons (de_ix (dv 0) (de_int)) da_nil))) (de_int))))))), fun ds Q F hc => ?_⟩
  obtain ⟨d, far, rfl, hd, hQ⟩ := hc
  cases d with
  | tup xs =>
    match xs, hd, hQ with
    | [], hd, hQ => simp [isFrB, shp, SeqAt.shaped, PyData.canLay0, PyData.depth, eqv_int] at hQ ⊢; exact hQ
    | [x], hd, hQ => simp [isFrB, shp, SeqAt.shaped, PyData.canLay0, PyData.depth, eqv_int] at hQ ⊢; exact hQ
    | x :: y :: z :: r, hd, hQ =>
      have h2 : ¬ ((r.length : Int) + 1 + 1 + 1 = 2) := by omega
      simp [isFrB, shp, SeqAt.shaped, PyData.canLay0, PyData.depth, eqv_int, h2] at hQ ⊢; exact hQ
    | [x, y], hd, hQ =>
      simp only [pl, pls, Bool.and_true, Bool.and_eq_true] at hd
      simp [shp, SeqAt.shaped, PyData.canLay0, PyData.depth, eqv_int, atI, ixN]
      refine ⟨x, -far, far, rfl, hd.1, ?_⟩
      refine ite_b (fun h1 => ?_) (fun h1 => ?_)
      · refine ⟨y, 1, far, rfl, hd.2, ?_⟩
        cases h2 : isWholeB y 1 far
        · simp [isFrB, h1, h2] at hQ
          exact hQ
        · obtain ⟨a, rfl, _⟩ := isWholeB_int h1
          obtain ⟨b, rfl, _⟩ := isWholeB_int h2
          refine ⟨a, b, rfl, ⟨rfl, by simp [PyData.depth]⟩, ?_⟩
          simp only [isFrB, h1, h2, Bool.true_and] at hQ
          show Q (.bl (PyData.eqv (.int _) (.int 1)))
          rw [eqv_int, show decide (((Int.gcd a b : Nat) : Int) = 1) = decide (Int.gcd a b = 1) from decide_eq_decide.mpr (by omega)]
          exact hQ
      · simp [isFrB, h1] at hQ
        exact hQ
  | _ => simp [pl, isFrB] at hd hQ ⊢ <;> exact hQ

abbrev s_is_step : Stmt := topS 25
abbrev N_is_step : List Str := ["value"]
theorem sc_is_step : FnScope N_is_step ["value"] (defScope s_is_step) := ⟨rfl, rfl, rfl, by decide +kernel, rfl, by decide +kernel, by decide +kernel⟩
def is_stepC : Ctr := fun ds Q _ => ∃ d, ds = [d] ∧ pl d = true ∧ Q (.bl (isStepB d))
theorem fn_is_step (T : Tx K mg) (R : Raw K mg "is_step" s_is_step ["value"]) (F_is_fraction : FnD P w K mg base 2 "is_fraction" ["value", "far"] is_fractionC) : FnD P w K mg base 3 "is_step" ["value"] is_stepC := by
  obtain ⟨f, fd, R, gm, hb⟩ := R.ex
  refine fnD_of R gm sc_is_step hb (fun ds Q F h => ?_) (fun cdv A outer s H E Dc hr => ?_)
  · obtain ⟨_, rfl, _⟩ := h; rfl
  have cx : Ctx (cxOf (L2N.CX P w) P w K mg base N_is_step "is_step" (defScope s_is_step) f cdv A outer s H E) E := ctx_of
  refine ⟨_, _, (dss_cons (ds_if (dt_w (dw_or (dt_not (dt_val (de_isi isi_tup T.n_isinstance T.n_tuple (by decide +kernel) (dv 0)))) (dw_or (dt_notIn (de_len T.n_len (da_cons (dv 0) da_nil)) (de_tup (da_cons (de_int) (da_cons (de_int) da_nil)))) (dw_or1 (dt_not (dt_val (de_isi isi_str T.n_isinstance T.n_str (by decide +kernel) (de_ix (dv 0) (de_int)))))))))
    (dss_one (ds_ret (de_bl)))
    dss_nil)
  (dss_cons (ds_if (dt_not (dt_val (de_call cx F_is_fraction (hr.mono (by decide)) (da_cons (de_ix (dv 0) (de_int)) (da_cons (de_int) da_nil)))))
    (dss_one (ds_ret (de_bl)))
    dss_nil)
  (dss_cons (ds_if (dt_eq hr (de_len T.n_len (da_cons (dv 0) da_nil)) (de_int))
    (dss_one (ds_ret (de_and (de_eq hr (de_ix (dv 0) (de_int)) (de_str)) (de_and (de_gt (de_ix (de_ix (dv 0) (de_int)) (de_int)) (de_int)) (de_and (de_isi isi_str T.n_isinstance T.n_str (by decide +kernel) (de_ix (dv 0) (de_int))) (de_one (de_in (de_ix (dv 0) (de_int)) (de_g_TIES T))))))))
    dss_nil)
  (dss_cons (ds_if (dt_in (de_ix (dv 0) (de_int)) (de_tup (da_cons (de_str) (da_cons (de_str) (da_cons (de_str) da_nil)))))
    (dss_one (ds_ret (de_gt (de_ix (de_ix (dv 0) (de_int)) (de_int)) (de_int))))
    dss_nil)
  (dss_one (ds_ret (de_or (de_eq hr (de_ix (dv 0) (de_int)) (de_str)) (de_one (de_and (de_eq hr (de_ix (dv 0) (de_int)) (de_str)) (de_one (de_ne hr (de_ix (de_ix (dv 0) (de_int)) (de_int)) (de_int)))))))))))), fun ds Q F hc => ?_⟩
  obtain ⟨d, rfl, hd, hQ⟩ := hc
  cases d with
  | tup xs =>
    match xs, hd, hQ with
    | [], hd, hQ => simp [isStepB, shp, SeqAt.shaped, PyData.canLay0, PyData.depth, eqv_int, atI, ixN, inV, eqV] at hQ ⊢; exact hQ
    | [x], hd, hQ => simp [isStepB, shp, SeqAt.shaped, PyData.canLay0, PyData.depth, eqv_int, atI, ixN, inV, eqV] at hQ ⊢; exact hQ
    | x :: y :: z :: u :: r, hd, hQ =>
      have h2 : ¬ (2 = (r.length : Int) + 1 + 1 + 1 + 1) := by omega
      have h3 : ¬ (3 = (r.length : Int) + 1 + 1 + 1 + 1) := by omega
      simp [isStepB, shp, SeqAt.shaped, PyData.canLay0, PyData.depth, eqv_int, atI, ixN, inV, eqV, h2, h3] at hQ ⊢; exact hQ
    | [x, y], hd, hQ =>
      simp only [pl, pls, Bool.and_true, Bool.and_eq_true] at hd
      cases x with
      | str k =>
        simp [shp, SeqAt.shaped, PyData.canLay0, PyData.depth, eqv_int, atI, ixN, inV, eqV]
        refine ⟨y, 10, rfl, hd.2, ?_⟩
        cases hf : isFrB y 10
        · simp [isStepB, hf] at hQ
          exact hQ
        · obtain ⟨a, b, rfl⟩ := isFrB_fr hf
          simp only [isStepB, hf, Bool.true_and, topB] at hQ
          have hk : PyData.strOk k = true := hd.1
          simp [shp, SeqAt.shaped, PyData.canLay0, PyData.depth, eqv_int, atI, ixN, eqv_str, hk]
          by_cases h1 : "down" = k ∨ "up" = k ∨ "rest" = k
          · rw [if_pos h1]
            simp only [inV, eqV, List.any_cons, List.any_nil, Bool.or_false] at hQ
            simp only [Bool.or_eq_true, beq_iff_eq, decide_eq_true_eq, h1, if_true] at hQ
            exact hQ
          · rw [if_neg h1]
            simp only [inV, eqV, List.any_cons, List.any_nil, Bool.or_false] at hQ
            simp only [Bool.or_eq_true, beq_iff_eq, decide_eq_true_eq, h1, if_false] at hQ
            refine ⟨by decide +kernel, ?_⟩
            by_cases h2 : k = "add"
            · simp [h2] at hQ ⊢
              exact hQ
            · simp only [h2, decide_false, Bool.false_or] at hQ ⊢
              refine ⟨by decide +kernel, ?_⟩
              by_cases h3 : k = "times"
              · simp [h3] at hQ ⊢
                exact hQ
              · simp [h3] at hQ ⊢
                exact hQ
      | _ => simp [isStepB, shp, SeqAt.shaped, PyData.canLay0, PyData.depth, eqv_int, atI, ixN, inV, eqV, pl] at hd hQ ⊢ <;> exact hQ
    | [x, y, z], hd, hQ =>
      simp only [pl, pls, Bool.and_true, Bool.and_eq_true] at hd
      cases x with
      | str k =>
        simp [shp, SeqAt.shaped, PyData.canLay0, PyData.depth, eqv_int, atI, ixN, inV, eqV]
        refine ⟨y, 10, rfl, hd.2.1, ?_⟩
        cases hf : isFrB y 10
        · simp [isStepB, hf] at hQ
          exact hQ
        · obtain ⟨a, b, rfl⟩ := isFrB_fr hf
          simp only [isStepB, hf, Bool.true_and, topB] at hQ
          have hk : PyData.strOk k = true := hd.1
          simp [shp, SeqAt.shaped, PyData.canLay0, PyData.depth, eqv_int, atI, ixN, eqv_str, hk]
          refine ⟨by decide +kernel, ?_⟩
          by_cases h1 : k = "near"
          · simp only [h1, decide_true, Bool.true_and] at hQ ⊢
            by_cases h2 : 0 < a
            · simp only [h2, decide_true, Bool.true_and] at hQ ⊢
              cases z with
              | str t => simp [tieB, inV, eqV] at hQ ⊢; exact hQ
              | _ => simp [tieB, pl] at hd hQ ⊢ <;> exact hQ
            · simp only [h2, decide_false, Bool.false_and] at hQ ⊢
              exact hQ
          · simp [h1] at hQ ⊢
            exact hQ
      | _ => simp [isStepB, shp, SeqAt.shaped, PyData.canLay0, PyData.depth, eqv_int, atI, ixN, inV, eqV, pl] at hd hQ ⊢ <;> exact hQ
  | _ => simp [pl, isStepB] at hd hQ ⊢ <;> exact hQ

abbrev s_is_chain : Stmt := topS 26
abbrev N_is_chain : List Str := ["value", "one"]
theorem sc_is_chain : FnScope N_is_chain ["value"] (defScope s_is_chain) := ⟨rfl, rfl, rfl, by decide +kernel, rfl, by decide +kernel, by decide +kernel⟩
theorem bls_map (f : D → Bool) : ∀ xs : List D, bls (xs.map fun d => D.bl (f d)) = some (xs.map f)
  | [] => rfl
  | x :: xs => by simp [bls, bls_map f xs]
theorem pls_get : ∀ {xs : List D} {i : Nat} {d : D}, pls xs = true → xs[i]? = some d → pl d = true
  | [], _, _, _, e => by simp at e
  | x :: xs, 0, d, h, e => by simp at e; simp [pls] at h; rw [← e]; exact h.1
  | x :: xs, i + 1, d, h, e => by simp [pls] at h; exact pls_get (i := i) h.2 (by simpa using e)
def is_chainC : Ctr := fun ds Q _ => ∃ d, ds = [d] ∧ pl d = true ∧ (∀ xs, d = .tup xs → xs.length ≤ 90000) ∧ Q (.bl (isChB d))
theorem fn_is_chain (T : Tx K mg) (R : Raw K mg "is_chain" s_is_chain ["value"]) (F_is_step : FnD P w K mg base 3 "is_step" ["value"] is_stepC) : FnD P w K mg base 4 "is_chain" ["value"] is_chainC := by
  obtain ⟨f, fd, R, gm, hb⟩ := R.ex
  refine fnD_of R gm sc_is_chain hb (fun ds Q F h => ?_) (fun cdv A outer s H E Dc hr => ?_)
  · obtain ⟨_, rfl, _⟩ := h; rfl
  have cx : Ctx (cxOf (L2N.CX P w) P w K mg base N_is_chain "is_chain" (defScope s_is_chain) f cdv A outer s H E) E := ctx_of
  refine ⟨_, _, (dss_one (ds_ret (de_and (de_isi isi_tup T.n_isinstance T.n_tuple (by decide +kernel) (dv 0)) (de_and (de_le (de_len T.n_len (da_cons (dv 0) da_nil)) (de_g_MOST_STEPS T)) (de_one (de_all cx T.n_all (da_cons (de_ofL (dl_lc (own := [("one", 1)]) cx sc_is_chain.nd (di_tup (dv 0)) (blkOk_by (own := [("one", 1)]) (N := N_is_chain) (sc := defScope s_is_chain) (by decide +kernel)) (fun _ _ _ _ _ c => dg_name (i := 1) sc_is_chain.nd) (tch_name (by decide)) (fun _ _ _ _ _ c => dts_none) (fun _ _ _ _ _ c => de_call c F_is_step (hr.mono (by decide)) (da_cons (dv 1) da_nil)))) da_nil))))))), fun ds Q F hc => ?_⟩
  obtain ⟨d, rfl, hd, hl, hQ⟩ := hc
  cases d with
  | tup xs =>
    simp only [pl] at hd
    by_cases h4 : (xs.length : Int) ≤ 4
    · have h4' : xs.length ≤ 4 := by omega
      simp
      simp only [h4, decide_true]
      refine ⟨fun i acc => i ≤ xs.length ∧ acc = (xs.take i).map fun d => D.bl (isStepB d), ⟨Nat.zero_le _, rfl⟩, ?_, ?_⟩
      · rintro i d acc hi ⟨hle, rfl⟩
        refine ⟨d, rfl, pls_get hd hi, ?_⟩
        have hlt := (List.getElem?_eq_some_iff.mp hi).1
        refine ⟨by simp; omega, hlt, ?_⟩
        rw [List.take_succ, hi]
        simp
      · rintro acc ⟨_, rfl⟩
        simp [bls_map]
        simp [isChB, h4'] at hQ
        exact hQ
    · have h4' : ¬ (xs.length ≤ 4) := by omega
      simp
      simp only [h4, decide_false]
      simp [isChB, h4'] at hQ
      exact hQ
  | _ => simp [pl, isChB] at hd hQ ⊢ <;> exact hQ

abbrev s_need_chain : Stmt := topS 27
abbrev N_need_chain : List Str := ["chain"]
theorem sc_need_chain : FnScope N_need_chain ["chain"] (defScope s_need_chain) := ⟨rfl, rfl, rfl, by decide +kernel, rfl, by decide +kernel, by decide +kernel⟩
def need_chainC (mg : Str → Option Value) : Ctr := fun ds Q F => ∃ d, ds = [d] ∧ pl d = true ∧ (∀ xs, d = .tup xs → xs.length ≤ 90000) ∧ (if isChB d = true then Q .non else F (clsOf mg "InvalidChain"))
theorem fn_need_chain (T : Tx K mg) (R : Raw K mg "need_chain" s_need_chain ["chain"]) (F_is_chain : FnD P w K mg base 4 "is_chain" ["value"] is_chainC) : FnD P w K mg base 5 "need_chain" ["chain"] (need_chainC mg) := by
  obtain ⟨f, fd, R, gm, hb⟩ := R.ex
  refine fnD_of R gm sc_need_chain hb (fun ds Q F h => ?_) (fun cdv A outer s H E Dc hr => ?_)
  · obtain ⟨_, rfl, _⟩ := h; rfl
  have cx : Ctx (cxOf (L2N.CX P w) P w K mg base N_need_chain "need_chain" (defScope s_need_chain) f cdv A outer s H E) E := ctx_of
  refine ⟨_, _, (dss_one (ds_if (dt_not (dt_val (de_call cx F_is_chain (hr.mono (by decide)) (da_cons (dv 0) da_nil))))
    (dss_one (ds_raiseC cx T.x_InvalidChain))
    dss_nil)), fun ds Q F hc => ?_⟩
  obtain ⟨d, rfl, hd, hl, hQ⟩ := hc
  refine ⟨d, rfl, hd, hl, ?_⟩
  cases h : isChB d
  · simp [h] at hQ ⊢
    exact hQ
  · simp [h] at hQ ⊢
    exact hQ


structure RawM (K : PySem.W.Frag) (mg : Str → Option Value) (c m qual : Str) (st : Stmt) (ps : List Str) : Prop where
  ex : ∃ (f : Addr) (fd : FuncData), Fun K m qual st f fd ∧ Meth K (addrOf mg c) m f ∧ Binds K fd ps []
structure RawI (K : PySem.W.Frag) (mg : Str → Option Value) (c qual : Str) (st : Stmt) (ps : List Str) : Prop where
  ex : ∃ (f : Addr) (fd : FuncData), Fun K "__init__" qual st f fd ∧ Mk K (addrOf mg c) f ∧ mg c = some (.ref (addrOf mg c)) ∧ Binds K fd ps []
theorem mtD_of {x qual : Str} {C : Addr} {st : Stmt} {f : Addr} {fd : FuncData} {N ps : List Str} {k : Nat} {Ct : Ctr} (F : Fun K x qual st f fd) (gm : Meth K C x f) (S : FnScope N ps (defScope st)) (hb : Binds K fd ps []) (hl : ∀ ds P F, Ct ds P F → ds.length = ps.length)
    (body : ∀ (cdv : Value) (A : Around) (outer : List Env) (s : Shared) (H : Hp) (E : XK) (Dc : Gr), Room k (A.deeper (PyProof.Rows.envOfC qual (defScope st) s.heap.objs.size f cdv)) →
      ∃ ts tsd, DSs (cxOf (L2N.CX P w) P w K mg base N qual (defScope st) f cdv A outer s H E) K Dc E (defBody st) ts tsd ∧ ∀ ds Q F, Ct ds Q F → tsd (fnEnds Q F) (startD N ds)) : MtD P w K mg base (k + 1) C x ps Ct :=
  ⟨f, fd, fnOkD F S hl body, gm, hb⟩
abbrev ns_Wave : List Str := ["slope", "period", "gain", "places"]
/-- a fraction as data, closed -/
def rq (q : Rat) : D := rt q
def plD (q : Pl) : D := .tup [rq q.p, rq q.v, rq q.a]
def wvD (mg : Str → Option Value) (W : Wv) : D := .ins (addrOf mg "Wave") ns_Wave [rq W.slope, rq W.period, rq W.gain, .lst (W.places.map plD)]
theorem tup_int (i : Int) : D.tup [.int i, .int 1] = rq (i : Rat) := rfl
theorem tup_half : D.tup [.int 1, .int 2] = rq (1 / 2) := half_fr
theorem shp_rq (q : Rat) : shp (rq q) := rfl
theorem eqv_rq (p q : Rat) : PyData.eqv (toPy (rq p)) (toPy (rq q)) = decide (p = q) := eqv_rt p q
theorem eqv_rq0 (p : Rat) : PyData.eqv (toPy (rq p)) (.tuple [.int 0, .int 1]) = decide (p = 0) := eqv_rt p 0
theorem rt_inj {p q : Rat} (h : rt p = rt q) : p = q := by
  simp only [D.tup.injEq, List.cons.injEq, D.int.injEq] at h
  exact Rat.ext h.1 (by omega)
theorem atI_nat {α : Type} (xs : List α) (i : Nat) : atI xs (i : Int) = xs[i]? := by
  unfold atI ixN
  by_cases h : i < xs.length
  · have h1 : (0 : Int) ≤ i := by omega
    have h2 : (i : Int) < xs.length := by omega
    simp [h1, h2, h]
  · have h2 : ¬ (i : Int) < xs.length := by omega
    have h3 : ¬ (i : Int) < 0 := by omega
    simp [h2, h3, h]
    try omega
theorem at_0 {α : Type} {a : α} {r : List α} : atI (a :: r) 0 = some a := by
  rw [show (0 : Int) = ((0 : Nat) : Int) from rfl, atI_nat]; rfl
theorem at_1 {α : Type} {a b : α} {r : List α} : atI (a :: b :: r) 1 = some b := by
  rw [show (1 : Int) = ((1 : Nat) : Int) from rfl, atI_nat]; rfl
theorem at_2 {α : Type} {a b c : α} {r : List α} : atI (a :: b :: c :: r) 2 = some c := by
  rw [show (2 : Int) = ((2 : Nat) : Int) from rfl, atI_nat]; rfl
theorem at_3 {α : Type} {a b c d : α} {r : List α} : atI (a :: b :: c :: d :: r) 3 = some d := by
  rw [show (3 : Int) = ((3 : Nat) : Int) from rfl, atI_nat]; rfl
theorem len_ok {n : Nat} (h : Nat.ble n 100000 = true) : n ≤ 100000 := Nat.le_of_ble_eq_true h
theorem ne_self {d : D} (h : shp d) : (!PyData.eqv (toPy d) (toPy d)) = false := by rw [PySem.SeqAt.eqv_refl _ (SeqAt.canLay_of_shaped h)]; rfl
theorem eq_self {d : D} (h : shp d) : PyData.eqv (toPy d) (toPy d) = true := PySem.SeqAt.eqv_refl _ (SeqAt.canLay_of_shaped h)
theorem tup_rq {a b : Int} (q : Rat) (h : (q.num = a ∧ (q.den : Int) = b)) : D.tup [.int a, .int b] = rq q := by rw [← h.1, ← h.2]; rfl
theorem isChB_len {d : D} (h : isChB d = true) : ∀ xs, d = .tup xs → xs.length ≤ 90000 := fun xs e => by
  subst e
  simp only [isChB, Bool.and_eq_true, decide_eq_true_eq] at h
  omega
theorem isFrB_big {q : Rat} (h1 : q.num.natAbs ≤ 10 ^ 30) (h2 : q.den ≤ 10 ^ 30) : isFrB (rq q) (10 ^ 30) = true := by
  have h3 := q.den_pos
  have hr : Int.gcd q.num (q.den : Int) = 1 := q.reduced
  simp only [rq, isFrB, isWholeB, hr, Bool.and_eq_true, decide_eq_true_eq]
  refine ⟨⟨by omega, by omega⟩, ⟨by omega, by omega⟩, trivial⟩
theorem at_l2 {α : Type} {a b : α} : atI [a, b] (-1) = some b := rfl
theorem at_l3 {α : Type} {a b c : α} : atI [a, b, c] (-1) = some c := rfl
theorem atI_last {α : Type} (xs : List α) (h : 0 < xs.length) : atI xs (-1) = xs[xs.length - 1]? := by
  unfold atI ixN
  have h1 : ¬ (0 : Int) ≤ -1 := by omega
  have h2 : -(xs.length : Int) ≤ -1 := by omega
  simp [h1, h2]
  rw [show (-1 + (xs.length : Int)).toNat = xs.length - 1 by omega]


def ShN (n : Nat) (d : D) : Prop := (toPy d).canLay0 = true ∧ (toPy d).depth ≤ n
theorem shn_all {n : Nat} : ∀ {ds : List D}, (∀ d ∈ ds, ShN n d) → PyData.canLayAll0 (toPys ds) = true ∧ PyData.depthAll (toPys ds) ≤ n
  | [], _ => ⟨rfl, Nat.zero_le _⟩
  | d :: ds, h => by
    have h1 := h d (List.mem_cons_self ..)
    have h2 := shn_all fun x hx => h x (List.mem_cons_of_mem _ hx)
    simp only [toPys, PyData.canLayAll0, PyData.depthAll, Bool.and_eq_true]
    exact ⟨⟨h1.1, h2.1⟩, Nat.max_le.mpr ⟨h1.2, h2.2⟩⟩
theorem shn_lst {n : Nat} {ds : List D} (h : ∀ d ∈ ds, ShN n d) : ShN (n + 1) (.lst ds) := ⟨(shn_all h).1, Nat.succ_le_succ (shn_all h).2⟩
theorem shn_tup {n : Nat} {ds : List D} (h : ∀ d ∈ ds, ShN n d) : ShN (n + 1) (.tup ds) := ⟨(shn_all h).1, Nat.succ_le_succ (shn_all h).2⟩
theorem shn_mono {n m : Nat} {d : D} (h : ShN n d) (hm : n ≤ m) : ShN m d := ⟨h.1, Nat.le_trans h.2 hm⟩
theorem shp_of {n : Nat} {d : D} (h : ShN n d) (hn : n ≤ 64 := by decide) : shp d := by
  unfold shp SeqAt.shaped
  rw [h.1, decide_eq_true (Nat.le_trans h.2 hn)]
  rfl
theorem shn_rq (q : Rat) : ShN 1 (rq q) := ⟨rfl, Nat.le_refl _⟩
theorem shn_pl (q : Pl) : ShN 2 (plD q) := shn_tup fun d hd => by
  simp only [List.mem_cons, List.not_mem_nil, or_false] at hd
  rcases hd with rfl | rfl | rfl <;> exact shn_rq _
theorem shn_pls (ps : List Pl) : ShN 3 (.lst (ps.map plD)) := shn_lst fun d hd => by
  obtain ⟨q, _, rfl⟩ := List.mem_map.mp hd
  exact shn_pl q
theorem shp_pls (ps : List Pl) : shp (.lst (ps.map plD)) := shp_of (shn_pls ps)
theorem shp_nil : shp (.lst []) := rfl
theorem eqv_nil (ps : List Pl) : PyData.eqv (toPy (.lst (ps.map plD))) (toPy (.lst [])) = decide (ps = []) := by
  cases ps with
  | nil => rfl
  | cons q ps => simp [PyData.eqv, PyData.eqvAll]
theorem eqv_pl (p q : Pl) : PyData.eqv (toPy (plD p)) (toPy (plD q)) = decide (p = q) := by
  have h := eqv_rq p.p q.p
  have h2 := eqv_rq p.v q.v
  have h3 := eqv_rq p.a q.a
  simp only [plD, toPy, toPys, PyData.eqv, PyData.eqvAll, Bool.and_true] at h h2 h3 ⊢
  rw [h, h2, h3]
  cases p; cases q
  simp [Bool.and_assoc]
theorem cut_take {α : Type} (xs : List α) (n : Nat) : cutD xs none (some (n : Int)) = xs.take n := by
  unfold cutD HT.sIx
  have h : ¬ ((n : Int) < 0) := by omega
  simp [h]

theorem isFrB_rt {q : Rat} (h : Ten q) : isFrB (rt q) 10 = true := by
  have h1 := h.1
  have h2 := h.2
  have h3 := q.den_pos
  have hr : Int.gcd q.num (q.den : Int) = 1 := q.reduced
  simp only [isFrB, isWholeB, hr, Bool.and_eq_true, decide_eq_true_eq]
  refine ⟨⟨by omega, by omega⟩, ⟨by omega, by omega⟩, trivial⟩
theorem inD1 : inV (.str "down") [.str "down", .str "up", .str "rest"] = true := by decide +kernel
theorem inD2 : inV (.str "up") [.str "down", .str "up", .str "rest"] = true := by decide +kernel
theorem inD3 : inV (.str "rest") [.str "down", .str "up", .str "rest"] = true := by decide +kernel
theorem inD4 : inV (.str "add") [.str "down", .str "up", .str "rest"] = false := by decide +kernel
theorem inD5 : inV (.str "times") [.str "down", .str "up", .str "rest"] = false := by decide +kernel
theorem ties_in (t : Tie) : tieB (tieD t) = true := by cases t <;> decide +kernel
theorem isStepB_st {s : Step} (h : StepOk s) : isStepB (stD s) = true := by
  cases s with
  | down m => simp only [stD, isStepB, isFrB_rt h.1, topB, inD1, if_true, Bool.true_and, decide_eq_true_eq]; exact h.2
  | up m => simp only [stD, isStepB, isFrB_rt h.1, topB, inD2, if_true, Bool.true_and, decide_eq_true_eq]; exact h.2
  | near m t => simp only [stD, isStepB, isFrB_rt h.1, topB, ties_in, Bool.true_and, Bool.and_true, decide_true, decide_eq_true_eq]; exact h.2
  | add m => simp only [stD, isStepB, isFrB_rt h, inD4, Bool.true_and, decide_true, Bool.true_or, Bool.false_eq_true, if_false]
  | times m => simp only [stD, isStepB, isFrB_rt h.1, topB, inD5, Bool.true_and, decide_true, Bool.false_eq_true, if_false, Bool.or_eq_true]; exact .inr (by simpa using h.2)
  | rest m => simp only [stD, isStepB, isFrB_rt h.1, topB, inD3, if_true, Bool.true_and, decide_eq_true_eq]; exact h.2
theorem pl_st (s : Step) : pl (stD s) = true := by
  cases s with
  | near m t => cases t <;> (simp only [stD, tieD, pl, pls]; decide +kernel)
  | _ => simp only [stD, pl, pls]; decide +kernel
theorem pls_all : ∀ {xs : List D}, (∀ d ∈ xs, pl d = true) → pls xs = true
  | [], _ => rfl
  | x :: xs, h => by simp only [pls, h x (List.mem_cons_self ..), pls_all fun d hd => h d (List.mem_cons_of_mem _ hd), Bool.and_self]
theorem pl_ch (c : List Step) : pl (chD c) = true := by
  simp only [chD, pl]
  exact pls_all fun d hd => by obtain ⟨s, _, rfl⟩ := List.mem_map.mp hd; exact pl_st s
theorem isChB_ch {c : List Step} (ok : ∀ s ∈ c, StepOk s) (hl : c.length ≤ 4) : isChB (chD c) = true := by
  simp only [chD, isChB, List.length_map, Bool.and_eq_true, decide_eq_true_eq, List.all_eq_true]
  exact ⟨hl, fun d hd => by obtain ⟨s, hs, rfl⟩ := List.mem_map.mp hd; exact isStepB_st (ok s hs)⟩
theorem need_ok {mg : Str → Option Value} {c : List Step} {Pd : D → Prop} {Fx : XF} (ok : ∀ s ∈ c, StepOk s) (hl : c.length ≤ 4) (h : Pd .non) : need_chainC mg [chD c] Pd Fx :=
  ⟨chD c, rfl, pl_ch c, fun xs e => by simp only [chD, D.tup.injEq] at e; rw [← e, List.length_map]; omega, by rw [if_pos (isChB_ch ok hl)]; exact h⟩

theorem isFrB_dec {d : D} {far : Int} (h : isFrB d far = true) : ∃ q : Rat, d = rt q ∧ -far ≤ q.num ∧ q.num ≤ far ∧ (q.den : Int) ≤ far := by
  obtain ⟨a, b, rfl⟩ := isFrB_fr h
  simp only [isFrB, isWholeB, Bool.and_eq_true, decide_eq_true_eq] at h
  obtain ⟨⟨h1, h2⟩, ⟨h3, h4⟩, h5⟩ := h
  have e1 : ((b.toNat : Nat) : Int) = b := by omega
  refine ⟨⟨a, b.toNat, by omega, ?_⟩, ?_, h1, h2, by show ((b.toNat : Nat) : Int) ≤ far; omega⟩
  · show Nat.Coprime a.natAbs b.toNat
    have e : Int.gcd a b = Nat.gcd a.natAbs b.natAbs := rfl
    rw [e, show b.natAbs = b.toNat by omega] at h5
    exact h5
  · show D.tup [.int a, .int b] = D.tup [.int a, .int ((b.toNat : Nat) : Int)]
    rw [e1]
theorem ten_of {q : Rat} (h1 : -10 ≤ q.num) (h2 : q.num ≤ 10) (h3 : (q.den : Int) ≤ 10) : Ten q := ⟨by omega, by omega⟩
theorem inV3 {k : Str} (h : inV (.str k) [.str "down", .str "up", .str "rest"] = true) : k = "down" ∨ k = "up" ∨ k = "rest" := by
  simp only [inV, eqV, List.any_cons, List.any_nil, Bool.or_false, Bool.or_eq_true, beq_iff_eq, decide_eq_true_eq] at h
  rcases h with h | h | h
  · exact .inl h.symm
  · exact .inr (.inl h.symm)
  · exact .inr (.inr h.symm)
theorem inV4 {k : Str} (h : inV (.str k) [.str "up", .str "down", .str "even", .str "odd"] = true) : ∃ t : Tie, D.str k = tieD t := by
  simp only [inV, eqV, List.any_cons, List.any_nil, Bool.or_false, Bool.or_eq_true, beq_iff_eq, decide_eq_true_eq] at h
  rcases h with h | h | h | h <;> subst h
  · exact ⟨.up, rfl⟩
  · exact ⟨.down, rfl⟩
  · exact ⟨.even, rfl⟩
  · exact ⟨.odd, rfl⟩
theorem tieB_dec {t : D} (h : tieB t = true) : ∃ u : Tie, t = tieD u := by
  cases t
  case str k => exact inV4 h
  all_goals exact nomatch (show false = true from h)
theorem isStepB_dec {d : D} (h : isStepB d = true) : ∃ s : Step, d = stD s ∧ StepOk s := by
  unfold isStepB at h
  split at h
  · rename_i k f
    obtain ⟨hf, h⟩ := Bool.and_eq_true_iff.mp h
    obtain ⟨q, rfl, h1, h2, h3⟩ := isFrB_dec hf
    have ten := ten_of h1 h2 h3
    by_cases hk : inV (.str k) [.str "down", .str "up", .str "rest"] = true
    · rw [if_pos hk] at h
      have hq : 0 < q.num := of_decide_eq_true h
      rcases inV3 hk with rfl | rfl | rfl
      · exact ⟨.down q, rfl, ten, hq⟩
      · exact ⟨.up q, rfl, ten, hq⟩
      · exact ⟨.rest q, rfl, ten, hq⟩
    · rw [if_neg hk] at h
      rcases Bool.or_eq_true_iff.mp h with h | h
      · obtain rfl := of_decide_eq_true h
        exact ⟨.add q, rfl, ten⟩
      · obtain ⟨h, h'⟩ := Bool.and_eq_true_iff.mp h
        obtain rfl := of_decide_eq_true h
        refine ⟨.times q, rfl, ten, fun e => ?_⟩
        have h' : (!decide (q.num = 0)) = true := h'
        simp [e] at h'
  · rename_i k f t
    obtain ⟨hf, h⟩ := Bool.and_eq_true_iff.mp h
    obtain ⟨q, rfl, h1, h2, h3⟩ := isFrB_dec hf
    obtain ⟨hk, h5⟩ := Bool.and_eq_true_iff.mp h
    obtain ⟨hp, h6⟩ := Bool.and_eq_true_iff.mp h5
    obtain rfl := of_decide_eq_true hk
    have hq : 0 < q.num := of_decide_eq_true hp
    obtain ⟨t, rfl⟩ := tieB_dec h6
    exact ⟨.near q t, rfl, ten_of h1 h2 h3, hq⟩
  · cases h
theorem isChB_dec {d : D} (h : isChB d = true) : ∃ c : List Step, d = chD c ∧ (∀ s ∈ c, StepOk s) ∧ c.length ≤ 4 := by
  cases d <;> simp only [isChB] at h <;> try (cases h; done)
  rename_i xs
  obtain ⟨hl, h⟩ := Bool.and_eq_true_iff.mp h
  have hl := of_decide_eq_true hl
  have key : ∀ ys : List D, ys.all isStepB = true → ∃ c : List Step, ys = c.map stD ∧ ∀ s ∈ c, StepOk s := by
    intro ys
    induction ys with
    | nil => exact fun _ => ⟨[], rfl, fun _ h => nomatch h⟩
    | cons y ys ih =>
      intro h
      rw [List.all_cons, Bool.and_eq_true_iff] at h
      obtain ⟨s, rfl, hs⟩ := isStepB_dec h.1
      obtain ⟨c, rfl, hc⟩ := ih h.2
      refine ⟨s :: c, rfl, fun z hz => ?_⟩
      rcases List.mem_cons.mp hz with rfl | hz
      · exact hs
      · exact hc z hz
  obtain ⟨c, rfl, hc⟩ := key xs h
  exact ⟨c, rfl, hc, by simpa using hl⟩

theorem tup_len {n : Nat} {ys : List D} (h : ys.length ≤ n) (hn : n ≤ 90000) : ∀ xs, D.tup ys = .tup xs → xs.length ≤ 90000 := fun xs e => by
  cases e
  omega
theorem emp_ch : isChB (.tup []) = true := by decide +kernel

end
end RW

set_option Elab.async false
set_option linter.all false
set_option maxRecDepth 100000
set_option maxHeartbeats 2000000
set_option exponentiation.threshold 20000
namespace RW
open PySem L2
open Evl (Ex fresh_back)
section
variable {P : Program} {w : World} {K : PySem.W.Frag} {mg : Str → Option Value} {base : Heap}
abbrev s_need_two : Stmt := topS 28
abbrev N_need_two : List Str := ["chain", "other"]
theorem sc_need_two : FnScope N_need_two ["chain", "other"] (defScope s_need_two) := ⟨rfl, rfl, rfl, by decide +kernel, rfl, by decide +kernel, by decide +kernel⟩
def need_twoC (mg : Str → Option Value) : Ctr := fun ds Q F => ∃ d e, ds = [d, e] ∧ pl d = true ∧ (∀ xs, d = .tup xs → xs.length ≤ 90000) ∧ pl e = true ∧ (∀ xs, e = .tup xs → xs.length ≤ 90000) ∧ (if isChB d = true then (if isChB e = true then Q .non else F (clsOf mg "InvalidChain")) else F (clsOf mg "InvalidChain"))
theorem two_ok {mg : Str → Option Value} {c d : List Step} {Pd : D → Prop} {Fx : XF} (ok : ∀ s ∈ c, StepOk s) (hl : c.length ≤ 4) (ok2 : ∀ s ∈ d, StepOk s) (hl2 : d.length ≤ 4) (h : Pd .non) : need_twoC mg [chD c, chD d] Pd Fx :=
  ⟨chD c, chD d, rfl, pl_ch c, isChB_len (isChB_ch ok hl), pl_ch d, isChB_len (isChB_ch ok2 hl2), by rw [if_pos (isChB_ch ok hl), if_pos (isChB_ch ok2 hl2)]; exact h⟩
theorem fn_need_two (T : Tx K mg) (R : Raw K mg "need_two" s_need_two ["chain", "other"]) (F_need_chain : FnD P w K mg base 5 "need_chain" ["chain"] (need_chainC mg)) : FnD P w K mg base 6 "need_two" ["chain", "other"] (need_twoC mg) := by
  obtain ⟨f, fd, R, gm, hb⟩ := R.ex
  refine fnD_of R gm sc_need_two hb (fun ds Q F h => ?_) (fun cdv A outer s H E Dc hr => ?_)
  · obtain ⟨_, _, rfl, _⟩ := h; rfl
  have cx : Ctx (cxOf (L2N.CX P w) P w K mg base N_need_two "need_two" (defScope s_need_two) f cdv A outer s H E) E := ctx_of
  refine ⟨_, _, (dss_cons (ds_expr (de_call cx F_need_chain (hr.mono (by decide)) (da_cons (dv 0) da_nil)))
  (dss_one (ds_expr (de_call cx F_need_chain (hr.mono (by decide)) (da_cons (dv 1) da_nil))))), fun ds Q F hc => ?_⟩
  obtain ⟨d, e, rfl, h1, h2, h3, h4, hQ⟩ := hc
  refine ⟨d, rfl, h1, h2, ?_⟩
  cases hd : isChB d
  · rw [hd, if_neg Bool.false_ne_true] at hQ
    exact ite_f rfl hQ
  · rw [hd, if_pos rfl] at hQ
    refine ite_t rfl ?_
    refine ⟨e, rfl, h3, h4, ?_⟩
    cases he : isChB e
    · rw [he, if_neg Bool.false_ne_true] at hQ
      exact ite_f rfl hQ
    · rw [he, if_pos rfl] at hQ
      exact ite_t rfl hQ

abbrev s_value : Stmt := topS 32
abbrev N_value : List Str := ["chain", "number"]
theorem sc_value : FnScope N_value ["chain", "number"] (defScope s_value) := ⟨rfl, rfl, rfl, by decide +kernel, rfl, by decide +kernel, by decide +kernel⟩
def valueC (mg : Str → Option Value) : Ctr := fun ds _ F => ∃ d, ds = [.tup [], d] ∧ pl d = true ∧ isFrB d (10 ^ 30) = false ∧ F (clsOf mg "InvalidNumber")
theorem fn_value (T : Tx K mg) (R : Raw K mg "value" s_value ["chain", "number"]) (F_need_chain : FnD P w K mg base 5 "need_chain" ["chain"] (need_chainC mg)) (F_is_fraction : FnD P w K mg base 2 "is_fraction" ["value", "far"] is_fractionC) : FnD P w K mg base 6 "value" ["chain", "number"] (valueC mg) := by
  obtain ⟨f, fd, R, gm, hb⟩ := R.ex
  refine fnD_of R gm sc_value hb (fun ds Q F h => ?_) (fun cdv A outer s H E Dc hr => ?_)
  · obtain ⟨_, rfl, _⟩ := h; rfl
  have cx : Ctx (cxOf (L2N.CX P w) P w K mg base N_value "value" (defScope s_value) f cdv A outer s H E) E := ctx_of
  refine ⟨_, _, (dss_cons (ds_expr (de_call cx F_need_chain (hr.mono (by decide)) (da_cons (dv 0) da_nil)))
  (dss_cons (ds_if (dt_not (dt_val (de_call cx F_is_fraction (hr.mono (by decide)) (da_cons (dv 1) (da_cons (de_pow (de_int) (de_int)) da_nil)))))
    (dss_one (ds_raiseC cx T.x_InvalidNumber))
    dss_nil)
  (dss_one (ds_ret (de_never))))), fun ds Q F hc => ?_⟩
  obtain ⟨d, rfl, h3, e2, hF⟩ := hc
  refine ⟨.tup [], rfl, rfl, tup_len (Nat.le_refl _) (by decide), ?_⟩
  rw [if_pos emp_ch]
  refine ⟨⟨by decide, by decide, by decide⟩, d, 10 ^ 30, rfl, h3, ?_⟩
  rw [e2]
  exact hF

abbrev s_form : Stmt := topS 48
abbrev N_form : List Str := ["chain"]
theorem sc_form : FnScope N_form ["chain"] (defScope s_form) := ⟨rfl, rfl, rfl, by decide +kernel, rfl, by decide +kernel, by decide +kernel⟩
def formC (mg : Str → Option Value) : Ctr := fun ds _ F => ∃ d, ds = [d] ∧ pl d = true ∧ (∀ xs, d = .tup xs → xs.length ≤ 90000) ∧ isChB d = false ∧ F (clsOf mg "InvalidChain")
theorem fn_form (T : Tx K mg) (R : Raw K mg "form" s_form ["chain"]) (F_need_chain : FnD P w K mg base 5 "need_chain" ["chain"] (need_chainC mg)) : FnD P w K mg base 6 "form" ["chain"] (formC mg) := by
  obtain ⟨f, fd, R, gm, hb⟩ := R.ex
  refine fnD_of R gm sc_form hb (fun ds Q F h => ?_) (fun cdv A outer s H E Dc hr => ?_)
  · obtain ⟨_, rfl, _⟩ := h; rfl
  have cx : Ctx (cxOf (L2N.CX P w) P w K mg base N_form "form" (defScope s_form) f cdv A outer s H E) E := ctx_of
  refine ⟨_, _, (dss_cons (ds_expr (de_call cx F_need_chain (hr.mono (by decide)) (da_cons (dv 0) da_nil)))
  (dss_one (ds_ret (de_never)))), fun ds Q F hc => ?_⟩
  obtain ⟨d, rfl, h1, h2, h3, hF⟩ := hc
  refine ⟨d, rfl, h1, h2, ?_⟩
  rw [h3]
  exact hF

abbrev ns_Desk : List Str := ["rows", "undone"]
abbrev s_Desk_init : Stmt := inClass (topS 50) 0
abbrev N_Desk_init : List Str := ["self", "chain"]
theorem sc_Desk_init : FnScope N_Desk_init ["self", "chain"] (defScope s_Desk_init) := ⟨rfl, rfl, rfl, by decide +kernel, rfl, by decide +kernel, by decide +kernel⟩
def DeskC (mg : Str → Option Value) : CtrM := fun ds P F => ∃ d, ds = [d] ∧ pl d = true ∧ (∀ xs, d = .tup xs → xs.length ≤ 90000) ∧ NoIns (addrOf mg "Desk") d ∧ if isChB d = true then P [.lst [d], .lst []] else F (clsOf mg "InvalidChain")
theorem fn_Desk_init (T : Tx K mg) (R : RawI K mg "Desk" "Desk.__init__" s_Desk_init ["self", "chain"]) (F_need_chain : FnD P w K mg base 5 "need_chain" ["chain"] (need_chainC mg)) : MkC P w K mg base 6 "Desk" (addrOf mg "Desk") ["self", "chain"] ns_Desk (DeskC mg) := by
  obtain ⟨f, fd, R, mk, gm, hb⟩ := R.ex
  refine mkC_of R mk gm sc_Desk_init hb (by decide) (fun ds Q F h => ?_) (fun cdv A outer s H E Dc hr => ?_)
  · obtain ⟨d, rfl, _, _, hn, _⟩ := h; exact ⟨rfl, by simp only [NoInss]; exact ⟨hn, trivial⟩⟩
  have cx : Ctx (cxOf (L2N.CX P w) P w K mg base N_Desk_init "Desk.__init__" (defScope s_Desk_init) f cdv A outer s H E) E := ctx_of
  refine ⟨_, _, (dins_cons (din_expr (de_call cx F_need_chain (hr.mono (by decide)) (da_cons (dv 1) da_nil)))
    (dins_cons (din_fld T.c_Desk T.na_Desk_rows (de_ofL (dl_lst (da_cons (dv 1) da_nil))) (pe_var rfl (Or.inl rfl) (by decide) (by decide)) (fun h1 h2 => ps_fld h1 h2 rfl))
    (dins_one (din_fld T.c_Desk T.na_Desk_undone (de_ofL (dl_lst da_nil)) (pe_var rfl (Or.inl rfl) (by decide) (by decide)) (fun h1 h2 => ps_fld h1 h2 rfl))))), fun ds Q F hc => ?_⟩
  obtain ⟨d, rfl, h1, h2, hn, hQ⟩ := hc
  refine ⟨d, rfl, h1, h2, ?_⟩
  by_cases z : isChB d = true
  · rw [if_pos z] at hQ ⊢
    refine ⟨len_ok rfl, by simp only [NoIns, NoInss]; exact ⟨hn, trivial⟩, rfl, by decide +kernel, by decide, ?_⟩
    exact ⟨len_ok rfl, by simp only [NoIns, NoInss], rfl, by decide +kernel, by decide, _, _, rfl, hQ⟩
  · rw [if_neg z] at hQ ⊢
    exact hQ

abbrev s_Desk_redo : Stmt := inClass (topS 50) 6
abbrev N_Desk_redo : List Str := ["self", "found"]
theorem sc_Desk_redo : FnScope N_Desk_redo ["self"] (defScope s_Desk_redo) := ⟨rfl, rfl, rfl, by decide +kernel, rfl, by decide +kernel, by decide +kernel⟩
def Desk_redoC (mg : Str → Option Value) : Ctr := fun ds _ F => ∃ d, ds = [.ins (addrOf mg "Desk") ns_Desk [d, .lst []]] ∧ F (clsOf mg "NothingToUndo")
theorem fn_Desk_redo (T : Tx K mg) (R : RawM K mg "Desk" "redo" "Desk.redo" s_Desk_redo ["self"])  : MtD P w K mg base 1 (addrOf mg "Desk") "redo" ["self"] (Desk_redoC mg) := by
  obtain ⟨f, fd, R, gm, hb⟩ := R.ex
  refine mtD_of R gm sc_Desk_redo hb (fun ds Q F h => ?_) (fun cdv A outer s H E Dc hr => ?_)
  · obtain ⟨_, rfl, _⟩ := h; rfl
  have cx : Ctx (cxOf (L2N.CX P w) P w K mg base N_Desk_redo "Desk.redo" (defScope s_Desk_redo) f cdv A outer s H E) E := ctx_of
  refine ⟨_, _, (dss_cons (ds_if (dt_eq hr (de_fld (ns := ns_Desk) 1 T.c_Desk T.na_Desk_undone (by decide +kernel) (dv 0)) (de_ofL (dl_lst da_nil)))
    (dss_one (ds_raiseC cx T.x_NothingToUndo))
    dss_nil)
  (dss_cons (ds_never)
  (dss_cons (ds_never)
  (dss_cons (ds_never)
  (dss_one (ds_never)))))), fun ds Q F hc => ?_⟩
  obtain ⟨d, rfl, hF⟩ := hc
  refine ⟨⟨rfl, rfl⟩, len_ok rfl, rfl, rfl, ?_⟩
  exact hF

abbrev s_joined : Stmt := topS 53
abbrev N_joined : List Str := ["chain", "other"]
theorem sc_joined : FnScope N_joined ["chain", "other"] (defScope s_joined) := ⟨rfl, rfl, rfl, by decide +kernel, rfl, by decide +kernel, by decide +kernel⟩
def joinedC (mg : Str → Option Value) : Ctr := fun ds _ F => ∃ xs, ds = [.tup xs, .tup xs] ∧ xs.length ≤ 100 ∧ pl (.tup xs) = true ∧ pl (.tup (xs ++ xs)) = true ∧ isChB (.tup xs) = true ∧ isChB (.tup (xs ++ xs)) = false ∧ F (clsOf mg "TooMany")
theorem fn_joined (T : Tx K mg) (R : Raw K mg "joined" s_joined ["chain", "other"]) (F_need_two : FnD P w K mg base 6 "need_two" ["chain", "other"] (need_twoC mg)) (F_is_chain : FnD P w K mg base 4 "is_chain" ["value"] is_chainC) : FnD P w K mg base 7 "joined" ["chain", "other"] (joinedC mg) := by
  obtain ⟨f, fd, R, gm, hb⟩ := R.ex
  refine fnD_of R gm sc_joined hb (fun ds Q F h => ?_) (fun cdv A outer s H E Dc hr => ?_)
  · obtain ⟨_, rfl, _⟩ := h; rfl
  have cx : Ctx (cxOf (L2N.CX P w) P w K mg base N_joined "joined" (defScope s_joined) f cdv A outer s H E) E := ctx_of
  refine ⟨_, _, (dss_cons (ds_expr (de_call cx F_need_two (hr.mono (by decide)) (da_cons (dv 0) (da_cons (dv 1) da_nil))))
  (dss_cons (ds_if (dt_not (dt_val (de_call cx F_is_chain (hr.mono (by decide)) (da_cons (de_catT (dv 0) (dv 1)) da_nil))))
    (dss_one (ds_raiseC cx T.x_TooMany))
    dss_nil)
  (dss_one (ds_ret (de_catT (dv 0) (dv 1)))))), fun ds Q F hc => ?_⟩
  obtain ⟨xs, rfl, hl, h1, h2, h3, h4, hF⟩ := hc
  refine ⟨.tup xs, .tup xs, rfl, h1, tup_len hl (by decide), h1, tup_len hl (by decide), ?_⟩
  refine ite_t h3 (ite_t h3 ?_)
  refine ⟨by omega, .tup (xs ++ xs), rfl, h2, tup_len (n := 200) (by rw [List.length_append]; omega) (by decide), ?_⟩
  rw [h4]
  exact hF

abbrev s_left_out : Stmt := topS 54
abbrev N_left_out : List Str := ["chain", "at"]
theorem sc_left_out : FnScope N_left_out ["chain", "at"] (defScope s_left_out) := ⟨rfl, rfl, rfl, by decide +kernel, rfl, by decide +kernel, by decide +kernel⟩
def left_outC (mg : Str → Option Value) : Ctr := fun ds _ F => ∃ d, ds = [.tup [], d] ∧ pl d = true ∧ isWholeB d 0 (-1) = false ∧ F (clsOf mg "InvalidStep")
theorem fn_left_out (T : Tx K mg) (R : Raw K mg "left_out" s_left_out ["chain", "at"]) (F_need_chain : FnD P w K mg base 5 "need_chain" ["chain"] (need_chainC mg)) (F_is_whole : FnD P w K mg base 1 "is_whole" ["value", "low", "high"] is_wholeC) : FnD P w K mg base 6 "left_out" ["chain", "at"] (left_outC mg) := by
  obtain ⟨f, fd, R, gm, hb⟩ := R.ex
  refine fnD_of R gm sc_left_out hb (fun ds Q F h => ?_) (fun cdv A outer s H E Dc hr => ?_)
  · obtain ⟨_, rfl, _⟩ := h; rfl
  have cx : Ctx (cxOf (L2N.CX P w) P w K mg base N_left_out "left_out" (defScope s_left_out) f cdv A outer s H E) E := ctx_of
  refine ⟨_, _, (dss_cons (ds_expr (de_call cx F_need_chain (hr.mono (by decide)) (da_cons (dv 0) da_nil)))
  (dss_cons (ds_if (dt_not (dt_val (de_call cx F_is_whole (hr.mono (by decide)) (da_cons (dv 1) (da_cons (de_int) (da_cons (de_sub (de_len T.n_len (da_cons (dv 0) da_nil)) (de_int)) da_nil))))))
    (dss_one (ds_raiseC cx T.x_InvalidStep))
    dss_nil)
  (dss_one (ds_ret (de_never))))), fun ds Q F hc => ?_⟩
  obtain ⟨d, rfl, h1, h2, hF⟩ := hc
  refine ⟨.tup [], rfl, rfl, tup_len (Nat.le_refl _) (by decide), ?_⟩
  rw [if_pos emp_ch]
  refine ⟨d, 0, -1, rfl, h1, ?_⟩
  rw [h2]
  exact hF

def wrtF (q : Rat) : Str := if q.den = 1 then iS q.num else Str.empty ++ iS q.num ++ "/" ++ iS (q.den : Int)
def kindS : Step → Str
  | .down _ => "down" | .up _ => "up" | .near _ _ => "near" | .add _ => "add" | .times _ => "times" | .rest _ => "rest"
def tieS : Tie → Str
  | .up => "up" | .down => "down" | .even => "even" | .odd => "odd"
def wordsS (s : Step) : List Str := [kindS s, wrtF s.num] ++ (match s with | .near _ t => [tieS t] | _ => [])
def wrtS (s : Step) : Str := Txt.join " " (wordsS s)
def wrtC (c : List Step) : Str := Txt.join "; " (c.map wrtS)
theorem iS_len : ∀ k < 21, (iS ((k : Nat) - 10 : Int)).length ≤ 3 := by decide +kernel
theorem iS_le {i : Int} (h1 : -10 ≤ i) (h2 : i ≤ 10) : (iS i).length ≤ 3 := by
  have h := iS_len (i + 10).toNat (by omega)
  rw [show (((i + 10).toNat : Nat) : Int) - 10 = i by omega] at h
  exact h
theorem str_len (a b : Str) : (a ++ b).length = a.length + b.length := by
  show (a.cps ++ b.cps).size = a.cps.size + b.cps.size
  rw [Array.size_append]
theorem wrtF_le {q : Rat} (h : Ten q) : (wrtF q).length ≤ 7 := by
  have h1 := iS_le (i := q.num) (by have := h.1; omega) (by have := h.1; omega)
  have h2 := iS_le (i := (q.den : Int)) (by omega) (by have := h.2; omega)
  unfold wrtF
  split
  · omega
  · rw [str_len, str_len, str_len]
    have e1 : Str.empty.length = 0 := rfl
    have e2 : ("/" : Str).length = 1 := rfl
    omega
theorem kindS_le (s : Step) : (kindS s).length ≤ 5 := by cases s <;> (simp only [kindS]; decide)
theorem tieS_le (t : Tie) : (tieS t).length ≤ 4 := by cases t <;> decide

abbrev s_fraction_text : Stmt := topS 56
abbrev N_fraction_text : List Str := ["number"]
theorem sc_fraction_text : FnScope N_fraction_text ["number"] (defScope s_fraction_text) := ⟨rfl, rfl, rfl, by decide +kernel, rfl, by decide +kernel, by decide +kernel⟩
def fraction_textC : Ctr := fun ds Q _ => ∃ q : Rat, ds = [rt q] ∧ Ten q ∧ Q (.str (wrtF q))
theorem fn_fraction_text (T : Tx K mg) (R : Raw K mg "fraction_text" s_fraction_text ["number"])  : FnD P w K mg base 1 "fraction_text" ["number"] fraction_textC := by
  obtain ⟨f, fd, R, gm, hb⟩ := R.ex
  refine fnD_of R gm sc_fraction_text hb (fun ds Q F h => ?_) (fun cdv A outer s H E Dc hr => ?_)
  · obtain ⟨_, rfl, _⟩ := h; rfl
  have cx : Ctx (cxOf (L2N.CX P w) P w K mg base N_fraction_text "fraction_text" (defScope s_fraction_text) f cdv A outer s H E) E := ctx_of
  refine ⟨_, _, (dss_one (ds_ret (de_if (dt_eq hr (de_ix (dv 0) (de_int)) (de_int)) (de_strI T.n_str (da_cons (de_ix (dv 0) (de_int)) da_nil)) (de_joined (dj_cons (de_fmt (de_ix (dv 0) (de_int))) (dj_cons (de_str) (dj_cons (de_fmt (de_ix (dv 0) (de_int))) dj_nil))))))), fun ds Q F hc => ?_⟩
  obtain ⟨q, rfl, ten, hQ⟩ := hc
  have t1 := ten.1
  have t2 := ten.2
  have l1 : q.num.natAbs.log2 < 1920 := log2_of (Nat.lt_of_le_of_lt t1 (Nat.lt_of_lt_of_le (show 10 < 2 ^ 4 by decide) (Nat.pow_le_pow_right (by decide) (by decide)))) (by decide)
  have l2 : ((q.den : Int)).natAbs.log2 < 1920 := log2_of (Nat.lt_of_le_of_lt (show ((q.den : Int)).natAbs ≤ 10 by omega) (Nat.lt_of_lt_of_le (show 10 < 2 ^ 4 by decide) (Nat.pow_le_pow_right (by decide) (by decide)))) (by decide)
  have h1 := iS_le (i := q.num) (by omega) (by omega)
  have h2 := iS_le (i := (q.den : Int)) (by omega) (by omega)
  have e1 : Str.empty.length = 0 := rfl
  have e2 : ("/" : Str).length = 1 := rfl
  refine ⟨rfl, rfl, ?_⟩
  unfold wrtF at hQ
  refine ite_b (fun h => ?_) (fun h => ?_)
  · have h : PyData.eqv (.int (q.den : Int)) (.int 1) = true := h
    rw [eqv_int] at h
    have h := of_decide_eq_true h
    rw [if_pos (by omega)] at hQ
    exact ⟨l1, hQ⟩
  · have h : PyData.eqv (.int (q.den : Int)) (.int 1) = false := h
    rw [eqv_int] at h
    have h := of_decide_eq_false h
    rw [if_neg (by omega)] at hQ
    refine ⟨l1, _, rfl, by rw [str_len]; omega, _, rfl, by rw [str_len, str_len]; omega, l2, _, rfl, by rw [str_len, str_len, str_len]; omega, hQ⟩

theorem join_len (s : Str) : ∀ ys : List Str, (Txt.join s ys).length ≤ (ys.map (·.length)).sum + ys.length * s.length := fun ys => by
  rw [TL.join_eq]
  exact StrLaws.join_length_le s ys
theorem wrtS_len {s : Step} (h : StepOk s) : (wrtS s).length ≤ 19 := by
  have f7 := wrtF_le h.ten
  have k5 := kindS_le s
  have e1 : (" " : Str).length = 1 := rfl
  have j := join_len " " (wordsS s)
  unfold wrtS
  cases s with
  | near m t =>
    have t4 := tieS_le t
    simp only [wordsS, List.map_cons, List.map_append, List.map_nil, List.cons_append, List.nil_append, List.sum_cons, List.sum_nil, List.length_cons, List.length_nil, Step.num] at f7 j ⊢
    omega
  | _ =>
    simp only [wordsS, List.append_nil, List.map_cons, List.map_nil, List.sum_cons, List.sum_nil, List.length_cons, List.length_nil, Step.num] at f7 j ⊢
    omega
theorem wrtS_sum {c : List Step} (ok : ∀ s ∈ c, StepOk s) : ((c.map wrtS).map (·.length)).sum ≤ c.length * 19 := by
  induction c with
  | nil => exact Nat.le_refl _
  | cons s c ih =>
    have h1 := wrtS_len (ok s List.mem_cons_self)
    have h2 := ih fun z hz => ok z (List.mem_cons_of_mem _ hz)
    simp only [List.map_cons, List.sum_cons, List.length_cons]
    omega
abbrev s_written : Stmt := topS 57
abbrev N_written : List Str := ["chain", "step"]
theorem sc_written : FnScope N_written ["chain"] (defScope s_written) := ⟨rfl, rfl, rfl, by decide +kernel, rfl, by decide +kernel, by decide +kernel⟩
def writtenC : Ctr := fun ds Q _ => ∃ c : List Step, ds = [chD c] ∧ (∀ s ∈ c, StepOk s) ∧ c.length ≤ 4 ∧ Q (.str (wrtC c))
theorem fn_written (T : Tx K mg) (R : Raw K mg "written" s_written ["chain"]) (F_fraction_text : FnD P w K mg base 1 "fraction_text" ["number"] fraction_textC) : FnD P w K mg base 2 "written" ["chain"] writtenC := by
  obtain ⟨f, fd, R, gm, hb⟩ := R.ex
  refine fnD_of R gm sc_written hb (fun ds Q F h => ?_) (fun cdv A outer s H E Dc hr => ?_)
  · obtain ⟨_, rfl, _⟩ := h; rfl
  have cx : Ctx (cxOf (L2N.CX P w) P w K mg base N_written "written" (defScope s_written) f cdv A outer s H E) E := ctx_of
  refine ⟨_, _, (dss_one (ds_ret (de_join (de_str) (de_ofL (dl_lc (own := [("step", 1)]) cx sc_written.nd (di_tup (dv 0)) (blkOk_by (own := [("step", 1)]) (N := N_written) (sc := defScope s_written) (by decide +kernel)) (fun _ _ _ _ _ c => dg_name (i := 1) sc_written.nd) (tch_name (by decide)) (fun _ _ _ _ _ c => dts_none) (fun _ _ _ _ _ c => de_join (de_str) (de_ofL (dl_cat (de_ofL (dl_lst (da_cons (de_ix (dv 1) (de_int)) (da_cons (de_call c F_fraction_text (hr.mono (by decide)) (da_cons (de_ix (dv 1) (de_int)) da_nil)) da_nil)))) (de_ofL (dl_lstOf T.n_list (da_cons (de_slT (dv 1) (do_some (de_int)) do_none) da_nil))))))))))), fun ds Q F hc => ?_⟩
  obtain ⟨c, rfl, ok, hl, hQ⟩ := hc
  have e1 : (" " : Str).length = 1 := rfl
  have e2 : ("; " : Str).length = 2 := rfl
  refine ⟨_, rfl, fun i acc => i ≤ c.length ∧ acc = (c.take i).map fun s => D.str (wrtS s), ⟨Nat.zero_le _, rfl⟩, ?_, ?_⟩
  · rintro i d acc hi ⟨hle, rfl⟩
    rw [List.getElem?_map] at hi
    cases q : c[i]? with
    | none => rw [q] at hi; cases hi
    | some s =>
      rw [q] at hi
      cases hi
      have hlt := (List.getElem?_eq_some_iff.mp q).1
      have hs : s ∈ c := List.mem_of_getElem? q
      have ten := (ok s hs).ten
      have f7 := wrtF_le ten
      have k5 := kindS_le s
      have al : ((c.take i).map fun s => D.str (wrtS s)).length < 100000 := by rw [List.length_map, List.length_take]; omega
      have nx : i + 1 ≤ c.length ∧ ((c.take i).map fun s => D.str (wrtS s)) ++ [D.str (wrtS s)] = (c.take (i + 1)).map fun s => D.str (wrtS s) := ⟨hlt, by rw [List.take_succ, q, List.map_append]; rfl⟩
      cases s with
      | near m t =>
        have t4 := tieS_le t
        refine ⟨_, rfl, m, rfl, ten, len_ok rfl, len_ok rfl, wordsS (.near m t), ?_, ?_, al, nx⟩
        · cases t <;> rfl
        · simp only [wordsS, List.map_cons, List.map_append, List.map_nil, List.cons_append, List.nil_append, List.sum_cons, List.sum_nil, List.length_cons, List.length_nil, Step.num] at f7 ⊢
          omega
      | down m =>
        refine ⟨_, rfl, m, rfl, ten, len_ok rfl, len_ok rfl, wordsS (.down m), rfl, ?_, al, nx⟩
        simp only [wordsS, List.append_nil, List.map_cons, List.map_nil, List.sum_cons, List.sum_nil, List.length_cons, List.length_nil, Step.num] at f7 ⊢
        omega
      | up m =>
        refine ⟨_, rfl, m, rfl, ten, len_ok rfl, len_ok rfl, wordsS (.up m), rfl, ?_, al, nx⟩
        simp only [wordsS, List.append_nil, List.map_cons, List.map_nil, List.sum_cons, List.sum_nil, List.length_cons, List.length_nil, Step.num] at f7 ⊢
        omega
      | add m =>
        refine ⟨_, rfl, m, rfl, ten, len_ok rfl, len_ok rfl, wordsS (.add m), rfl, ?_, al, nx⟩
        simp only [wordsS, List.append_nil, List.map_cons, List.map_nil, List.sum_cons, List.sum_nil, List.length_cons, List.length_nil, Step.num] at f7 ⊢
        omega
      | times m =>
        refine ⟨_, rfl, m, rfl, ten, len_ok rfl, len_ok rfl, wordsS (.times m), rfl, ?_, al, nx⟩
        simp only [wordsS, List.append_nil, List.map_cons, List.map_nil, List.sum_cons, List.sum_nil, List.length_cons, List.length_nil, Step.num] at f7 ⊢
        omega
      | rest m =>
        refine ⟨_, rfl, m, rfl, ten, len_ok rfl, len_ok rfl, wordsS (.rest m), rfl, ?_, al, nx⟩
        simp only [wordsS, List.append_nil, List.map_cons, List.map_nil, List.sum_cons, List.sum_nil, List.length_cons, List.length_nil, Step.num] at f7 ⊢
        omega
  · rintro acc ⟨_, rfl⟩
    refine ⟨c.map wrtS, ?_, ?_, hQ⟩
    · rw [List.length_map, List.take_length, List.map_map]
      rfl
    · have h := wrtS_sum ok
      rw [List.length_map, e2]
      omega

theorem strOk_app {a b : Str} (ha : PyData.strOk a = true) (hb : PyData.strOk b = true) : PyData.strOk (a ++ b) = true := by
  show (a.cps ++ b.cps).all (· < 0x110000) = true
  rw [Array.all_append]
  exact Bool.and_eq_true_iff.mpr ⟨ha, hb⟩
theorem strOk_join {s : Str} (hs : PyData.strOk s = true) : ∀ ys : List Str, (∀ y ∈ ys, PyData.strOk y = true) → PyData.strOk (Txt.join s ys) = true
  | [], _ => by rw [TL.join_eq]; show PyData.strOk Str.empty = true; decide +kernel
  | [y], h => by rw [TL.join_eq]; exact h y List.mem_cons_self
  | x :: z :: r, h => by
    rw [TL.join_eq]
    show PyData.strOk (x ++ s ++ Str.join s (z :: r)) = true
    rw [← TL.join_eq]
    exact strOk_app (strOk_app (h x List.mem_cons_self) hs) (strOk_join hs (z :: r) fun y hy => h y (List.mem_cons_of_mem _ hy))
theorem iS_ok : ∀ k < 21, PyData.strOk (iS ((k : Nat) - 10 : Int)) = true := by decide +kernel
theorem iS_okI {i : Int} (h1 : -10 ≤ i) (h2 : i ≤ 10) : PyData.strOk (iS i) = true := by
  have h := iS_ok (i + 10).toNat (by omega)
  rw [show (((i + 10).toNat : Nat) : Int) - 10 = i by omega] at h
  exact h
theorem wrtF_ok {q : Rat} (h : Ten q) : PyData.strOk (wrtF q) = true := by
  have h1 := iS_okI (i := q.num) (by have := h.1; omega) (by have := h.1; omega)
  have h2 := iS_okI (i := (q.den : Int)) (by omega) (by have := h.2; omega)
  unfold wrtF
  split
  · exact h1
  · exact strOk_app (strOk_app (strOk_app (by decide +kernel) h1) (by decide +kernel)) h2
theorem wrtS_ok {s : Step} (h : StepOk s) : PyData.strOk (wrtS s) = true := by
  have f := wrtF_ok h.ten
  refine strOk_join (by decide +kernel) _ fun y hy => ?_
  have hk : PyData.strOk (kindS s) = true := by cases s <;> (simp only [kindS]; decide +kernel)
  unfold wordsS at hy
  rcases List.mem_append.mp hy with hy | hy
  · rcases List.mem_cons.mp hy with rfl | hy
    · exact hk
    · rw [List.mem_singleton.mp hy]; exact f
  · cases s with
    | near m t => rw [List.mem_singleton.mp hy]; cases t <;> (simp only [tieS]; decide +kernel)
    | _ => cases hy
theorem wrtC_ok {c : List Step} (ok : ∀ s ∈ c, StepOk s) : PyData.strOk (wrtC c) = true := strOk_join (by decide +kernel) _ fun y hy => by
  obtain ⟨s, hs, rfl⟩ := List.mem_map.mp hy
  exact wrtS_ok (ok s hs)
theorem shp_str {x : Str} (h : PyData.strOk x = true) : shp (.str x) := by
  unfold shp SeqAt.shaped
  simp only [toPy, PyData.canLay0, PyData.depth, h, Bool.true_and]
  rfl
theorem dif_b {dt : TTd} {da db : TEd} {sd : Sd} {P : D → Prop} {F : XF} (b : Bool) (ht : ∀ Pb : Bool → Prop, Pb b → dt sd Pb F) (h1 : b = true → da sd P F) (h2 : b = false → db sd P F) : dIf dt da db sd P F := ht _ (by
  cases b
  · exact h2 rfl
  · exact h1 rfl)
theorem or_go {dt du : TTd} {sd : Sd} {F : XF} {Pb : Bool → Prop} (b : Bool) (h1 : ∀ Pb : Bool → Prop, Pb b → dt sd Pb F) (h2 : b = true → Pb true) (h3 : b = false → du sd Pb F) : dOr dt du sd Pb F := h1 _ (by
  cases b
  · exact h3 rfl
  · exact h2 rfl)
theorem not_go {dt : TTd} {sd : Sd} {F : XF} {Pb : Bool → Prop} (b : Bool) (h1 : ∀ Pb : Bool → Prop, Pb b → dt sd Pb F) (h : Pb (!b)) : dNot dt sd Pb F := h1 _ h
theorem cut_t1 (z : Str) : cutS z none (some 1) = mkS ((cs z).take 1) := by
  unfold cutS
  have e1 : HT.sIx z.length 0 none = 0 := rfl
  have e2 : HT.sIx z.length z.length (some 1) = min 1 z.length := by
    unfold HT.sIx
    simp
    try omega
  rw [e1, e2, List.drop_zero, Nat.sub_zero]
  have e3 : z.length = (cs z).length := TL.len_tl z
  rw [e3]
  cases h : cs z with
  | nil => rw [show z.cps.toList = [] from h]; rfl
  | cons a l => rw [show z.cps.toList = a :: l from h]; simp [mkS]
theorem cut_d1 (z : Str) : cutS z (some 1) none = mkS ((cs z).drop 1) := by
  unfold cutS
  have e2 : HT.sIx z.length 0 (some 1) = min 1 z.length := by
    unfold HT.sIx
    simp
    try omega
  have e1 : HT.sIx z.length z.length none = z.length := rfl
  have e3 : z.length = (cs z).length := TL.len_tl z
  rw [e1, e2, e3]
  cases h : cs z with
  | nil => rw [show z.cps.toList = [] from h]; rfl
  | cons a l => rw [show z.cps.toList = a :: l from h]; simp [mkS]
theorem and_not {A B : Bool} : (!(A && B)) = (!A || !B) := by cases A <;> cases B <;> rfl
theorem lele_to {n : Nat} {db : TEd} {sd : Sd} {Pb : Bool → Prop} {F : XF} (hb : ∀ Pd : D → Prop, Pd (.int (n : Int)) → db sd Pd F) (h : Pb (decide (1 ≤ n) && decide (n ≤ 2))) : dTest (dChain dLe dLe (dC (.int 1)) db (dC (.int 2))) sd Pb F := hb _ (by
  have e2 : decide ((n : Int) ≤ 2) = decide (n ≤ 2) := decide_eq_decide.mpr (by omega)
  by_cases c : 1 ≤ n
  · rw [decide_eq_true c, Bool.true_and, ← e2] at h
    show (match D.bl (decide ((1 : Int) ≤ (n : Int))) with | .bl true => _ | .bl false => _ | _ => False)
    rw [decide_eq_true (show (1 : Int) ≤ (n : Int) by omega)]
    exact h
  · rw [decide_eq_false c, Bool.false_and] at h
    show (match D.bl (decide ((1 : Int) ≤ (n : Int))) with | .bl true => _ | .bl false => _ | _ => False)
    rw [decide_eq_false (show ¬ (1 : Int) ≤ (n : Int) by omega)]
    exact h)
theorem lenS_to {i : Nat} {x : Str} {sd : Sd} {P : D → Prop} {F : XF} (hv : sd[i]? = some (.dat (.str x))) (hx : x.length ≤ 100000) (h : P (.int (x.length : Int))) : dCB dLen (dCons (dVar i) dNil) sd P F := by
  have v : ∀ {Q : D → Prop} {Fx : XF}, Q (.str x) → dVar i sd Q Fx := fun {Q Fx} h => by unfold dVar; rw [hv]; exact h
  refine v (Q := fun y => _) (Fx := F) ?_
  show (match (if x.length ≤ 100000 then some x.length else none) with | some n => P (.int (n : Int)) | none => False)
  rw [if_pos hx]
  exact h
theorem bls_mapG {α : Type} (f : α → Bool) : ∀ xs : List α, bls (xs.map fun d => D.bl (f d)) = some (xs.map f)
  | [] => rfl
  | x :: xs => by simp [bls, bls_mapG f xs]
theorem figB_in (c : Nat) : decide (c ∈ cs "0123456789") = figB c := by
  have e : cs "0123456789" = figs := by decide +kernel
  have all : ∀ d ∈ figs, figB d = true := by decide
  rw [e]
  cases h : figB c with
  | true => exact decide_eq_true (fig_mem h)
  | false => exact decide_eq_false fun z => by rw [all c z] at h; cases h
theorem allF_to {l : List Nat} {a : Slot} {Pb : Bool → Prop} {F : XF} (hl : l.length ≤ 90000) (h : Pb (l.all figB)) : dTest (dCB dAll (dCons (dOfL (dLc (diS (dVar 1)) (dgName 2) dYes (dOp dInS (dVar 2) (dC (.str "0123456789"))) [2])) dNil)) [a, .dat (.str (mkS l)), .un] Pb F := by
  refine ⟨fun i acc => i ≤ l.length ∧ acc = (l.take i).map fun c => D.bl (figB c), ⟨Nat.zero_le _, rfl⟩, ?_, ?_⟩
  · rintro i d acc hi ⟨hle, rfl⟩
    rw [List.getElem?_map, Option.map_eq_some_iff] at hi
    obtain ⟨c, hc, rfl⟩ := hi
    have hc : l[i]? = some c := hc
    have hlt := (List.getElem?_eq_some_iff.mp hc).1
    have nx : ((l.take i).map fun c => D.bl (figB c)).length < 100000 ∧ i + 1 ≤ l.length ∧ (l.take i).map (fun c => D.bl (figB c)) ++ [D.bl (decide (c ∈ cs "0123456789"))] = (l.take (i + 1)).map fun c => D.bl (figB c) :=
      ⟨by rw [List.length_map, List.length_take]; omega, hlt, by rw [figB_in, List.take_succ, hc, List.map_append]; rfl⟩
    exact ⟨c, "0123456789", rfl, rfl, nx⟩
  · rintro acc ⟨_, rfl⟩
    show (match bls ((l.take (l.map fun c => D.str (sgn c)).length).map fun c => D.bl (figB c)) with | some bs => Pb (bs.all id) | none => False)
    rw [List.length_map, List.take_length, bls_mapG]
    show Pb ((l.map figB).all id)
    rw [List.all_map]
    exact h
theorem negS_eq (z : Str) : PyData.eqv (toPy (.str (mkS ((cs z).take 1)))) (toPy (.str "-")) = isNegS z := by
  show PyData.eqv (.str (mkS ((cs z).take 1))) (.str "-") = isNegS z
  rw [eqv_str]
  unfold isNegS
  have e : ("-" : Str) = mkS [45] := by decide +kernel
  rw [e]
  by_cases c : (cs z).take 1 = [45]
  · rw [c]; decide
  · have h1 : ((cs z).take 1 == [45]) = false := by simpa using c
    rw [h1]
    exact decide_eq_false fun h => c (congrArg cs h)

end
end RW

set_option Elab.async false
set_option linter.all false
set_option maxRecDepth 100000
set_option maxHeartbeats 2000000
set_option exponentiation.threshold 20000
namespace RW
open PySem L2
open Evl (Ex fresh_back)
section
variable {P : Program} {w : World} {K : PySem.W.Frag} {mg : Str → Option Value} {base : Heap}
abbrev s_integer_of : Stmt := topS 58
abbrev N_integer_of : List Str := ["word", "digits", "sign"]
theorem sc_integer_of : FnScope N_integer_of ["word"] (defScope s_integer_of) := ⟨rfl, rfl, rfl, by decide +kernel, rfl, by decide +kernel, by decide +kernel⟩
def integer_ofC (mg : Str → Option Value) : Ctr := fun ds Q F => ∃ z : Str, ds = [.str z] ∧ z.length ≤ 90000 ∧ PyData.strOk z = true ∧ (if numB z = true then Q (.int (numV z)) else F (clsOf mg "InvalidText"))
theorem fn_integer_of (T : Tx K mg) (R : Raw K mg "integer_of" s_integer_of ["word"])  : FnD P w K mg base 1 "integer_of" ["word"] (integer_ofC mg) := by
  obtain ⟨f, fd, R, gm, hb⟩ := R.ex
  refine fnD_of R gm sc_integer_of hb (fun ds Q F h => ?_) (fun cdv A outer s H E Dc hr => ?_)
  · obtain ⟨_, rfl, _⟩ := h; rfl
  have cx : Ctx (cxOf (L2N.CX P w) P w K mg base N_integer_of "integer_of" (defScope s_integer_of) f cdv A outer s H E) E := ctx_of
  refine ⟨_, _, (dss_cons (ds_set 1 sc_integer_of.nd (de_if (dt_eq hr (de_slS (dv 0) do_none (do_some (de_int))) (de_str)) (de_slS (dv 0) (do_some (de_int)) do_none) (dv 0)))
  (dss_cons (ds_if (dt_w (dw_or (dt_not (dt_lele (de_int) (de_len T.n_len (da_cons (dv 1) da_nil)) (de_int))) (dw_or1 (dt_not (dt_val (de_all cx T.n_all (da_cons (de_ofL (dl_lc (own := [("sign", 2)]) cx sc_integer_of.nd (di_str (dv 1)) (blkOk_by (own := [("sign", 2)]) (N := N_integer_of) (sc := defScope s_integer_of) (by decide +kernel)) (fun _ _ _ _ _ c => dg_name (i := 2) sc_integer_of.nd) (tch_name (by decide)) (fun _ _ _ _ _ c => dts_none) (fun _ _ _ _ _ c => de_inS  (dv 2) (de_str)))) da_nil)))))))
    (dss_one (ds_raiseC cx T.x_InvalidText))
    dss_nil)
  (dss_one (ds_ret (de_intS T.n_int (da_cons (dv 0) da_nil)))))), fun ds Q F hc => ?_⟩
  obtain ⟨z, rfl, hl, ok, hQ⟩ := hc
  show dSeq _ _ _ [.dat (.str z), .un, .un]
  have zl : (cs z).length = z.length := (TL.len_tl z).symm
  have dl : (digS z).length ≤ 90000 := by
    unfold digS
    split
    · rw [List.length_drop]; omega
    · omega
  have ok1 : PyData.strOk (mkS ((cs z).take 1)) = true := strOk_cs.mpr fun c hc => strOk_cs.mp ok c (List.mem_of_mem_take hc)
  refine set_to' (sd' := [.dat (.str z), .dat (.str (mkS (digS z))), .un]) (.str (mkS (digS z))) (fun Pd h => dif_b (isNegS z) (fun Pb h => eq_b (isNegS z) (.str (mkS ((cs z).take 1))) (.str "-") (shp_str ok1) (by decide +kernel) (negS_eq z) (fun Pd h => ⟨by omega, by rw [← cut_t1] at h; exact h⟩) (fun Pd h => h) h) (fun e => ⟨by omega, by unfold digS at h; rw [if_pos e, ← cut_d1] at h; exact h⟩) (fun e => by unfold digS at h; rw [if_neg (by rw [e]; decide), mkS_cs] at h; exact h)) rfl ?_
  refine if_case (!numB z) (fun Pb h => ?_) (fun e => ?_) (fun e => ?_)
  · unfold numB at h
    rw [and_not] at h
    refine or_go (!(decide (1 ≤ (digS z).length) && decide ((digS z).length ≤ 2))) (fun Pb h => not_go _ (fun Pb h => lele_to (fun Pd h => lenS_to rfl (by show (digS z).toArray.size ≤ 100000; rw [List.size_toArray]; omega) (by show Pd (.int ((digS z).toArray.size : Int)); rw [List.size_toArray]; exact h)) h) h) (fun e => by rw [e, Bool.true_or] at h; exact h) (fun e => ?_)
    rw [e, Bool.false_or] at h
    exact not_go _ (fun Pb h => allF_to dl h) h
  · rw [if_neg (by intro z; rw [z] at e; cases e)] at hQ
    exact hQ
  · have e : numB z = true := by simpa using e
    rw [if_pos e] at hQ
    have n := nums_ok z (numB_mem e)
    exact ⟨z, numV z, rfl, n.1, by omega, hQ⟩

theorem gt2_to {n : Nat} {db : TEd} {sd : Sd} {Pb : Bool → Prop} {F : XF} (hb : ∀ Pd : D → Prop, Pd (.int (n : Int)) → db sd Pd F) (h : Pb (decide (2 < n))) : dTest (dOp dGt db (dC (.int 2))) sd Pb F := hb _ (by
  show Pb (decide ((2 : Int) < (n : Int)))
  rw [show decide ((2 : Int) < (n : Int)) = decide (2 < n) from decide_eq_decide.mpr (by omega)]
  exact h)
theorem lt2_to {n : Nat} {db : TEd} {sd : Sd} {Pb : Bool → Prop} {F : XF} (hb : ∀ Pd : D → Prop, Pd (.int (n : Int)) → db sd Pd F) (h : Pb (decide (n < 2))) : dTest (dOp dLt db (dC (.int 2))) sd Pb F := hb _ (by
  show Pb (decide ((n : Int) < (2 : Int)))
  rw [show decide ((n : Int) < (2 : Int)) = decide (n < 2) from decide_eq_decide.mpr (by omega)]
  exact h)
theorem eqI_to {m : Nat} {n : Int} {db : TEd} {sd : Sd} {Pb : Bool → Prop} {F : XF} (hb : ∀ Pd : D → Prop, Pd (.int n) → db sd Pd F) (h : Pb (decide (n = (m : Int)))) : dTest (dOp dEq db (dC (.int (m : Int)))) sd Pb F := hb _ ⟨rfl, rfl, by
  show Pb (PyData.eqv (.int n) (.int (m : Int)))
  rw [eqv_int]
  exact h⟩
theorem lenL_to {i : Nat} {xs : List D} {sd : Sd} {P : D → Prop} {F : XF} (hv : sd[i]? = some (.dat (.lst xs))) (h : P (.int (xs.length : Int))) : dCB dLen (dCons (dVar i) dNil) sd P F := by
  have v : ∀ {Q : D → Prop} {Fx : XF}, Q (.lst xs) → dVar i sd Q Fx := fun {Q Fx} h => by unfold dVar; rw [hv]; exact h
  exact v (Q := fun y => _) (Fx := F) h
theorem ixV_to {i : Nat} {xs : List D} {k : Int} {d : D} {dk : TEd} {sd : Sd} {P : D → Prop} {F : XF} (hv : sd[i]? = some (.dat (.lst xs))) (hk : ∀ Pd : D → Prop, Pd (.int k) → dk sd Pd F) (e : atI xs k = some d) (h : P d) : dOp dIx (dVar i) dk sd P F := by
  have v : ∀ {Q : D → Prop} {Fx : XF}, Q (.lst xs) → dVar i sd Q Fx := fun {Q Fx} h => by unfold dVar; rw [hv]; exact h
  refine v (Q := fun y => _) (Fx := F) ?_
  refine hk _ ?_
  show dIx (.lst xs) (.int k) P
  simp only [dIx, e]
  exact h
theorem call1_to {C : Ctr} {da : TEd} {d : D} {sd : Sd} {P : D → Prop} {F : XF} (ha : ∀ Pd : D → Prop, Pd d → da sd Pd F) (h : C [d] P F) : dCall C (dCons da dNil) sd P F := ha _ h
theorem int_go {mg : Str → Option Value} {z : Str} {Q : D → Prop} {F : XF} (h : z.length ≤ 90000 ∧ PyData.strOk z = true) (e : numB z = true) (hQ : Q (.int (numV z))) : integer_ofC mg [.str z] Q F := ⟨z, rfl, h.1, h.2, by rw [if_pos e]; exact hQ⟩
theorem int_no {mg : Str → Option Value} {z : Str} {Q : D → Prop} {F : XF} (h : z.length ≤ 90000 ∧ PyData.strOk z = true) (e : numB z = false) (hF : F (clsOf mg "InvalidText")) : integer_ofC mg [.str z] Q F := ⟨z, rfl, h.1, h.2, by rw [if_neg (by rw [e]; decide)]; exact hF⟩
theorem nxret_to {dd : TEd} {De : DEnds} {sd : Sd} {a b c d} (h : dd sd De.rt De.rs) : dNext ⟨dRet dd De, a, b, c, d⟩ sd := h
theorem nxpar_to {da db : TEd} {i j : Nat} {u : TSd} {De : DEnds} {sd : Sd} {a b c d} (h : da sd (fun x => db sd (fun y => u De ((sd.set i (.dat x)).set j (.dat y))) De.rs) De.rs) : dNext ⟨dSeq (dPar i j (dCons da (dCons db dNil))) u De, a, b, c, d⟩ sd := h
/-- the fraction that a word describes -/
def frP (z : Str) : Option Rat := match Txt.split z "/" with
  | [a] => if numB a = true then some (Rat.divInt (numV a) 1) else none
  | [a, b] => if numB a = true then (if numB b = true then (if numV b = 0 then none else some (Rat.divInt (numV a) (numV b))) else none) else none
  | _ => none

abbrev s_fraction_of : Stmt := topS 59
abbrev N_fraction_of : List Str := ["word", "parts", "top", "bottom"]
theorem sc_fraction_of : FnScope N_fraction_of ["word"] (defScope s_fraction_of) := ⟨rfl, rfl, rfl, by decide +kernel, rfl, by decide +kernel, by decide +kernel⟩
def fraction_ofC (mg : Str → Option Value) : Ctr := fun ds Q F => ∃ z : Str, ds = [.str z] ∧ z.length ≤ 90000 ∧ PyData.strOk z = true ∧ (match frP z with | some q => Q (rq q) | none => F (clsOf mg "InvalidText"))
theorem fn_fraction_of (T : Tx K mg) (R : Raw K mg "fraction_of" s_fraction_of ["word"]) (F_lowest : FnD P w K mg base 2 "lowest" ["top", "bottom"] lowestC) (F_integer_of : FnD P w K mg base 1 "integer_of" ["word"] (integer_ofC mg)) : FnD P w K mg base 3 "fraction_of" ["word"] (fraction_ofC mg) := by
  obtain ⟨f, fd, R, gm, hb⟩ := R.ex
  refine fnD_of R gm sc_fraction_of hb (fun ds Q F h => ?_) (fun cdv A outer s H E Dc hr => ?_)
  · obtain ⟨_, rfl, _⟩ := h; rfl
  have cx : Ctx (cxOf (L2N.CX P w) P w K mg base N_fraction_of "fraction_of" (defScope s_fraction_of) f cdv A outer s H E) E := ctx_of
  refine ⟨_, _, (dss_cons (ds_set 1 sc_fraction_of.nd (de_ofL (dl_split (dv 0) (de_str))))
  (dss_cons (ds_if (dt_gt (de_len T.n_len (da_cons (dv 1) da_nil)) (de_int))
    (dss_one (ds_raiseC cx T.x_InvalidText))
    dss_nil)
  (dss_cons (ds_par 2 3 cx.calm sc_fraction_of.nd (da_cons (de_call cx F_integer_of (hr.mono (by decide)) (da_cons (de_ix (dv 1) (de_int)) da_nil)) (da_cons (de_if (dt_eq hr (de_len T.n_len (da_cons (dv 1) da_nil)) (de_int)) (de_call cx F_integer_of (hr.mono (by decide)) (da_cons (de_ix (dv 1) (de_neg (de_int))) da_nil)) (de_int)) da_nil)))
  (dss_cons (ds_if (dt_eq hr (dv 3) (de_int))
    (dss_one (ds_raiseC cx T.x_InvalidText))
    dss_nil)
  (dss_one (ds_ret (de_call cx F_lowest (hr.mono (by decide)) (da_cons (dv 2) (da_cons (dv 3) da_nil))))))))), fun ds Q F hc => ?_⟩
  obtain ⟨z, rfl, hl, ok, hQ⟩ := hc
  have sp : sepB "/" = true := by decide +kernel
  have ne := split_ne (x := z) sp
  have pt : ∀ p ∈ Txt.split z "/", p.length ≤ 90000 ∧ PyData.strOk p = true := fun p hp => ⟨Nat.le_trans (split_part sp hp).2 hl, split_ok sp ok hp⟩
  show dSeq _ _ _ [.dat (.str z), .un, .un, .un]
  refine set_to' (sd' := [.dat (.str z), .dat (.lst ((Txt.split z "/").map D.str)), .un, .un]) (.lst ((Txt.split z "/").map D.str)) (fun Pd h => ⟨z, rfl, "/", rfl, by decide +kernel, hl, h⟩) rfl ?_
  unfold frP at hQ
  generalize Txt.split z "/" = ps at ne pt hQ ⊢
  match ps, ne, pt, hQ with
  | [a], _, pt, hQ =>
    have pa := pt a (by simp)
    refine if_case false (fun Pb h => gt2_to (fun Pd h => lenL_to rfl h) h) (fun z => nomatch z) (fun _ => ?_)
    refine nxpar_to ?_
    refine call1_to (fun Pd h => ixV_to rfl (fun Pd h => h) rfl h) ?_
    cases ea : numB a with
    | false =>
      have hQ : (match (if numB a = true then some (Rat.divInt (numV a) 1) else none) with | some q => Q (rq q) | none => F (clsOf mg "InvalidText")) := hQ
      rw [ea] at hQ
      exact int_no pa ea hQ
    | true =>
      have hQ : (match (if numB a = true then some (Rat.divInt (numV a) 1) else none) with | some q => Q (rq q) | none => F (clsOf mg "InvalidText")) := hQ
      rw [ea] at hQ
      refine int_go pa ea ?_
      refine dif_b (P := fun x => _) false (fun Pb h => eqI_to (m := 2) (fun Pd h => lenL_to rfl h) h) (fun z => nomatch z) (fun _ => ?_)
      refine if_case false (fun Pb h => eqI_to (m := 0) (n := 1) (fun Pd h => h) h) (fun z => nomatch z) (fun _ => ?_)
      exact ⟨numV a, 1, rfl, by decide, by decide +kernel, hQ⟩
  | [a, b], _, pt, hQ =>
    have pa := pt a (by simp)
    have pb := pt b (by simp)
    have hQ : (match (if numB a = true then (if numB b = true then (if numV b = 0 then none else some (Rat.divInt (numV a) (numV b))) else none) else none) with | some q => Q (rq q) | none => F (clsOf mg "InvalidText")) := hQ
    refine if_case false (fun Pb h => gt2_to (fun Pd h => lenL_to rfl h) h) (fun z => nomatch z) (fun _ => ?_)
    refine nxpar_to ?_
    refine call1_to (fun Pd h => ixV_to rfl (fun Pd h => h) rfl h) ?_
    cases ea : numB a with
    | false =>
      rw [ea] at hQ
      exact int_no pa ea hQ
    | true =>
      rw [ea] at hQ
      refine int_go pa ea ?_
      refine dif_b (P := fun x => _) true (fun Pb h => eqI_to (m := 2) (fun Pd h => lenL_to rfl h) h) (fun _ => ?_) (fun z => nomatch z)
      refine call1_to (P := fun x => _) (fun Pd h => ixV_to rfl (fun Pd h => h) rfl h) ?_
      cases eb : numB b with
      | false =>
        rw [eb] at hQ
        exact int_no (Q := fun x => _) pb eb hQ
      | true =>
        rw [eb] at hQ
        refine int_go (Q := fun x => _) pb eb ?_
        have nb := nums_ok b (numB_mem eb)
        refine if_case (decide (numV b = 0)) (fun Pb h => eqI_to (m := 0) (n := numV b) (fun Pd h => h) h) (fun e => ?_) (fun e => ?_)
        · rw [if_pos (of_decide_eq_true e)] at hQ
          exact hQ
        · rw [if_neg (of_decide_eq_false e)] at hQ
          exact ⟨numV a, numV b, rfl, of_decide_eq_false e, Nat.lt_of_le_of_lt (show (numV b).natAbs ≤ 99 by omega) (Nat.lt_of_lt_of_le (show 99 < 2 ^ 7 by decide) (Nat.pow_le_pow_right (by decide) (by decide))), hQ⟩
  | a :: b :: c :: r, _, pt, hQ =>
    exact if_case true (fun Pb h => gt2_to (n := ((a :: b :: c :: r).map D.str).length) (fun Pd h => lenL_to rfl h) (by rw [decide_eq_true (by simp)]; exact h)) (fun _ => hQ) (fun z => nomatch z)

theorem spl_len (S : List Nat) : ∀ (l acc : List Nat) (k : Nat), (TL.spl S k acc l).length ≤ l.length + 1
  | [], acc, k => by rw [TL.spl_nil]; simp
  | c :: r, acc, 0 => by
    unfold TL.spl
    split
    · have := spl_len S r [] (S.length - 1)
      simp
      omega
    · have := spl_len S r (acc ++ [c]) 0
      simp
      omega
  | c :: r, acc, k + 1 => by
    unfold TL.spl
    have := spl_len S r acc k
    simp
    omega
theorem split_len {x y : Str} (hy : sepB y = true) : (Txt.split x y).length ≤ x.length + 1 := by
  have h := spl_len (cs y) (cs x) [] 0
  rw [← split_cs hy, List.length_map] at h
  rw [TL.len_tl x]
  exact h
theorem fr_go {mg : Str → Option Value} {z : Str} {Q : D → Prop} {F : XF} (h : z.length ≤ 90000 ∧ PyData.strOk z = true) (hQ : match frP z with | some q => Q (rq q) | none => F (clsOf mg "InvalidText")) : fraction_ofC mg [.str z] Q F := ⟨z, rfl, h.1, h.2, hQ⟩
/-- the step that a text describes -/
def stP (z : Str) : Option D := match Txt.split z " " with
  | w0 :: w1 :: r => (frP w1).map fun q => .tup ([.str w0, rq q] ++ r.map D.str)
  | _ => none
theorem cut_2 (a b : D) (r : List D) : cutD (a :: b :: r) (some 2) none = r := by
  unfold cutD
  have e1 : HT.sIx (a :: b :: r).length 0 (some 2) = 2 := by
    unfold HT.sIx
    simp
    try omega
  have e2 : HT.sIx (a :: b :: r).length (a :: b :: r).length none = r.length + 2 := rfl
  rw [e1, e2]
  simp

abbrev s_step_of : Stmt := topS 60
abbrev N_step_of : List Str := ["text", "words"]
theorem sc_step_of : FnScope N_step_of ["text"] (defScope s_step_of) := ⟨rfl, rfl, rfl, by decide +kernel, rfl, by decide +kernel, by decide +kernel⟩
def step_ofC (mg : Str → Option Value) : Ctr := fun ds Q F => ∃ z : Str, ds = [.str z] ∧ z.length ≤ 90000 ∧ PyData.strOk z = true ∧ (match stP z with | some d => Q d | none => F (clsOf mg "InvalidText"))
theorem fn_step_of (T : Tx K mg) (R : Raw K mg "step_of" s_step_of ["text"]) (F_fraction_of : FnD P w K mg base 3 "fraction_of" ["word"] (fraction_ofC mg)) : FnD P w K mg base 4 "step_of" ["text"] (step_ofC mg) := by
  obtain ⟨f, fd, R, gm, hb⟩ := R.ex
  refine fnD_of R gm sc_step_of hb (fun ds Q F h => ?_) (fun cdv A outer s H E Dc hr => ?_)
  · obtain ⟨_, rfl, _⟩ := h; rfl
  have cx : Ctx (cxOf (L2N.CX P w) P w K mg base N_step_of "step_of" (defScope s_step_of) f cdv A outer s H E) E := ctx_of
  refine ⟨_, _, (dss_cons (ds_set 1 sc_step_of.nd (de_ofL (dl_split (dv 0) (de_str))))
  (dss_cons (ds_if (dt_lt (de_len T.n_len (da_cons (dv 1) da_nil)) (de_int))
    (dss_one (ds_raiseC cx T.x_InvalidText))
    dss_nil)
  (dss_one (ds_ret (de_catT (de_tup (da_cons (de_ix (dv 1) (de_int)) (da_cons (de_call cx F_fraction_of (hr.mono (by decide)) (da_cons (de_ix (dv 1) (de_int)) da_nil)) da_nil))) (de_tupOf T.n_tuple (da_cons (de_ofL (dl_slL (dv 1) (do_some (de_int)) do_none)) da_nil))))))), fun ds Q F hc => ?_⟩
  obtain ⟨z, rfl, hl, ok, hQ⟩ := hc
  have sp : sepB " " = true := by decide +kernel
  have ln := split_len (x := z) sp
  have pt : ∀ p ∈ Txt.split z " ", p.length ≤ 90000 ∧ PyData.strOk p = true := fun p hp => ⟨Nat.le_trans (split_part sp hp).2 hl, split_ok sp ok hp⟩
  show dSeq _ _ _ [.dat (.str z), .un]
  refine set_to' (sd' := [.dat (.str z), .dat (.lst ((Txt.split z " ").map D.str))]) (.lst ((Txt.split z " ").map D.str)) (fun Pd h => ⟨z, rfl, " ", rfl, by decide +kernel, hl, h⟩) rfl ?_
  unfold stP at hQ
  generalize Txt.split z " " = ps at ln pt hQ ⊢
  match ps, ln, pt, hQ with
  | [], _, _, hQ => exact if_case true (fun Pb h => lt2_to (fun Pd h => lenL_to rfl h) h) (fun _ => hQ) (fun z => nomatch z)
  | [a], _, _, hQ => exact if_case true (fun Pb h => lt2_to (fun Pd h => lenL_to rfl h) h) (fun _ => hQ) (fun z => nomatch z)
  | w0 :: w1 :: r, ln, pt, hQ =>
    have p1 := pt w1 (by simp)
    have hQ : (match (frP w1).map (fun q => D.tup ([.str w0, rq q] ++ r.map D.str)) with | some d => Q d | none => F (clsOf mg "InvalidText")) := hQ
    refine if_case false (fun Pb h => lt2_to (n := ((w0 :: w1 :: r).map D.str).length) (fun Pd h => lenL_to rfl h) (by rw [decide_eq_false (by simp)]; exact h)) (fun z => nomatch z) (fun _ => ?_)
    refine nxret_to ?_
    refine ixV_to (P := fun x => _) (F := (fnEnds Q F).rs) (i := 1) (xs := (w0 :: w1 :: r).map D.str) (k := 0) (d := .str w0) (dk := dC (.int 0)) (sd := [.dat (.str z), .dat (.lst ((w0 :: w1 :: r).map D.str))]) rfl (fun Pd h => h) (show atI (D.str w0 :: D.str w1 :: r.map D.str) 0 = some (.str w0) from at_0) ?_
    refine call1_to (P := fun x => _) (F := (fnEnds Q F).rs) (da := dOp dIx (dVar 1) (dC (.int 1))) (d := .str w1) (C := fraction_ofC mg) (sd := [.dat (.str z), .dat (.lst ((w0 :: w1 :: r).map D.str))]) (fun Pd h => ixV_to (xs := (w0 :: w1 :: r).map D.str) rfl (fun Pd h => h) (show atI (D.str w0 :: D.str w1 :: r.map D.str) 1 = some (.str w1) from at_1) h) ?_
    refine fr_go (Q := fun x => _) p1 ?_
    cases e : frP w1 with
    | none =>
      rw [e] at hQ
      exact hQ
    | some q =>
      rw [e] at hQ
      refine ⟨len_ok rfl, ?_⟩
      have ec : cutD (List.map D.str (w0 :: w1 :: r)) (some 2) none = r.map D.str := cut_2 _ _ _
      show [D.str w0, rq q].length + (cutD (List.map D.str (w0 :: w1 :: r)) (some 2) none).length ≤ 100000 ∧ Q (D.tup ([D.str w0, rq q] ++ cutD (List.map D.str (w0 :: w1 :: r)) (some 2) none))
      rw [ec]
      exact ⟨by rw [List.length_map]; simp at ln ⊢; omega, hQ⟩

def stPs : List Str → Option (List D)
  | [] => some []
  | z :: zs => match stP z, stPs zs with
    | some d, some ds => some (d :: ds)
    | _, _ => none
theorem stPs_app {p : Str} : ∀ l : List Str, stPs (l ++ [p]) = (match stPs l, stP p with | some ds, some d => some (ds ++ [d]) | _, _ => none)
  | [] => by
    show (match stP p, (some [] : Option (List D)) with | some d, some ds => some (d :: ds) | _, _ => none) = (match (some [] : Option (List D)), stP p with | some ds, some d => some (ds ++ [d]) | _, _ => none)
    cases stP p <;> rfl
  | z :: l => by
    show (match stP z, stPs (l ++ [p]) with | some d, some ds => some (d :: ds) | _, _ => none) = (match (match stP z, stPs l with | some d, some ds => some (d :: ds) | _, _ => none), stP p with | some ds, some d => some (ds ++ [d]) | _, _ => none)
    rw [stPs_app l]
    cases stP z <;> cases stPs l <;> cases stP p <;> rfl
theorem stPs_len : ∀ {l : List Str} {ds : List D}, stPs l = some ds → ds.length = l.length
  | [], ds, h => by cases h; rfl
  | z :: l, ds, h => by
    unfold stPs at h
    cases h1 : stP z with
    | none => rw [h1] at h; cases h
    | some d =>
      cases h2 : stPs l with
      | none => rw [h1, h2] at h; cases h
      | some es =>
        rw [h1, h2] at h
        cases h
        simp [stPs_len h2]
theorem stPs_none : ∀ {l : List Str} {p : Str}, p ∈ l → stP p = none → stPs l = none
  | z :: l, p, hp, e => by
    unfold stPs
    rcases List.mem_cons.mp hp with rfl | hp
    · rw [e]
    · rw [stPs_none hp e]
      cases stP z <;> rfl
theorem pls_strs : ∀ r : List Str, (∀ a ∈ r, PyData.strOk a = true) → pls (r.map D.str) = true
  | [], _ => rfl
  | a :: r, h => by simp [pls, pl, pls_strs r fun b hb => h b (List.mem_cons_of_mem _ hb), h a List.mem_cons_self]
theorem stP_pl {z : Str} {d : D} (ok : PyData.strOk z = true) (h : stP z = some d) : pl d = true := by
  have pt : ∀ p ∈ Txt.split z " ", PyData.strOk p = true := fun p hp => split_ok (by decide +kernel) ok hp
  unfold stP at h
  split at h
  · rename_i w0 w1 r es
    rw [es] at pt
    have pr := pls_strs r fun a ha => pt a (List.mem_cons_of_mem _ (List.mem_cons_of_mem _ ha))
    have p0 := pt w0 List.mem_cons_self
    cases e : frP w1 with
    | none => rw [e] at h; cases h
    | some q =>
      rw [e] at h
      cases h
      simp [pl, pls, rq, pr, p0]
  · cases h
theorem stPs_pl : ∀ {l : List Str} {ds : List D}, (∀ a ∈ l, PyData.strOk a = true) → stPs l = some ds → pls ds = true
  | [], ds, _, h => by cases h; rfl
  | z :: l, ds, h0, h => by
    unfold stPs at h
    cases h1 : stP z with
    | none => rw [h1] at h; cases h
    | some d =>
      cases h2 : stPs l with
      | none => rw [h1, h2] at h; cases h
      | some es =>
        rw [h1, h2] at h
        cases h
        simp [pls, stP_pl (h0 z List.mem_cons_self) h1, stPs_pl (fun a ha => h0 a (List.mem_cons_of_mem _ ha)) h2]
def foundP (z : Str) : Option (List D) := if z = "" then some [] else stPs (Txt.split z "; ")
theorem st_go {mg : Str → Option Value} {z : Str} {Q : D → Prop} {F : XF} (h : z.length ≤ 90000 ∧ PyData.strOk z = true) (hQ : match stP z with | some d => Q d | none => F (clsOf mg "InvalidText")) : step_ofC mg [.str z] Q F := ⟨z, rfl, h.1, h.2, hQ⟩
theorem neS_b {da db : TEd} {sd : Sd} {F : XF} {Pb : Bool → Prop} (b : Bool) (d0 d1 : D) (h0 : shp d0) (h1 : shp d1) (e : PyData.eqv (toPy d0) (toPy d1) = !b) (ha : ∀ Pd : D → Prop, Pd d0 → da sd Pd F) (hb : ∀ Pd : D → Prop, Pd d1 → db sd Pd F) (h : Pb b) : dTest (dOp dNe da db) sd Pb F :=
  ha _ (hb _ ⟨h0, h1, by rw [e, Bool.not_not]; exact h⟩)
theorem isS_to {f : D → Option Bool} {i : Nat} {d : D} {b : Bool} {sd : Sd} {Pb : Bool → Prop} {F : XF} (hv : sd[i]? = some (.dat d)) (e : f d = some b) (h : Pb b) : dTest (dIs f (dVar i)) sd Pb F := by
  have v : ∀ {Q : D → Prop} {Fx : XF}, Q d → dVar i sd Q Fx := fun {Q Fx} h => by unfold dVar; rw [hv]; exact h
  refine v (Q := fun y => _) (Fx := F) ?_
  show (match f d with | some b => Pb b | none => False)
  rw [e]
  exact h
theorem nxasg_to {dd : TEd} {i : Nat} {u : TSd} {De : DEnds} {sd : Sd} {a b c d} (h : dd sd (fun x => u De (sd.set i (.dat x))) De.rs) : dNext ⟨dSeq (dAsg dd (dgName i)) u De, a, b, c, d⟩ sd := h
theorem found_to {mg : Str → Option Value} {z : Str} (hl : z.length ≤ 80000) (ok : PyData.strOk z = true) {P : D → Prop} {F : XF} (h : match foundP z with | none => F (clsOf mg "InvalidText") | some es => P (.tup es)) :
    dIf (dTest (dOp dEq (dVar 0) (dC (.str "")))) (dTup dNil) (dCB dTupOf (dCons (dOfL (dLcR (diL (dOfL (dSplit (dVar 0) (dC (.str "; "))))) (dgName 2) (dCall (step_ofC mg) (dCons (dVar 2) dNil)) [2])) dNil)) [.dat (.str z), .un, .un] P F := by
  unfold foundP at h
  refine dif_b (decide (z = "")) (fun Pb h => eq_b (decide (z = "")) (.str z) (.str "") (shp_str ok) (by decide +kernel) (by show PyData.eqv (.str z) (.str "") = _; rw [eqv_str]) (fun Pd h => h) (fun Pd h => h) h) (fun e => ?_) (fun e => ?_)
  · rw [if_pos (of_decide_eq_true e)] at h
    exact ⟨len_ok rfl, h⟩
  · rw [if_neg (of_decide_eq_false e)] at h
    have sp : sepB "; " = true := by decide +kernel
    have ln := split_len (x := z) sp
    have pt : ∀ p ∈ Txt.split z "; ", p.length ≤ 90000 ∧ PyData.strOk p = true := fun p hp => ⟨Nat.le_trans (split_part sp hp).2 (by omega), split_ok sp ok hp⟩
    refine ⟨z, rfl, "; ", rfl, by decide +kernel, by omega, ?_⟩
    generalize Txt.split z "; " = ps at ln pt h ⊢
    refine ⟨fun i acc => i ≤ ps.length ∧ stPs (ps.take i) = some acc, ⟨Nat.zero_le _, rfl⟩, ?_, ?_⟩
    · rintro i d acc hi ⟨hle, ha⟩
      rw [List.getElem?_map, Option.map_eq_some_iff] at hi
      obtain ⟨p, hp, rfl⟩ := hi
      have hm := List.mem_of_getElem? hp
      have hlt := (List.getElem?_eq_some_iff.mp hp).1
      show step_ofC mg [.str p] _ F
      refine st_go (pt p hm) ?_
      cases e : stP p with
      | none =>
        rw [stPs_none hm e] at h
        exact h
      | some d =>
        refine ⟨by rw [stPs_len ha, List.length_take]; omega, hlt, ?_⟩
        rw [List.take_succ, hp]
        show stPs (ps.take i ++ [p]) = _
        rw [stPs_app, ha, e]
    · rintro acc ⟨_, ha⟩
      rw [List.length_map, List.take_length] at ha
      rw [ha] at h
      exact h
theorem found_pl {z : Str} {es : List D} (ok : PyData.strOk z = true) (h : foundP z = some es) : pl (.tup es) = true ∧ es.length ≤ z.length + 1 := by
  unfold foundP at h
  by_cases c : z = ""
  · rw [if_pos c] at h
    cases h
    exact ⟨rfl, Nat.zero_le _⟩
  · rw [if_neg c] at h
    have sp : sepB "; " = true := by decide +kernel
    exact ⟨stPs_pl (fun a ha => split_ok sp ok ha) h, by rw [stPs_len h]; exact split_len sp⟩
def parseW (mg : Str → Option Value) (z : Str) (Q : D → Prop) (F : XF) : Prop := match foundP z with
  | none => F (clsOf mg "InvalidText")
  | some es => if isChB (.tup es) = true then (∀ c : List Step, D.tup es = chD c → (∀ s ∈ c, StepOk s) → c.length ≤ 4 → if wrtC c = z then Q (chD c) else F (clsOf mg "InvalidText")) else F (clsOf mg "InvalidText")

abbrev s_parse_chain : Stmt := topS 61
abbrev N_parse_chain : List Str := ["text", "found", "one"]
theorem sc_parse_chain : FnScope N_parse_chain ["text"] (defScope s_parse_chain) := ⟨rfl, rfl, rfl, by decide +kernel, rfl, by decide +kernel, by decide +kernel⟩
def parse_chainC (mg : Str → Option Value) : Ctr := fun ds Q F => ∃ d, ds = [d] ∧ ((isStrD d = some false ∧ F (clsOf mg "InvalidText")) ∨ ∃ z : Str, d = .str z ∧ z.length ≤ 80000 ∧ PyData.strOk z = true ∧ parseW mg z Q F)
theorem fn_parse_chain (T : Tx K mg) (R : Raw K mg "parse_chain" s_parse_chain ["text"]) (F_is_chain : FnD P w K mg base 4 "is_chain" ["value"] is_chainC) (F_written : FnD P w K mg base 2 "written" ["chain"] writtenC) (F_step_of : FnD P w K mg base 4 "step_of" ["text"] (step_ofC mg)) : FnD P w K mg base 5 "parse_chain" ["text"] (parse_chainC mg) := by
  obtain ⟨f, fd, R, gm, hb⟩ := R.ex
  refine fnD_of R gm sc_parse_chain hb (fun ds Q F h => ?_) (fun cdv A outer s H E Dc hr => ?_)
  · obtain ⟨_, rfl, _⟩ := h; rfl
  have cx : Ctx (cxOf (L2N.CX P w) P w K mg base N_parse_chain "parse_chain" (defScope s_parse_chain) f cdv A outer s H E) E := ctx_of
  refine ⟨_, _, (dss_cons (ds_if (dt_not (dt_val (de_isi isi_str T.n_isinstance T.n_str (by decide +kernel) (dv 0))))
    (dss_one (ds_raiseC cx T.x_InvalidText))
    dss_nil)
  (dss_cons (ds_set 1 sc_parse_chain.nd (de_if (dt_eq hr (dv 0) (de_str)) (de_tup da_nil) (de_tupOf T.n_tuple (da_cons (de_ofL (dl_lcR (own := [("one", 2)]) cx sc_parse_chain.nd (di_list (de_ofL (dl_split (dv 0) (de_str)))) (blkOk_by (own := [("one", 2)]) (N := N_parse_chain) (sc := defScope s_parse_chain) (by decide +kernel)) (fun _ _ _ _ _ c => dg_name (i := 2) sc_parse_chain.nd) (tch_name (by decide)) (fun _ _ _ _ _ _ ps => de_callP ps F_step_of (hr.mono (by decide)) (da_cons (dv 2) da_nil)))) da_nil))))
  (dss_cons (ds_if (dt_w (dw_or (dt_not (dt_val (de_call cx F_is_chain (hr.mono (by decide)) (da_cons (dv 1) da_nil)))) (dw_or1 (dt_ne hr (de_call cx F_written (hr.mono (by decide)) (da_cons (dv 1) da_nil)) (dv 0)))))
    (dss_one (ds_raiseC cx T.x_InvalidText))
    dss_nil)
  (dss_one (ds_ret (dv 1)))))), fun ds Q F hc => ?_⟩
  obtain ⟨d, rfl, hQ⟩ := hc
  rcases hQ with ⟨hd, hF⟩ | ⟨z, rfl, hl, ok, hQ⟩
  · exact if_case true (fun Pb h => not_go false (fun Pb h => isS_to rfl hd h) h) (fun _ => hF) (fun z => nomatch z)
  show dSeq _ _ _ [.dat (.str z), .un, .un]
  refine if_case false (fun Pb h => not_go true (fun Pb h => isS_to rfl rfl h) h) (fun z => nomatch z) (fun _ => ?_)
  refine nxasg_to (found_to hl ok ?_)
  unfold parseW at hQ
  cases ef : foundP z with
  | none =>
    rw [ef] at hQ
    exact hQ
  | some es =>
    rw [ef] at hQ
    obtain ⟨fp, fl⟩ := found_pl ok ef
    have hQ : if isChB (.tup es) = true then (∀ c : List Step, D.tup es = chD c → (∀ s ∈ c, StepOk s) → c.length ≤ 4 → if wrtC c = z then Q (chD c) else F (clsOf mg "InvalidText")) else F (clsOf mg "InvalidText") := hQ
    show dSeq _ _ _ [.dat (.str z), .dat (.tup es), .un]
    have ic : ∀ (Pb : Bool → Prop) (Fx : XF), Pb (isChB (.tup es)) → dTest (dCall is_chainC (dCons (dVar 1) dNil)) [.dat (.str z), .dat (.tup es), .un] Pb Fx := fun Pb Fx h => ⟨.tup es, rfl, fp, (fun xs e => by cases e; omega), h⟩
    cases hb : isChB (.tup es) with
    | false =>
      rw [if_neg (by rw [hb]; decide)] at hQ
      exact if_case true (fun Pb h => or_go true (fun Pb h => not_go false (fun Pb h => ic Pb _ (by rw [hb]; exact h)) h) (fun _ => h) (fun z => nomatch z)) (fun _ => hQ) (fun z => nomatch z)
    | true =>
      rw [if_pos hb] at hQ
      obtain ⟨c, hc, okc, hl4⟩ := isChB_dec hb
      have hQ := hQ c hc okc hl4
      have nt : ∀ (b : Bool), decide (wrtC c = z) = !b → ∀ (Pb : Bool → Prop) (Fx : XF), Pb b → dTest (dOp dNe (dCall writtenC (dCons (dVar 1) dNil)) (dVar 0)) [.dat (.str z), .dat (.tup es), .un] Pb Fx := fun b hb Pb Fx h => neS_b b (.str (wrtC c)) (.str z) (shp_str (wrtC_ok okc)) (shp_str ok) (by show PyData.eqv (.str (wrtC c)) (.str z) = _; rw [eqv_str]; exact hb) (fun Pd h => ⟨c, by rw [← hc], okc, hl4, h⟩) (fun Pd h => h) h
      by_cases hw : wrtC c = z
      · rw [if_pos hw] at hQ
        refine if_case false (fun Pb h => or_go false (fun Pb h => not_go true (fun Pb h => ic Pb _ (by rw [hb]; exact h)) h) (fun z => nomatch z) (fun _ => nt false (decide_eq_true hw) Pb _ h)) (fun z => nomatch z) (fun _ => ?_)
        show Q (.tup es)
        rw [hc]
        exact hQ
      · rw [if_neg hw] at hQ
        exact if_case true (fun Pb h => or_go false (fun Pb h => not_go true (fun Pb h => ic Pb _ (by rw [hb]; exact h)) h) (fun z => nomatch z) (fun _ => nt true (decide_eq_false hw) Pb _ h)) (fun _ => hQ) (fun z => nomatch z)

end
end RW

set_option Elab.async false
set_option linter.all false
set_option maxRecDepth 100000
set_option maxHeartbeats 2000000
set_option exponentiation.threshold 20000
namespace RW
open PySem L2
open Evl (Ex fresh_back)
section
variable {P : Program} {w : World} {K : PySem.W.Frag} {mg : Str → Option Value} {base : Heap}
abbrev s_law_cell : Stmt := topS 63
abbrev N_law_cell : List Str := ["script", "k"]
theorem sc_law_cell : FnScope N_law_cell ["script", "k"] (defScope s_law_cell) := ⟨rfl, rfl, rfl, by decide +kernel, rfl, by decide +kernel, by decide +kernel⟩
theorem shp_scr (ns : List Int) : shp (.scr ns) := by
  have h : ∀ ms : List Int, PyData.canLayAll0 (ms.map PyData.int) = true ∧ PyData.depthAll (ms.map PyData.int) = 0 := fun ms => by
    induction ms with
    | nil => exact ⟨rfl, rfl⟩
    | cons m ms ih => simp [PyData.canLayAll0, PyData.depthAll, PyData.canLay0, PyData.depth, ih]
  unfold shp SeqAt.shaped
  simp [PyData.canLay0, PyData.depth, h ns]
def law_cellC : Ctr := fun ds Q _ => ∃ (ns : List Int) (k : Nat), ds = [.scr ns, .int (k : Int)] ∧ ns.length ≤ 63 ∧ k < 2 ^ 50 ∧ ∀ z, Q (.int z)
theorem fn_law_cell (T : Tx K mg) (R : Raw K mg "_law_cell" s_law_cell ["script", "k"])  : FnD P w K mg base 1 "_law_cell" ["script", "k"] law_cellC := by
  obtain ⟨f, fd, R, gm, hb⟩ := R.ex
  refine fnD_of R gm sc_law_cell hb (fun ds Q F h => ?_) (fun cdv A outer s H E Dc hr => ?_)
  · obtain ⟨_, _, rfl, _⟩ := h; rfl
  have cx : Ctx (cxOf (L2N.CX P w) P w K mg base N_law_cell "_law_cell" (defScope s_law_cell) f cdv A outer s H E) E := ctx_of
  refine ⟨_, _, (dss_cons (ds_if (dt_eq hr (dv 0) (de_ofL (dl_lst da_nil)))
    (dss_one (ds_ret (de_mul (dv 1) (de_int))))
    dss_nil)
  (dss_one (ds_ret (de_add (de_ix (dv 0) (de_mod (dv 1) (de_len T.n_len (da_cons (dv 0) da_nil)))) (de_mul (de_fdv (dv 1) (de_len T.n_len (da_cons (dv 0) da_nil))) (de_int)))))), fun ds Q F hc => ?_⟩
  obtain ⟨ns, k, rfl, hl, hk, hQ⟩ := hc
  have cm1 : CM (k : Int) 7919 := .inl (.inr ⟨by decide, by decide⟩)
  cases ns with
  | nil =>
    simp [shp_scr, shp_nil, PyData.eqv, PyData.eqvAll, cm1]
    exact hQ _
  | cons n ns =>
    have he : PyData.eqv (.list (.int n :: ns.map PyData.int)) (.list []) = false := rfl
    have cn : CN (k : Int) ((ns.length : Int) + 1) := by show (ns.length : Int) + 1 ≠ 0; omega
    have hl : ns.length + 1 ≤ 63 := hl
    have cf : CF (k : Int) ((ns.length : Int) + 1) := ⟨by omega, log2_of (m := 9000) (Nat.lt_of_lt_of_le (show ((ns.length : Int) + 1).natAbs < 2 ^ 6 by omega) (Nat.pow_le_pow_right (by decide) (by decide))) (by decide)⟩
    have cm2 : CM ((k : Int).fdiv ((ns.length : Int) + 1)) 104729 := .inl (.inr ⟨by decide, by decide⟩)
    obtain ⟨z, hz⟩ : ∃ z, atI (n :: ns) ((k : Int).fmod ((ns.length : Int) + 1)) = some z := by
      rw [Int.fmod_eq_emod_of_nonneg _ (by omega)]
      have h1 := Int.emod_nonneg (k : Int) (show (ns.length : Int) + 1 ≠ 0 by omega)
      have h2 := Int.emod_lt_of_pos (k : Int) (show (0 : Int) < (ns.length : Int) + 1 by omega)
      obtain ⟨j, hj⟩ : ∃ j : Nat, (k : Int) % ((ns.length : Int) + 1) = (j : Int) := ⟨((k : Int) % ((ns.length : Int) + 1)).toNat, by omega⟩
      rw [hj] at h2 ⊢
      rw [atI_nat]
      exact ⟨_, List.getElem?_eq_getElem (by simp; omega)⟩
    simp [shp_scr, shp_nil, he, cn, cf, cm2, hz]
    exact hQ _

abbrev s_law_drawn : Stmt := topS 64
abbrev N_law_drawn : List Str := ["cell", "k", "more"]
theorem sc_law_drawn : FnScope N_law_drawn ["cell", "k"] (defScope s_law_drawn) := ⟨rfl, rfl, rfl, by decide +kernel, rfl, by decide +kernel, by decide +kernel⟩
def law_drawnC : Ctr := fun ds Q _ => ∃ a b : Int, ds = [.int a, .int b] ∧ ∀ z, 0 ≤ z → Q (.int z)
theorem fn_law_drawn (T : Tx K mg) (R : Raw K mg "_law_drawn" s_law_drawn ["cell", "k"])  : FnD P w K mg base 1 "_law_drawn" ["cell", "k"] law_drawnC := by
  obtain ⟨f, fd, R, gm, hb⟩ := R.ex
  refine fnD_of R gm sc_law_drawn hb (fun ds Q F h => ?_) (fun cdv A outer s H E Dc hr => ?_)
  · obtain ⟨_, _, rfl, _⟩ := h; rfl
  have cx : Ctx (cxOf (L2N.CX P w) P w K mg base N_law_drawn "_law_drawn" (defScope s_law_drawn) f cdv A outer s H E) E := ctx_of
  refine ⟨_, _, (dss_cons (ds_set 2 sc_law_drawn.nd (de_mod (de_add (de_mul (dv 0) (de_int)) (de_mul (de_add (dv 1) (de_int)) (de_int))) (de_int)))
  (dss_cons (ds_set 2 sc_law_drawn.nd (de_mod (de_mul (dv 2) (dv 2)) (de_int)))
  (dss_cons (ds_set 2 sc_law_drawn.nd (de_mul (de_mul (de_add (de_mod (dv 2) (de_int)) (de_int)) (de_add (de_fdv (dv 2) (de_int)) (de_int))) (dv 2)))
  (dss_one (ds_ret (de_mod (dv 2) (de_int))))))), fun ds Q F hc => ?_⟩
  obtain ⟨a, b, rfl, hQ⟩ := hc
  have fm : ∀ (x m : Int), 0 < m → 0 ≤ x.fmod m ∧ x.fmod m < m := fun x m hm => ⟨Int.fmod_nonneg_of_pos _ hm, Int.fmod_lt_of_pos _ hm⟩
  have c1 : ∀ x : Int, CM x 6364136223846793005 := fun x => .inl (.inr ⟨by decide, by decide⟩)
  have c2 : ∀ x : Int, CM x 1442695040888963407 := fun x => .inl (.inr ⟨by decide, by decide⟩)
  have n1 : ∀ x : Int, CN x 340282366920938463463374607431768211507 := fun x => by show (340282366920938463463374607431768211507 : Int) ≠ 0; decide
  have n2 : ∀ x : Int, CN x 340282366920938463463374607431768211297 := fun x => by show (340282366920938463463374607431768211297 : Int) ≠ 0; decide
  have n3 : ∀ x : Int, CN x 18446744073709551557 := fun x => by show (18446744073709551557 : Int) ≠ 0; decide
  have f3 : ∀ x : Int, CF x 18446744073709551557 := fun x => ⟨by decide, by decide +kernel⟩
  simp [c1, c2, n1, n2, n3, f3]
  generalize hm1 : (a * 6364136223846793005 + (b + 1) * 1442695040888963407).fmod 340282366920938463463374607431768211507 = m1
  have b1 := fm (a * 6364136223846793005 + (b + 1) * 1442695040888963407) 340282366920938463463374607431768211507 (by decide)
  rw [hm1] at b1
  have c3 : CM m1 m1 := cm_of (a := 129) (b := 129) (by omega) (by omega) (by decide) (by decide) (by decide)
  refine ⟨c3, ?_⟩
  generalize hm2 : (m1 * m1).fmod 340282366920938463463374607431768211297 = m2
  have b2 := fm (m1 * m1) 340282366920938463463374607431768211297 (by decide)
  rw [hm2] at b2
  generalize hm3 : m2.fmod 18446744073709551557 = m3
  have b3 := fm m2 18446744073709551557 (by decide)
  rw [hm3] at b3
  have b4 : 0 ≤ m2.fdiv 18446744073709551557 ∧ m2.fdiv 18446744073709551557 < 2 ^ 65 := by
    rw [Int.fdiv_eq_ediv_of_nonneg _ (by decide)]
    omega
  generalize m2.fdiv 18446744073709551557 = m4 at b4 ⊢
  have c4 : CM (m3 + 1) (m4 + 1) := cm_of (a := 66) (b := 66) (by omega) (by omega) (by decide) (by decide) (by decide)
  have c5 : CM ((m3 + 1) * (m4 + 1)) m2 := cm_of (a := 132) (b := 129) (natAbs_mul_lt (n := 66) (m := 66) (by omega) (by omega)) (by omega) (by decide) (by decide) (by decide)
  refine ⟨c4, c5, hQ _ (fm _ _ (by decide)).1⟩

abbrev s_law_roll : Stmt := topS 65
abbrev N_law_roll : List Str := ["dice", "many", "told"]
theorem sc_law_roll : FnScope N_law_roll ["dice", "many"] (defScope s_law_roll) := ⟨rfl, rfl, rfl, by decide +kernel, rfl, by decide +kernel, by decide +kernel⟩
def law_rollC : Ctr := fun ds Q _ => ∃ n : Nat, ds = [.dice, .int (n : Int)] ∧ 0 < n ∧ n < 2 ^ 50 ∧ ∀ k : Nat, k < n → Q (.int (k : Int))
theorem fn_law_roll (T : Tx K mg) (R : Raw K mg "_law_roll" s_law_roll ["dice", "many"]) (F__law_drawn : FnD P w K mg base 1 "_law_drawn" ["cell", "k"] law_drawnC) : FnD P w K mg base 2 "_law_roll" ["dice", "many"] law_rollC := by
  obtain ⟨f, fd, R, gm, hb⟩ := R.ex
  refine fnD_of R gm sc_law_roll hb (fun ds Q F h => ?_) (fun cdv A outer s H E Dc hr => ?_)
  · obtain ⟨_, rfl, _⟩ := h; rfl
  have cx : Ctx (cxOf (L2N.CX P w) P w K mg base N_law_roll "_law_roll" (defScope s_law_roll) f cdv A outer s H E) E := ctx_of
  refine ⟨_, _, (dss_cons (ds_if (dt_ge (de_dix (dv 0) (de_int)) (de_pow (de_int) (de_int)))
    (dss_cons (ds_set 2 sc_law_roll.nd (de_mod (de_dix (dv 0) (de_int)) (dv 1)))
      (dss_cons (ds_diceput (dv 0) (de_int) (de_fdv (de_dix (dv 0) (de_int)) (dv 1)))
      (dss_one (ds_ret (dv 2)))))
    dss_nil)
  (dss_cons (ds_diceput (dv 0) (de_int) (de_add (de_dix (dv 0) (de_int)) (de_int)))
  (dss_one (ds_ret (de_mod (de_fdv (de_call cx F__law_drawn (hr.mono (by decide)) (da_cons (de_dix (dv 0) (de_int)) (da_cons (de_dix (dv 0) (de_int)) da_nil))) (de_int)) (dv 1)))))), fun ds Q F hc => ?_⟩
  obtain ⟨n, rfl, hn, hn2, hQ⟩ := hc
  have cp : CPow 10 18 := ⟨by decide, by decide, by decide⟩
  have cn : ∀ x : Int, CN x (n : Int) := fun x => by show (n : Int) ≠ 0; omega
  have cf : ∀ x : Int, CF x (n : Int) := fun x => ⟨by omega, log2_of (m := 9000) (Nat.lt_of_lt_of_le (show (n : Int).natAbs < 2 ^ 50 by omega) (Nat.pow_le_pow_right (by decide) (by decide))) (by decide)⟩
  have cf8 : ∀ x : Int, CF x 8 := fun x => ⟨by decide, by decide +kernel⟩
  have fin : ∀ x : Int, Q (.int (x.fmod (n : Int))) := fun x => by
    have h1 : 0 ≤ x.fmod (n : Int) := Int.fmod_nonneg_of_pos _ (by omega)
    have h2 : x.fmod (n : Int) < n := Int.fmod_lt_of_pos _ (by omega)
    have h3 := hQ (x.fmod (n : Int)).toNat (by omega)
    rw [show ((x.fmod (n : Int)).toNat : Int) = x.fmod (n : Int) by omega] at h3
    exact h3
  simp [cp, cn, cf, cf8]
  intro z
  split
  · intro z1
    exact fin z1
  · intro z1 z2
    refine ⟨z1, z2, rfl, fun z4 hz4 => ?_⟩
    simp [cn, cf8]
    exact fin _

abbrev s_law_rounds : Stmt := topS 66
abbrev N_law_rounds : List Str := ["script", "most", "k"]
theorem sc_law_rounds : FnScope N_law_rounds ["script", "most"] (defScope s_law_rounds) := ⟨rfl, rfl, rfl, by decide +kernel, rfl, by decide +kernel, by decide +kernel⟩
def law_roundsC : Ctr := fun ds Q _ => ∃ (ns : List Int) (n : Nat), ds = [.scr ns, .int (n : Int)] ∧ ns.length ≤ 63 ∧ n ≤ 100 ∧ ∀ zs : List (Int × Int), Q (.lst (zs.map fun z => D.lst [.int z.1, .int z.2]))
theorem fn_law_rounds (T : Tx K mg) (R : Raw K mg "_law_rounds" s_law_rounds ["script", "most"]) (F__law_cell : FnD P w K mg base 1 "_law_cell" ["script", "k"] law_cellC) : FnD P w K mg base 2 "_law_rounds" ["script", "most"] law_roundsC := by
  obtain ⟨f, fd, R, gm, hb⟩ := R.ex
  refine fnD_of R gm sc_law_rounds hb (fun ds Q F h => ?_) (fun cdv A outer s H E Dc hr => ?_)
  · obtain ⟨_, _, rfl, _⟩ := h; rfl
  have cx : Ctx (cxOf (L2N.CX P w) P w K mg base N_law_rounds "_law_rounds" (defScope s_law_rounds) f cdv A outer s H E) E := ctx_of
  refine ⟨_, _, (dss_one (ds_ret (de_ofL (dl_lc (own := [("k", 2)]) cx sc_law_rounds.nd (di_range1 rfl T.n_range (da_cons (de_max2 cx T.n_max (da_cons (de_int) (da_cons (de_min2 cx T.n_min (da_cons (dv 1) (da_cons (de_len T.n_len (da_cons (dv 0) da_nil)) da_nil))) da_nil))) da_nil)) (blkOk_by (own := [("k", 2)]) (N := N_law_rounds) (sc := defScope s_law_rounds) (by decide +kernel)) (fun _ _ _ _ _ c => dg_name (i := 2) sc_law_rounds.nd) (tch_name (by decide)) (fun _ _ _ _ _ c => dts_none) (fun _ _ _ _ _ c => de_ofL (dl_lst (da_cons (de_call c F__law_cell (hr.mono (by decide)) (da_cons (dv 0) (da_cons (dv 2) da_nil))) (da_cons (de_int) da_nil)))))))), fun ds Q F hc => ?_⟩
  obtain ⟨ns, n, rfl, hl, hn, hQ⟩ := hc
  simp
  unfold dLc
  simp
  obtain ⟨N, hN, hN2⟩ : ∃ N : Int, N = (if (1 : Int) < (if ns.length < n then (ns.length : Int) else (n : Int)) then (if ns.length < n then (ns.length : Int) else (n : Int)) else 1) ∧ N < 1000 ∧ -1000 < N := ⟨_, rfl, by split <;> split <;> omega, by split <;> split <;> omega⟩
  rw [← hN]
  refine ⟨⟨by omega, by omega⟩, fun i acc => i ≤ N.toNat ∧ acc.length = i ∧ ∃ zs : List (Int × Int), acc = zs.map fun z => D.lst [.int z.1, .int z.2], ⟨Nat.zero_le _, rfl, [], rfl⟩, ?_, ?_⟩
  · rintro i d acc hi ⟨hle, hacc, zs, rfl⟩
    obtain ⟨hi1, rfl⟩ := rngD_get hi
    simp [wipeD]
    refine ⟨ns, i, rfl, hl, by omega, fun z => ?_⟩
    refine ⟨by simp at hacc; omega, hi1, by simpa using hacc, zs ++ [(z, 0)], by simp⟩
  · rintro acc ⟨_, _, zs, rfl⟩
    exact hQ zs

abbrev s_law_met : Stmt := topS 67
abbrev N_law_met : List Str := ["deed", "e"]
theorem sc_law_met : FnScope N_law_met ["deed"] (defScope s_law_met) := ⟨rfl, rfl, rfl, by decide +kernel, rfl, by decide +kernel, by decide +kernel⟩
theorem fn_law_met (T : Tx K mg) (R : Raw K mg "_law_met" s_law_met ["deed"]) : MetD P w K mg base "_law_met" := by
  obtain ⟨f, fd, R, gm, hb⟩ := R.ex
  exact ⟨f, fd, s_law_met, N_law_met, "deed", "e", _, _, _, _, _, _, _, _, _, _, _, R, gm, rfl, sc_law_met, hb, rfl, rfl, .inl rfl, rfl, rfl, T.e6, rfl, rfl, rfl, rfl⟩

def flagD (i : Nat) : D := .lst [.bl (decide (i = 0)), .bl (decide (i = 1)), .bl (decide (i = 2)), .bl (decide (i = 3)), .bl (decide (i = 4)), .bl (decide (i = 5))]
def ownD (j : Nat) : D := .lst ((List.range 6).map fun k => D.bl (decide (k = j)))
theorem flag_shp : ∀ i < 6, shp (flagD i) := by decide +kernel
theorem own_shp : ∀ i < 6, shp (ownD i) := by decide +kernel
theorem flag_own : ∀ i < 6, ∀ j < 6, PyData.eqv (toPy (flagD i)) (toPy (ownD j)) = decide (i = j) := by decide +kernel
theorem retAnd_to {da db : TEd} {De : DEnds} {sd : Sd} (ha : ∀ Pe : D → Prop, Pe (.bl true) → da sd Pe De.rs) (h : db sd De.rt De.rs) : dRet (dAndV da db) De sd := ha _ h
theorem eqR_to {da db : TEd} {sd : Sd} {P : D → Prop} {Fx : XF} (d0 d1 : D) (h0 : shp d0) (h1 : shp d1) (b : Bool) (e : PyData.eqv (toPy d0) (toPy d1) = b) (ha : ∀ Pd : D → Prop, Pd d0 → da sd Pd Fx) (hb : ∀ Pd : D → Prop, Pd d1 → db sd Pd Fx) (h : P (.bl b)) : dOp dEq da db sd P Fx := ha _ (hb _ ⟨h0, h1, by rw [e]; exact h⟩)
theorem ownL_to {j : Nat} {a b : Slot} {P : D → Prop} {Fx : XF} (h : P (ownD j)) : dOfL (dLc (diR1 (dCons (dC (.int 6)) dNil)) (dgName 3) dYes (dOp dEq (dVar 3) (dVar 1)) [3]) [a, .dat (.int (j : Int)), b, .un] P Fx := by
  refine ⟨⟨by decide, by decide⟩, fun i acc => i ≤ 6 ∧ acc = (List.range i).map fun k => D.bl (decide (k = j)), ⟨Nat.zero_le _, rfl⟩, ?_, ?_⟩
  · rintro i d acc hi ⟨hle, rfl⟩
    obtain ⟨hi1, rfl⟩ := rngD_get hi
    have hi1 : i < 6 := hi1
    have ev : PyData.eqv (.int (0 + (i : Int))) (.int (j : Int)) = decide (i = j) := by rw [eqv_int]; exact decide_eq_decide.mpr (by omega)
    refine ⟨rfl, rfl, ?_⟩
    show _ < 100000 ∧ i + 1 ≤ 6 ∧ _ ++ [D.bl (PyData.eqv (.int (0 + (i : Int))) (.int (j : Int)))] = _
    rw [ev]
    exact ⟨by rw [List.length_map, List.length_range]; omega, hi1, by rw [List.range_succ, List.map_append]; rfl⟩
  · rintro acc ⟨_, rfl⟩
    exact h

end
end RW

set_option Elab.async false
set_option linter.all false
set_option maxRecDepth 100000
set_option maxHeartbeats 2000000
set_option exponentiation.threshold 20000
namespace RW
open PySem L2
open Evl (Ex fresh_back)
section
variable {P : Program} {w : World} {K : PySem.W.Frag} {mg : Str → Option Value} {base : Heap}
abbrev s_law_alone : Stmt := topS 68
abbrev N_law_alone : List Str := ["e", "own", "some", "at"]
theorem sc_law_alone : FnScope N_law_alone ["e", "own"] (defScope s_law_alone) := ⟨rfl, rfl, rfl, by decide +kernel, rfl, by decide +kernel, by decide +kernel⟩
def law_aloneC (mg : Str → Option Value) : Ctr := fun ds Q _ => ∃ i j : Nat, ds = [.exc (addrOf mg (excS i)), .int (j : Int)] ∧ i < 6 ∧ j < 6 ∧ Q (.bl (decide (i = j)))
theorem fn_law_alone (T : Tx K mg) (R : Raw K mg "_law_alone" s_law_alone ["e", "own"])  : FnD P w K mg base 1 "_law_alone" ["e", "own"] (law_aloneC mg) := by
  obtain ⟨f, fd, R, gm, hb⟩ := R.ex
  refine fnD_of R gm sc_law_alone hb (fun ds Q F h => ?_) (fun cdv A outer s H E Dc hr => ?_)
  · obtain ⟨_, _, rfl, _⟩ := h; rfl
  have cx : Ctx (cxOf (L2N.CX P w) P w K mg base N_law_alone "_law_alone" (defScope s_law_alone) f cdv A outer s H E) E := ctx_of
  refine ⟨_, _, (dss_cons (ds_set 2 sc_law_alone.nd (de_ofL (dl_lst (da_cons (de_isX T.n_isinstance (da_cons (dv 0) (da_cons (de_clsX (T.e6.m 0 (by decide))) da_nil))) (da_cons (de_isX T.n_isinstance (da_cons (dv 0) (da_cons (de_clsX (T.e6.m 1 (by decide))) da_nil))) (da_cons (de_isX T.n_isinstance (da_cons (dv 0) (da_cons (de_clsX (T.e6.m 2 (by decide))) da_nil))) da_nil))))))
  (dss_cons (ds_set 2 sc_law_alone.nd (de_ofL (dl_cat (dv 2) (de_ofL (dl_lst (da_cons (de_isX T.n_isinstance (da_cons (dv 0) (da_cons (de_clsX (T.e6.m 3 (by decide))) da_nil))) (da_cons (de_isX T.n_isinstance (da_cons (dv 0) (da_cons (de_clsX (T.e6.m 4 (by decide))) da_nil))) (da_cons (de_isX T.n_isinstance (da_cons (dv 0) (da_cons (de_clsX (T.e6.m 5 (by decide))) da_nil))) da_nil))))))))
  (dss_one (ds_ret (de_and (de_isX T.n_isinstance (da_cons (dv 0) (da_cons (de_valueError T.n_ValueError) da_nil))) (de_one (de_eq hr (dv 2) (de_ofL (dl_lc (own := [("at", 3)]) cx sc_law_alone.nd (di_range1 rfl T.n_range (da_cons (de_int) da_nil)) (blkOk_by (own := [("at", 3)]) (N := N_law_alone) (sc := defScope s_law_alone) (by decide +kernel)) (fun _ _ _ _ _ c => dg_name (i := 3) sc_law_alone.nd) (tch_name (by decide)) (fun _ _ _ _ _ c => dts_none) (fun _ _ _ _ _ c => de_eq hr (dv 3) (dv 1))))))))))), fun ds Q F hc => ?_⟩
  obtain ⟨i, j, rfl, hi, hj, hQ⟩ := hc
  show dSeq _ _ _ [.dat (.exc (addrOf mg (excS i))), .dat (.int (j : Int)), .un, .un]
  refine set_to' (sd' := [.dat (.exc (addrOf mg (excS i))), .dat (.int (j : Int)), .dat (.lst [.bl (decide (i = 0)), .bl (decide (i = 1)), .bl (decide (i = 2))]), .un]) (.lst [.bl (decide (i = 0)), .bl (decide (i = 1)), .bl (decide (i = 2))]) (fun Pd h => ⟨_, _, T.e6.c i hi, .inl ⟨_, rfl, T.e6.k i 0 hi (by decide)⟩, _, _, T.e6.c i hi, .inl ⟨_, rfl, T.e6.k i 1 hi (by decide)⟩, _, _, T.e6.c i hi, .inl ⟨_, rfl, T.e6.k i 2 hi (by decide)⟩, len_ok rfl, h⟩) rfl ?_
  refine set_to' (sd' := [.dat (.exc (addrOf mg (excS i))), .dat (.int (j : Int)), .dat (flagD i), .un]) (flagD i) (fun Pd h => ⟨_, _, T.e6.c i hi, .inl ⟨_, rfl, T.e6.k i 3 hi (by decide)⟩, _, _, T.e6.c i hi, .inl ⟨_, rfl, T.e6.k i 4 hi (by decide)⟩, _, _, T.e6.c i hi, .inl ⟨_, rfl, T.e6.k i 5 hi (by decide)⟩, len_ok rfl, len_ok rfl, h⟩) rfl ?_
  refine retAnd_to (fun Pe h => ⟨_, _, T.e6.c i hi, .inr ⟨_, rfl, T.e6.v i hi⟩, h⟩) ?_
  exact eqR_to (flagD i) (ownD j) (flag_shp i hi) (own_shp j hj) (decide (i = j)) (flag_own i hi j hj) (fun Pd h => h) (fun Pd h => ownL_to h) hQ

theorem setA_to {α : Type} {dd : TEd} {i : Nat} {u : TSd} {De : DEnds} {sd : Sd} {sd' : α → Sd} (f : α → D) (ok : α → Prop) (hd : ∀ Pd : D → Prop, (∀ a, ok a → Pd (f a)) → dd sd Pd De.rs) (e : ∀ a, sd.set i (.dat (f a)) = sd' a) (h : ∀ a, ok a → u De (sd' a)) : dSeq (dAsg dd (dgName i)) u De sd := hd _ fun a ha => by
  show u De _
  rw [e]
  exact h a ha
def chFB (z : Str) : Bool := match foundP z with
  | none => true
  | some es => !isChB (.tup es)
def addD : D := .tup [.str "add", .tup [.int 1, .int 1]]
def fourD : D := .tup [addD, addD, addD, addD]
def oneD (k : Nat) : D := .tup [.tup [.str "add", .tup [.int (11 + (k : Int)), .int 1]]]
theorem one_no : ∀ k : Nat, k < 90 → isChB (oneD k) = false ∧ pl (oneD k) = true := by decide +kernel
theorem num_no : ∀ k : Nat, k < 90 → isFrB (.int (11 + (k : Int))) (10 ^ 30) = false ∧ isWholeB (.int (11 + (k : Int))) 0 (-1) = false ∧ pl (.int (11 + (k : Int))) = true := by decide +kernel
theorem four_ok : pl fourD = true ∧ isChB fourD = true ∧ pl (.tup ([addD, addD, addD, addD] ++ [addD, addD, addD, addD])) = true ∧ isChB (.tup ([addD, addD, addD, addD] ++ [addD, addD, addD, addD])) = false := by decide +kernel
theorem txt_no : ∀ k : Nat, k < 90 → chFB ("add " ++ iS (11 + (k : Int))) = true ∧ PyData.strOk ("add " ++ iS (11 + (k : Int))) = true ∧ (iS (11 + (k : Int))).length ≤ 3 ∧ (11 + (k : Int)).natAbs.log2 < 1920 := by decide +kernel
theorem parse_no {mg : Str → Option Value} {z : Str} (h : chFB z = true) {Q : D → Prop} {F : XF} (hF : F (clsOf mg "InvalidText")) : parseW mg z Q F := by
  unfold parseW
  unfold chFB at h
  cases e : foundP z with
  | none => exact hF
  | some es =>
    rw [e] at h
    have h : (!isChB (.tup es)) = true := h
    show if isChB (.tup es) = true then _ else _
    rw [if_neg (by intro z; rw [z] at h; cases h)]
    exact hF
theorem asgA_to {α : Type} {dd : TEd} {dg : TGd} {u : TSd} {De : DEnds} {sd : Sd} {sd' : α → Sd} (f : α → D) (ok : α → Prop) (hd : ∀ Pd : D → Prop, (∀ a, ok a → Pd (f a)) → dd sd Pd De.rs) (hg : ∀ a (Ps : Sd → Prop), Ps (sd' a) → dg (f a) sd Ps) (h : ∀ a, ok a → u De (sd' a)) : dSeq (dAsg dd dg) u De sd := hd _ fun a ha => hg a _ (h a ha)
theorem seL_to {i : Nat} {dl : TAd} {u : TSd} {De : DEnds} {sd sd' : Sd} (es : List D) (hl : ∀ Pl : List D → Prop, Pl es → dl sd Pl De.rs) (e : sd.set i (.own es) = sd') (h : u De sd') : dSeq (dSetL i dl) u De sd := hl _ (by show u De _; rw [e]; exact h)
theorem app_to {i : Nat} {dd : TEd} {u : TSd} {De : DEnds} {sd sd' : Sd} (es : List D) (d : D) (e : sd[i]? = some (.own es)) (hd : ∀ Pd : D → Prop, Pd d → dd sd Pd De.rs) (hl : es.length < 100000) (e2 : sd.set i (.own (es ++ [d])) = sd') (h : u De sd') : dSeq (dApp i dd) u De sd := by
  show dApp i dd { De with nx := u De } sd
  unfold dApp
  rw [e]
  refine hd _ ⟨hl, ?_⟩
  show u De _
  rw [e2]
  exact h
theorem frz_to {i : Nat} {t : TSd} {De : DEnds} {sd sd' : Sd} (es : List D) (e : sd[i]? = some (.own es)) (e2 : sd.set i (.dat (.lst es)) = sd') (h : t De sd') : dFrz i t De sd := by
  unfold dFrz
  rw [e]
  show t De _
  rw [e2]
  exact h
def madeL (mg : Str → Option Value) : List D := (List.range 6).map fun k => .exc (addrOf mg (excS k))
theorem enum6 {mg : Str → Option Value} {i : Nat} {d : D} (h : (enumD (madeL mg))[i]? = some d) : i < 6 ∧ d = .tup [.int (i : Int), .exc (addrOf mg (excS i))] := by
  unfold enumD madeL at h
  rw [List.getElem?_mapIdx, List.getElem?_map] at h
  by_cases hi : i < 6
  · rw [List.getElem?_range hi] at h
    cases h
    exact ⟨hi, rfl⟩
  · rw [List.getElem?_eq_none (by rw [List.length_range]; omega)] at h
    cases h
theorem bls_rep : ∀ n : Nat, bls (List.replicate n (D.bl true)) = some (List.replicate n true)
  | 0 => rfl
  | n + 1 => by simp [List.replicate_succ, bls, bls_rep n]
theorem allX_to {mg : Str → Option Value} {a b c d : Slot} {Pb : Bool → Prop} {Fx : XF} (h : Pb true) :
    dTest (dCB dAll (dCons (dOfL (dLc (diE (dCons (dVar 4) dNil)) (dgTup 2 (dgCons (dgName 5) (dgCons (dgName 6) dgNil))) dYes (dCall (law_aloneC mg) (dCons (dVar 6) (dCons (dVar 5) dNil))) [5, 6])) dNil)) [a, b, c, d, .dat (.lst (madeL mg)), .un, .un] Pb Fx := by
  refine ⟨fun i acc => i ≤ 6 ∧ acc = List.replicate i (D.bl true), ⟨Nat.zero_le _, rfl⟩, ?_, ?_⟩
  · rintro i x acc hi ⟨hle, rfl⟩
    obtain ⟨hi1, rfl⟩ := enum6 hi
    refine ⟨rfl, i, i, rfl, hi1, hi1, ?_⟩
    rw [decide_eq_true (rfl : i = i)]
    exact ⟨by rw [List.length_replicate]; omega, hi1, by rw [List.replicate_succ']⟩
  · rintro acc ⟨_, rfl⟩
    have e : (enumD (madeL mg)).length = 6 := by
      unfold enumD madeL
      rw [List.length_mapIdx, List.length_map, List.length_range]
    show (match bls (List.replicate (enumD (madeL mg)).length (D.bl true)) with | some bs => Pb (bs.all id) | none => False)
    rw [e, bls_rep]
    exact h

end
end RW

set_option Elab.async false
set_option linter.all false
set_option maxRecDepth 100000
set_option maxHeartbeats 2000000
set_option exponentiation.threshold 20000
namespace RW
open PySem L2
open Evl (Ex fresh_back)
section
variable {P : Program} {w : World} {K : PySem.W.Frag} {mg : Str → Option Value} {base : Heap}
abbrev s_law : Stmt := topS 69
abbrev N_law : List Str := ["script", "dice", "great", "four", "made", "at", "e"]
theorem sc_law : FnScope N_law ["script"] (defScope s_law) := ⟨rfl, rfl, rfl, by decide +kernel, rfl, by decide +kernel, by decide +kernel⟩

theorem fn_law (T : Tx K mg) {f : Addr} {fd : FuncData} {cc PT : Addr} (TB : LamX.TabB base mg cc PT) (hfc : fd.code = .ref cc) (R : Fun K "law" "law" s_law f fd) (F__law_rounds : FnD P w K mg base 2 "_law_rounds" ["script", "most"] law_roundsC) (F__law_met : MetD P w K mg base "_law_met") (F__law_roll : FnD P w K mg base 2 "_law_roll" ["dice", "many"] law_rollC) (F_form : FnD P w K mg base 6 "form" ["chain"] (formC mg)) (F_value : FnD P w K mg base 6 "value" ["chain", "number"] (valueC mg)) (F_left_out : FnD P w K mg base 6 "left_out" ["chain", "at"] (left_outC mg)) (F_parse_chain : FnD P w K mg base 5 "parse_chain" ["text"] (parse_chainC mg)) (F_joined : FnD P w K mg base 7 "joined" ["chain", "other"] (joinedC mg)) (F_redo : MtD P w K mg base 1 (addrOf mg "Desk") "redo" ["self"] (Desk_redoC mg)) (F__law_alone : FnD P w K mg base 1 "_law_alone" ["e", "own"] (law_aloneC mg)) (F_Desk : MkC P w K mg base 6 "Desk" (addrOf mg "Desk") ["self", "chain"] ns_Desk (DeskC mg)) : LwD P w K mg base 10 [(PT, ("law" : Str) ++ ".<locals>." ++ "<lambda>")] f fd := by
  refine lwD_of (T := [(PT, ("law" : Str) ++ ".<locals>." ++ "<lambda>")]) (i := 1) R sc_law (by decide) (fun cdv A outer s H E hcd hr => ?_)
  have cx : Ctx (cxOf (L2N.CX P w) P w K mg base N_law "law" (defScope s_law) f cdv A outer s H E) E := ctx_of
  have LT : LamT (cxOf (L2N.CX P w) P w K mg base N_law "law" (defScope s_law) f cdv A outer s H E) [(PT, ("law" : Str) ++ ".<locals>." ++ "<lambda>")] cc PT := ⟨TB, hcd.symm.trans hfc, List.mem_cons_self, fun p hp e => by rw [List.mem_singleton.mp hp]; rfl⟩
  refine ⟨_, _, _, lw_of (T := [(PT, ("law" : Str) ++ ".<locals>." ++ "<lambda>")]) (i := 1) cx sc_law.nd (fun Dc => de_call cx F__law_rounds (hr.mono (by decide)) (da_cons (dv 0) (da_cons (de_int) da_nil))) (fun Dc hT => (dss_cons (ds_asg (de_tup (da_cons (de_add (de_int) (de_call cx F__law_roll (hr.mono (by decide)) (da_cons (dv 1) (da_cons (de_int) da_nil)))) (da_cons (de_repT (de_tup (da_cons (de_tup (da_cons (de_str) (da_cons (de_tup (da_cons (de_int) (da_cons (de_int) da_nil))) da_nil))) da_nil)) (de_int)) da_nil))) (dg_tup (n := 2) cx.calm (dgs_cons (dg_name (i := 2) sc_law.nd) (dgs_cons (dg_name (i := 3) sc_law.nd) dgs_nil))))
  (dss_cons (ds_setL 4 sc_law.nd (dl_lst (da_cons (de_met (X := _) F__law_met LT hT hr (show LamX.lamSB (defScope s_law) _ = true by decide +kernel) (fun _ _ _ _ _ _ _ hr => de_call ctx_lam F_form (hr.mono (by decide)) (da_cons (de_tup (da_cons (de_tup (da_cons (de_str) (da_cons (de_tup (da_cons (dv 2) (da_cons (de_int) da_nil))) da_nil))) da_nil)) da_nil))) da_nil)))
  (dss_cons (ds_append 4 (de_met (X := _) F__law_met LT hT hr (show LamX.lamSB (defScope s_law) _ = true by decide +kernel) (fun _ _ _ _ _ _ _ hr => de_call ctx_lam F_value (hr.mono (by decide)) (da_cons (de_tup da_nil) (da_cons (dv 2) da_nil)))))
  (dss_cons (ds_append 4 (de_met (X := _) F__law_met LT hT hr (show LamX.lamSB (defScope s_law) _ = true by decide +kernel) (fun _ _ _ _ _ _ _ hr => de_call ctx_lam F_left_out (hr.mono (by decide)) (da_cons (de_tup da_nil) (da_cons (dv 2) da_nil)))))
  (dss_cons (ds_append 4 (de_met (X := _) F__law_met LT hT hr (show LamX.lamSB (defScope s_law) _ = true by decide +kernel) (fun _ _ _ _ _ _ _ hr => de_call ctx_lam F_parse_chain (hr.mono (by decide)) (da_cons (de_addS (de_str) (de_strI T.n_str (da_cons (dv 2) da_nil))) da_nil))))
  (dss_cons (ds_append 4 (de_met (X := _) F__law_met LT hT hr (show LamX.lamSB (defScope s_law) _ = true by decide +kernel) (fun _ _ _ _ _ _ _ hr => de_call ctx_lam F_joined (hr.mono (by decide)) (da_cons (dv 3) (da_cons (dv 3) da_nil)))))
  (dss_cons (ds_append 4 (de_met (X := _) F__law_met LT hT hr (show LamX.lamSB (defScope s_law) _ = true by decide +kernel) (fun _ _ _ _ _ _ _ hr => de_meth0 (ns := ns_Desk) (pl := _) ctx_lam T.c_Desk (by decide +kernel) F_redo (hr.mono (by decide)) (de_makeC ctx_lam F_Desk (hr.mono (by decide)) (da_cons (de_tup da_nil) da_nil)))))
  (dss_frz 4 (dss_one (ds_if (dt_not (dt_val (de_all cx T.n_all (da_cons (de_ofL (dl_lc (own := [("at", 5), ("e", 6)]) cx sc_law.nd (di_enum rfl T.n_enumerate (da_cons (dv 4) da_nil)) (blkOk_by (own := [("at", 5), ("e", 6)]) (N := N_law) (sc := defScope s_law) (by decide +kernel)) (fun _ _ _ _ _ c => dg_tup (n := 2) c.calm (dgs_cons (dg_name (i := 5) sc_law.nd) (dgs_cons (dg_name (i := 6) sc_law.nd) dgs_nil))) (tch_tup (tchs_cons (tch_name (by decide)) (tchs_cons (tch_name (by decide)) tchs_nil))) (fun _ _ _ _ _ c => dts_none) (fun _ _ _ _ _ c => de_call c F__law_alone (hr.mono (by decide)) (da_cons (dv 6) (da_cons (dv 5) da_nil))))) da_nil))))
    (dss_one (ds_ret (de_bl)))
    dss_nil))))))))))), fun ns hl => ⟨ns, 4, rfl, hl, by decide, fun zs => ⟨zs, rfl⟩⟩, ?_⟩
  obtain ⟨X, hX⟩ : ∃ X : Nat → D, X = fun k => .exc (addrOf mg (excS k)) := ⟨_, rfl⟩
  have x0 : ∀ (P : D → Prop) (k : Nat), P (X k) → P (.exc (addrOf mg (excS k))) := fun P k h => by rw [hX] at h; exact h
  refine asgA_to (sd' := fun k : Nat => [.un, .dat .dice, .dat (.int (11 + (k : Int))), .dat fourD, .un, .un, .un]) (fun k : Nat => .tup [.int (11 + (k : Int)), fourD]) (fun k => k < 90) (fun Pd h => ⟨90, rfl, by decide, by decide, fun k hk => ⟨len_ok rfl, len_ok rfl, len_ok rfl, ⟨(fun z => nomatch z), by decide, by decide, by decide⟩, len_ok rfl, h k hk⟩⟩) (fun k Ps h => ⟨rfl, h⟩) fun k hk => ?_
  obtain ⟨n1, n2, n3⟩ := num_no k hk
  obtain ⟨o1, o2⟩ := one_no k hk
  obtain ⟨p1, p2, p3, p4⟩ := txt_no k hk
  obtain ⟨f1, f2, f3, f4⟩ := four_ok
  refine seL_to (sd' := [.un, .dat .dice, .dat (.int (11 + (k : Int))), .dat fourD, .own [X 0], .un, .un]) [X 0] (fun Pl h => ⟨len_ok rfl, len_ok rfl, len_ok rfl, oneD k, rfl, o2, tup_len (n := 1) (ys := [.tup [.str "add", .tup [.int (11 + (k : Int)), .int 1]]]) (Nat.le_refl _) (by decide), o1, 0, by decide, rfl, x0 (fun d => [d].length ≤ 100000 ∧ Pl [d]) 0 ⟨len_ok rfl, h⟩⟩) rfl ?_
  refine app_to (sd' := [.un, .dat .dice, .dat (.int (11 + (k : Int))), .dat fourD, .own [X 0, X 1], .un, .un]) [X 0] (X 1) rfl (fun Pd h => ⟨len_ok rfl, .int (11 + (k : Int)), rfl, n3, n1, 1, by decide, rfl, x0 Pd 1 h⟩) (by simp) rfl ?_
  refine app_to (sd' := [.un, .dat .dice, .dat (.int (11 + (k : Int))), .dat fourD, .own [X 0, X 1, X 2], .un, .un]) [X 0, X 1] (X 2) rfl (fun Pd h => ⟨len_ok rfl, .int (11 + (k : Int)), rfl, n3, n2, 2, by decide, rfl, x0 Pd 2 h⟩) (by simp) rfl ?_
  refine app_to (sd' := [.un, .dat .dice, .dat (.int (11 + (k : Int))), .dat fourD, .own [X 0, X 1, X 2, X 3], .un, .un]) [X 0, X 1, X 2] (X 3) rfl (fun Pd h => ⟨p4, "add ", iS (11 + (k : Int)), rfl, rfl, by show 4 + _ ≤ 100000; omega, .str (("add " : Str) ++ iS (11 + (k : Int))), rfl, .inr ⟨_, rfl, by rw [str_len]; show 4 + _ ≤ 80000; omega, p2, parse_no p1 ⟨3, by decide, rfl, x0 Pd 3 h⟩⟩⟩) (by simp) rfl ?_
  refine app_to (sd' := [.un, .dat .dice, .dat (.int (11 + (k : Int))), .dat fourD, .own [X 0, X 1, X 2, X 3, X 4], .un, .un]) [X 0, X 1, X 2, X 3] (X 4) rfl (fun Pd h => ⟨[addD, addD, addD, addD], rfl, by decide, f1, f3, f2, f4, 4, by decide, rfl, x0 Pd 4 h⟩) (by simp) rfl ?_
  refine app_to (sd' := [.un, .dat .dice, .dat (.int (11 + (k : Int))), .dat fourD, .own [X 0, X 1, X 2, X 3, X 4, X 5], .un, .un]) [X 0, X 1, X 2, X 3, X 4] (X 5) rfl (fun Pd h => ⟨len_ok rfl, .tup [], rfl, rfl, tup_len (Nat.le_refl _) (by decide), by simp only [NoIns, NoInss], ite_t emp_ch ⟨⟨rfl, rfl⟩, _, rfl, 5, by decide, rfl, x0 Pd 5 h⟩⟩) (by simp) rfl ?_
  refine frz_to (sd' := [.un, .dat .dice, .dat (.int (11 + (k : Int))), .dat fourD, .dat (.lst (madeL mg)), .un, .un]) [X 0, X 1, X 2, X 3, X 4, X 5] rfl (by rw [hX]; rfl) ?_
  exact if_noE (fun Pb h => not_go true (fun Pb h => allX_to h) h) rfl

end
end RW

set_option Elab.async false
set_option linter.all false
set_option maxRecDepth 100000
set_option maxHeartbeats 0
namespace RW
open PySem L2
theorem fun_of {K : PySem.W.Frag} {x qual : Str} {st : Stmt} {f : Addr} {fd : FuncData} (F : FunD K x qual (defArgs st) (defBody st) (defScope st) [] [] f fd) : Fun K x qual st f fd := by
  obtain ⟨oc, od, dV, kV, doc, pm, an, cdv, ct, osl, e, lk, hc, hD, _⟩ := F.ex
  rcases hD with ⟨_, z⟩ | ⟨z, _⟩
  · subst z
    exact ⟨⟨oc, od, kV, doc, pm, an, cdv, ct, osl, e, lk, hc⟩, F.kp⟩
  · exact absurd rfl z
theorem xc_of {K : PySem.W.Frag} {h : Heap} {mg : Str → Option Value} {x : Str} (X : K.In h) (G : h.Ns mainGlobals mg) (c1 : (He.Fa.glo x).ok K = true) (c2 : (He.Fa.exc x).ok K = true) : XC K mg x := by
  obtain ⟨q1, q2, q3, q4⟩ := He.exc_ok c2
  exact ⟨_, He.glo_ok X G c1, q1, q2, q3, q4⟩
section
variable {K : PySem.W.Frag} {h : Heap} {mg : Str → Option Value}
theorem ex_TIES (ex : RWH.exB K = true) : ((He.tupB K "TIES" [.str "up", .str "down", .str "even", .str "odd"] && He.eqO (PySem.W.nsIn K mainGlobals "TIES") (some (some (.ref (He.ga K "TIES")))))) = true := by
  have e := ex
  unfold RWH.exB at e
  exact (Bool.and_eq_true_iff.mp e).1
theorem ex_E6 (ex : RWH.exB K = true) : (RW.e6B K) = true := by
  have e := ex
  unfold RWH.exB at e
  have e := (Bool.and_eq_true_iff.mp e).2
  exact (Bool.and_eq_true_iff.mp e).1
theorem ex_d_Wave_Desk (ex : RWH.exB K = true) : (!decide (He.ga K "Wave" = He.ga K "Desk")) = true := by
  have e := ex
  unfold RWH.exB at e
  have e := (Bool.and_eq_true_iff.mp e).2
  have e := (Bool.and_eq_true_iff.mp e).2
  exact (Bool.and_eq_true_iff.mp e).1
theorem tx_of (X : K.In h) (G : h.Ns mainGlobals mg) (c : He.SaysD RWH.fa RWH.fn K) (ex : RWH.exB K = true) : Tx K mg where
  n_abs := He.free_ok X G (c.fact 0 (f := .free "abs") rfl)
  n_len := He.free_ok X G (c.fact 1 (f := .free "len") rfl)
  n_int := He.free_ok X G (c.fact 2 (f := .free "int") rfl)
  n_isinstance := He.free_ok X G (c.fact 3 (f := .free "isinstance") rfl)
  n_tuple := He.free_ok X G (c.fact 4 (f := .free "tuple") rfl)
  n_bool := He.free_ok X G (c.fact 5 (f := .free "bool") rfl)
  n_str := He.free_ok X G (c.fact 6 (f := .free "str") rfl)
  n_all := He.free_ok X G (c.fact 7 (f := .free "all") rfl)
  n_any := He.free_ok X G (c.fact 8 (f := .free "any") rfl)
  n_range := He.free_ok X G (c.fact 9 (f := .free "range") rfl)
  n_max := He.free_ok X G (c.fact 10 (f := .free "max") rfl)
  n_min := He.free_ok X G (c.fact 11 (f := .free "min") rfl)
  n_sum := He.free_ok X G (c.fact 14 (f := .free "sum") rfl)
  n_ValueError := He.free_ok X G (c.fact 15 (f := .free "ValueError") rfl)
  e6 := e6_of X G (ex_E6 ex)
  g_MOST_STEPS := He.int_ok X G (c.fact 16 (f := .int "MOST_STEPS" 4) rfl)
  g_TIES := by
    obtain ⟨e1, e2⟩ := Bool.and_eq_true_iff.mp (ex_TIES ex)
    refine ⟨He.ga K "TIES", PySem.W.mg_of X G (He.eqO_ok e2), ?_⟩
    have q := He.tupB_ok e1 (fun _ => none)
    unfold SqT Rd at q
    rcases q with q | q
    · exfalso
      rcases q with q | q
      · cases q
      · obtain ⟨o, q⟩ := q
        cases q
    · exact q
  x_InvalidChain := xc_of X G (c.fact 74 (f := .glo "InvalidChain") rfl) (c.fact 67 (f := .exc "InvalidChain") rfl)
  n_list := He.free_ok X G (c.fact 13 (f := .free "list") rfl)
  n_enumerate := He.free_ok X G (c.fact 12 (f := .free "enumerate") rfl)
  g_MOST_PLACES := He.int_ok X G (c.fact 17 (f := .int "MOST_PLACES" 1000) rfl)
  x_TooMany := xc_of X G (c.fact 78 (f := .glo "TooMany") rfl) (c.fact 71 (f := .exc "TooMany") rfl)
  x_InvalidText := xc_of X G (c.fact 77 (f := .glo "InvalidText") rfl) (c.fact 70 (f := .exc "InvalidText") rfl)
  x_NothingToUndo := xc_of X G (c.fact 79 (f := .glo "NothingToUndo") rfl) (c.fact 72 (f := .exc "NothingToUndo") rfl)
  c_Desk := by rw [addr_of (He.glo_ok X G (c.fact 81 (f := .glo "Desk") rfl))]; exact He.cls_ok (c.fact 87 (f := .cls "Desk") rfl)
  na_Desk_rows := by rw [addr_of (He.glo_ok X G (c.fact 81 (f := .glo "Desk") rfl))]; exact He.noat_ok (c.fact 101 (f := .noat "Desk" "rows") rfl)
  na_Desk_undone := by rw [addr_of (He.glo_ok X G (c.fact 81 (f := .glo "Desk") rfl))]; exact He.noat_ok (c.fact 102 (f := .noat "Desk" "undone") rfl)
  g_Desk := by rw [addr_of (He.glo_ok X G (c.fact 81 (f := .glo "Desk") rfl))]; exact He.glo_ok X G (c.fact 81 (f := .glo "Desk") rfl)
  x_InvalidStep := xc_of X G (c.fact 76 (f := .glo "InvalidStep") rfl) (c.fact 69 (f := .exc "InvalidStep") rfl)
  x_InvalidNumber := xc_of X G (c.fact 75 (f := .glo "InvalidNumber") rfl) (c.fact 68 (f := .exc "InvalidNumber") rfl)
  c_Wave := by rw [addr_of (He.glo_ok X G (c.fact 80 (f := .glo "Wave") rfl))]; exact He.cls_ok (c.fact 82 (f := .cls "Wave") rfl)
  na_Wave_slope := by rw [addr_of (He.glo_ok X G (c.fact 80 (f := .glo "Wave") rfl))]; exact He.noat_ok (c.fact 97 (f := .noat "Wave" "slope") rfl)
  na_Wave_period := by rw [addr_of (He.glo_ok X G (c.fact 80 (f := .glo "Wave") rfl))]; exact He.noat_ok (c.fact 98 (f := .noat "Wave" "period") rfl)
  na_Wave_gain := by rw [addr_of (He.glo_ok X G (c.fact 80 (f := .glo "Wave") rfl))]; exact He.noat_ok (c.fact 99 (f := .noat "Wave" "gain") rfl)
  na_Wave_places := by rw [addr_of (He.glo_ok X G (c.fact 80 (f := .glo "Wave") rfl))]; exact He.noat_ok (c.fact 100 (f := .noat "Wave" "places") rfl)
theorem raw_divisor (X : K.In h) (G : h.Ns mainGlobals mg) (c : He.SaysD RWH.fa RWH.fn K) : Raw K mg "divisor" s_divisor ["one", "other"] := by
  obtain ⟨fd, D⟩ := c.def_ 0 (d := ⟨("divisor", none), "divisor", "divisor", defArgs s_divisor, defBody s_divisor, defScope s_divisor, [], []⟩) rfl
  exact ⟨_, fd, fun_of D, He.glo_ok X G (c.fact 18 (f := .glo "divisor") rfl), (FunD.bindsN D fun _ _ _ _ _ _ us hl => match us, hl with | [_, _], _ => rfl)⟩
theorem raw_lowest (X : K.In h) (G : h.Ns mainGlobals mg) (c : He.SaysD RWH.fa RWH.fn K) : Raw K mg "lowest" s_lowest ["top", "bottom"] := by
  obtain ⟨fd, D⟩ := c.def_ 1 (d := ⟨("lowest", none), "lowest", "lowest", defArgs s_lowest, defBody s_lowest, defScope s_lowest, [], []⟩) rfl
  exact ⟨_, fd, fun_of D, He.glo_ok X G (c.fact 19 (f := .glo "lowest") rfl), (FunD.bindsN D fun _ _ _ _ _ _ us hl => match us, hl with | [_, _], _ => rfl)⟩
theorem raw_is_whole (X : K.In h) (G : h.Ns mainGlobals mg) (c : He.SaysD RWH.fa RWH.fn K) : Raw K mg "is_whole" s_is_whole ["value", "low", "high"] := by
  obtain ⟨fd, D⟩ := c.def_ 9 (d := ⟨("is_whole", none), "is_whole", "is_whole", defArgs s_is_whole, defBody s_is_whole, defScope s_is_whole, [], []⟩) rfl
  exact ⟨_, fd, fun_of D, He.glo_ok X G (c.fact 27 (f := .glo "is_whole") rfl), (FunD.bindsN D fun _ _ _ _ _ _ us hl => match us, hl with | [_, _, _], _ => rfl)⟩
theorem raw_is_fraction (X : K.In h) (G : h.Ns mainGlobals mg) (c : He.SaysD RWH.fa RWH.fn K) : Raw K mg "is_fraction" s_is_fraction ["value", "far"] := by
  obtain ⟨fd, D⟩ := c.def_ 10 (d := ⟨("is_fraction", none), "is_fraction", "is_fraction", defArgs s_is_fraction, defBody s_is_fraction, defScope s_is_fraction, [], []⟩) rfl
  exact ⟨_, fd, fun_of D, He.glo_ok X G (c.fact 28 (f := .glo "is_fraction") rfl), (FunD.bindsN D fun _ _ _ _ _ _ us hl => match us, hl with | [_, _], _ => rfl)⟩
theorem raw_is_step (X : K.In h) (G : h.Ns mainGlobals mg) (c : He.SaysD RWH.fa RWH.fn K) : Raw K mg "is_step" s_is_step ["value"] := by
  obtain ⟨fd, D⟩ := c.def_ 12 (d := ⟨("is_step", none), "is_step", "is_step", defArgs s_is_step, defBody s_is_step, defScope s_is_step, [], []⟩) rfl
  exact ⟨_, fd, fun_of D, He.glo_ok X G (c.fact 30 (f := .glo "is_step") rfl), (FunD.bindsN D fun _ _ _ _ _ _ us hl => match us, hl with | [_], _ => rfl)⟩
theorem raw_is_chain (X : K.In h) (G : h.Ns mainGlobals mg) (c : He.SaysD RWH.fa RWH.fn K) : Raw K mg "is_chain" s_is_chain ["value"] := by
  obtain ⟨fd, D⟩ := c.def_ 13 (d := ⟨("is_chain", none), "is_chain", "is_chain", defArgs s_is_chain, defBody s_is_chain, defScope s_is_chain, [], []⟩) rfl
  exact ⟨_, fd, fun_of D, He.glo_ok X G (c.fact 31 (f := .glo "is_chain") rfl), (FunD.bindsN D fun _ _ _ _ _ _ us hl => match us, hl with | [_], _ => rfl)⟩
theorem raw_need_chain (X : K.In h) (G : h.Ns mainGlobals mg) (c : He.SaysD RWH.fa RWH.fn K) : Raw K mg "need_chain" s_need_chain ["chain"] := by
  obtain ⟨fd, D⟩ := c.def_ 14 (d := ⟨("need_chain", none), "need_chain", "need_chain", defArgs s_need_chain, defBody s_need_chain, defScope s_need_chain, [], []⟩) rfl
  exact ⟨_, fd, fun_of D, He.glo_ok X G (c.fact 32 (f := .glo "need_chain") rfl), (FunD.bindsN D fun _ _ _ _ _ _ us hl => match us, hl with | [_], _ => rfl)⟩
theorem raw_need_two (X : K.In h) (G : h.Ns mainGlobals mg) (c : He.SaysD RWH.fa RWH.fn K) : Raw K mg "need_two" s_need_two ["chain", "other"] := by
  obtain ⟨fd, D⟩ := c.def_ 15 (d := ⟨("need_two", none), "need_two", "need_two", defArgs s_need_two, defBody s_need_two, defScope s_need_two, [], []⟩) rfl
  exact ⟨_, fd, fun_of D, He.glo_ok X G (c.fact 33 (f := .glo "need_two") rfl), (FunD.bindsN D fun _ _ _ _ _ _ us hl => match us, hl with | [_, _], _ => rfl)⟩
theorem raw_value (X : K.In h) (G : h.Ns mainGlobals mg) (c : He.SaysD RWH.fa RWH.fn K) : Raw K mg "value" s_value ["chain", "number"] := by
  obtain ⟨fd, D⟩ := c.def_ 19 (d := ⟨("value", none), "value", "value", defArgs s_value, defBody s_value, defScope s_value, [], []⟩) rfl
  exact ⟨_, fd, fun_of D, He.glo_ok X G (c.fact 37 (f := .glo "value") rfl), (FunD.bindsN D fun _ _ _ _ _ _ us hl => match us, hl with | [_, _], _ => rfl)⟩
theorem raw_form (X : K.In h) (G : h.Ns mainGlobals mg) (c : He.SaysD RWH.fa RWH.fn K) : Raw K mg "form" s_form ["chain"] := by
  obtain ⟨fd, D⟩ := c.def_ 35 (d := ⟨("form", none), "form", "form", defArgs s_form, defBody s_form, defScope s_form, [], []⟩) rfl
  exact ⟨_, fd, fun_of D, He.glo_ok X G (c.fact 49 (f := .glo "form") rfl), (FunD.bindsN D fun _ _ _ _ _ _ us hl => match us, hl with | [_], _ => rfl)⟩
theorem raw_Desk_redo (X : K.In h) (G : h.Ns mainGlobals mg) (c : He.SaysD RWH.fa RWH.fn K) : RawM K mg "Desk" "redo" "Desk.redo" s_Desk_redo ["self"] := by
  obtain ⟨fd, D⟩ := c.def_ 42 (d := ⟨("Desk", some "redo"), "redo", "Desk.redo", defArgs s_Desk_redo, defBody s_Desk_redo, defScope s_Desk_redo, [], []⟩) rfl
  refine ⟨_, fd, fun_of D, ?_, (FunD.bindsN D fun _ _ _ _ _ _ us hl => match us, hl with | [_], _ => rfl)⟩
  rw [addr_of (He.glo_ok X G (c.fact 81 (f := .glo "Desk") rfl))]
  exact He.meth_ok (c.fact 93 (f := .meth "Desk" "redo") rfl)
theorem raw_joined (X : K.In h) (G : h.Ns mainGlobals mg) (c : He.SaysD RWH.fa RWH.fn K) : Raw K mg "joined" s_joined ["chain", "other"] := by
  obtain ⟨fd, D⟩ := c.def_ 46 (d := ⟨("joined", none), "joined", "joined", defArgs s_joined, defBody s_joined, defScope s_joined, [], []⟩) rfl
  exact ⟨_, fd, fun_of D, He.glo_ok X G (c.fact 51 (f := .glo "joined") rfl), (FunD.bindsN D fun _ _ _ _ _ _ us hl => match us, hl with | [_, _], _ => rfl)⟩
theorem raw_left_out (X : K.In h) (G : h.Ns mainGlobals mg) (c : He.SaysD RWH.fa RWH.fn K) : Raw K mg "left_out" s_left_out ["chain", "at"] := by
  obtain ⟨fd, D⟩ := c.def_ 47 (d := ⟨("left_out", none), "left_out", "left_out", defArgs s_left_out, defBody s_left_out, defScope s_left_out, [], []⟩) rfl
  exact ⟨_, fd, fun_of D, He.glo_ok X G (c.fact 52 (f := .glo "left_out") rfl), (FunD.bindsN D fun _ _ _ _ _ _ us hl => match us, hl with | [_, _], _ => rfl)⟩
theorem raw_fraction_text (X : K.In h) (G : h.Ns mainGlobals mg) (c : He.SaysD RWH.fa RWH.fn K) : Raw K mg "fraction_text" s_fraction_text ["number"] := by
  obtain ⟨fd, D⟩ := c.def_ 48 (d := ⟨("fraction_text", none), "fraction_text", "fraction_text", defArgs s_fraction_text, defBody s_fraction_text, defScope s_fraction_text, [], []⟩) rfl
  exact ⟨_, fd, fun_of D, He.glo_ok X G (c.fact 53 (f := .glo "fraction_text") rfl), (FunD.bindsN D fun _ _ _ _ _ _ us hl => match us, hl with | [_], _ => rfl)⟩
theorem raw_written (X : K.In h) (G : h.Ns mainGlobals mg) (c : He.SaysD RWH.fa RWH.fn K) : Raw K mg "written" s_written ["chain"] := by
  obtain ⟨fd, D⟩ := c.def_ 49 (d := ⟨("written", none), "written", "written", defArgs s_written, defBody s_written, defScope s_written, [], []⟩) rfl
  exact ⟨_, fd, fun_of D, He.glo_ok X G (c.fact 54 (f := .glo "written") rfl), (FunD.bindsN D fun _ _ _ _ _ _ us hl => match us, hl with | [_], _ => rfl)⟩
theorem raw_integer_of (X : K.In h) (G : h.Ns mainGlobals mg) (c : He.SaysD RWH.fa RWH.fn K) : Raw K mg "integer_of" s_integer_of ["word"] := by
  obtain ⟨fd, D⟩ := c.def_ 50 (d := ⟨("integer_of", none), "integer_of", "integer_of", defArgs s_integer_of, defBody s_integer_of, defScope s_integer_of, [], []⟩) rfl
  exact ⟨_, fd, fun_of D, He.glo_ok X G (c.fact 55 (f := .glo "integer_of") rfl), (FunD.bindsN D fun _ _ _ _ _ _ us hl => match us, hl with | [_], _ => rfl)⟩
theorem raw_fraction_of (X : K.In h) (G : h.Ns mainGlobals mg) (c : He.SaysD RWH.fa RWH.fn K) : Raw K mg "fraction_of" s_fraction_of ["word"] := by
  obtain ⟨fd, D⟩ := c.def_ 51 (d := ⟨("fraction_of", none), "fraction_of", "fraction_of", defArgs s_fraction_of, defBody s_fraction_of, defScope s_fraction_of, [], []⟩) rfl
  exact ⟨_, fd, fun_of D, He.glo_ok X G (c.fact 56 (f := .glo "fraction_of") rfl), (FunD.bindsN D fun _ _ _ _ _ _ us hl => match us, hl with | [_], _ => rfl)⟩
theorem raw_step_of (X : K.In h) (G : h.Ns mainGlobals mg) (c : He.SaysD RWH.fa RWH.fn K) : Raw K mg "step_of" s_step_of ["text"] := by
  obtain ⟨fd, D⟩ := c.def_ 52 (d := ⟨("step_of", none), "step_of", "step_of", defArgs s_step_of, defBody s_step_of, defScope s_step_of, [], []⟩) rfl
  exact ⟨_, fd, fun_of D, He.glo_ok X G (c.fact 57 (f := .glo "step_of") rfl), (FunD.bindsN D fun _ _ _ _ _ _ us hl => match us, hl with | [_], _ => rfl)⟩
theorem raw_parse_chain (X : K.In h) (G : h.Ns mainGlobals mg) (c : He.SaysD RWH.fa RWH.fn K) : Raw K mg "parse_chain" s_parse_chain ["text"] := by
  obtain ⟨fd, D⟩ := c.def_ 53 (d := ⟨("parse_chain", none), "parse_chain", "parse_chain", defArgs s_parse_chain, defBody s_parse_chain, defScope s_parse_chain, [], []⟩) rfl
  exact ⟨_, fd, fun_of D, He.glo_ok X G (c.fact 58 (f := .glo "parse_chain") rfl), (FunD.bindsN D fun _ _ _ _ _ _ us hl => match us, hl with | [_], _ => rfl)⟩
theorem raw_law_cell (X : K.In h) (G : h.Ns mainGlobals mg) (c : He.SaysD RWH.fa RWH.fn K) : Raw K mg "_law_cell" s_law_cell ["script", "k"] := by
  obtain ⟨fd, D⟩ := c.def_ 54 (d := ⟨("_law_cell", none), "_law_cell", "_law_cell", defArgs s_law_cell, defBody s_law_cell, defScope s_law_cell, [], []⟩) rfl
  exact ⟨_, fd, fun_of D, He.glo_ok X G (c.fact 59 (f := .glo "_law_cell") rfl), (FunD.bindsN D fun _ _ _ _ _ _ us hl => match us, hl with | [_, _], _ => rfl)⟩
theorem raw_law_drawn (X : K.In h) (G : h.Ns mainGlobals mg) (c : He.SaysD RWH.fa RWH.fn K) : Raw K mg "_law_drawn" s_law_drawn ["cell", "k"] := by
  obtain ⟨fd, D⟩ := c.def_ 55 (d := ⟨("_law_drawn", none), "_law_drawn", "_law_drawn", defArgs s_law_drawn, defBody s_law_drawn, defScope s_law_drawn, [], []⟩) rfl
  exact ⟨_, fd, fun_of D, He.glo_ok X G (c.fact 60 (f := .glo "_law_drawn") rfl), (FunD.bindsN D fun _ _ _ _ _ _ us hl => match us, hl with | [_, _], _ => rfl)⟩
theorem raw_law_roll (X : K.In h) (G : h.Ns mainGlobals mg) (c : He.SaysD RWH.fa RWH.fn K) : Raw K mg "_law_roll" s_law_roll ["dice", "many"] := by
  obtain ⟨fd, D⟩ := c.def_ 56 (d := ⟨("_law_roll", none), "_law_roll", "_law_roll", defArgs s_law_roll, defBody s_law_roll, defScope s_law_roll, [], []⟩) rfl
  exact ⟨_, fd, fun_of D, He.glo_ok X G (c.fact 61 (f := .glo "_law_roll") rfl), (FunD.bindsN D fun _ _ _ _ _ _ us hl => match us, hl with | [_, _], _ => rfl)⟩
theorem raw_law_rounds (X : K.In h) (G : h.Ns mainGlobals mg) (c : He.SaysD RWH.fa RWH.fn K) : Raw K mg "_law_rounds" s_law_rounds ["script", "most"] := by
  obtain ⟨fd, D⟩ := c.def_ 57 (d := ⟨("_law_rounds", none), "_law_rounds", "_law_rounds", defArgs s_law_rounds, defBody s_law_rounds, defScope s_law_rounds, [], []⟩) rfl
  exact ⟨_, fd, fun_of D, He.glo_ok X G (c.fact 62 (f := .glo "_law_rounds") rfl), (FunD.bindsN D fun _ _ _ _ _ _ us hl => match us, hl with | [_, _], _ => rfl)⟩
theorem raw_law_met (X : K.In h) (G : h.Ns mainGlobals mg) (c : He.SaysD RWH.fa RWH.fn K) : Raw K mg "_law_met" s_law_met ["deed"] := by
  obtain ⟨fd, D⟩ := c.def_ 58 (d := ⟨("_law_met", none), "_law_met", "_law_met", defArgs s_law_met, defBody s_law_met, defScope s_law_met, [], []⟩) rfl
  exact ⟨_, fd, fun_of D, He.glo_ok X G (c.fact 63 (f := .glo "_law_met") rfl), (FunD.bindsN D fun _ _ _ _ _ _ us hl => match us, hl with | [_], _ => rfl)⟩
theorem raw_law_alone (X : K.In h) (G : h.Ns mainGlobals mg) (c : He.SaysD RWH.fa RWH.fn K) : Raw K mg "_law_alone" s_law_alone ["e", "own"] := by
  obtain ⟨fd, D⟩ := c.def_ 59 (d := ⟨("_law_alone", none), "_law_alone", "_law_alone", defArgs s_law_alone, defBody s_law_alone, defScope s_law_alone, [], []⟩) rfl
  exact ⟨_, fd, fun_of D, He.glo_ok X G (c.fact 64 (f := .glo "_law_alone") rfl), (FunD.bindsN D fun _ _ _ _ _ _ us hl => match us, hl with | [_, _], _ => rfl)⟩
theorem raw_Desk_init (X : K.In h) (G : h.Ns mainGlobals mg) (c : He.SaysD RWH.fa RWH.fn K) : RawI K mg "Desk" "Desk.__init__" s_Desk_init ["self", "chain"] := by
  obtain ⟨fd, D⟩ := c.def_ 36 (d := ⟨("Desk", some "__init__"), "__init__", "Desk.__init__", defArgs s_Desk_init, defBody s_Desk_init, defScope s_Desk_init, [], []⟩) rfl
  have g := He.glo_ok X G (c.fact 81 (f := .glo "Desk") rfl)
  refine ⟨_, fd, fun_of D, ?_, ?_, (FunD.bindsN D fun _ _ _ _ _ _ us hl => match us, hl with | [_, _], _ => rfl)⟩
  · rw [addr_of g]
    exact He.mkr_ok (c.fact 96 (f := .mkr "Desk") rfl)
  · rw [addr_of g]
    exact g
theorem law_ok {P : Program} {w : World} {base : Heap} (X : K.In h) (G : h.Ns mainGlobals mg) (c : He.SaysD RWH.fa RWH.fn K) (ex : RWH.exB K = true) {f : Addr} {fd : FuncData} {cc PT : Addr} (TB : LamX.TabB base mg cc PT) (D : Fun K "law" "law" s_law f fd) (hfc : fd.code = .ref cc) : LwD P w K mg base 10 [(PT, ("law" : Str) ++ ".<locals>." ++ "<lambda>")] f fd := by
  have T := tx_of X G c ex
  have F_divisor := fn_divisor (P := P) (w := w) (base := base) T (raw_divisor X G c) 
  have F_lowest := fn_lowest (P := P) (w := w) (base := base) T (raw_lowest X G c) F_divisor
  have F_is_whole := fn_is_whole (P := P) (w := w) (base := base) T (raw_is_whole X G c) 
  have F_is_fraction := fn_is_fraction (P := P) (w := w) (base := base) T (raw_is_fraction X G c) F_is_whole F_divisor
  have F_is_step := fn_is_step (P := P) (w := w) (base := base) T (raw_is_step X G c) F_is_fraction
  have F_is_chain := fn_is_chain (P := P) (w := w) (base := base) T (raw_is_chain X G c) F_is_step
  have F_need_chain := fn_need_chain (P := P) (w := w) (base := base) T (raw_need_chain X G c) F_is_chain
  have F_need_two := fn_need_two (P := P) (w := w) (base := base) T (raw_need_two X G c) F_need_chain
  have F_value := fn_value (P := P) (w := w) (base := base) T (raw_value X G c) F_need_chain F_is_fraction
  have F_form := fn_form (P := P) (w := w) (base := base) T (raw_form X G c) F_need_chain
  have F_Desk := fn_Desk_init (P := P) (w := w) (base := base) T (raw_Desk_init X G c) F_need_chain
  have F_redo := fn_Desk_redo (P := P) (w := w) (base := base) T (raw_Desk_redo X G c) 
  have F_joined := fn_joined (P := P) (w := w) (base := base) T (raw_joined X G c) F_need_two F_is_chain
  have F_left_out := fn_left_out (P := P) (w := w) (base := base) T (raw_left_out X G c) F_need_chain F_is_whole
  have F_fraction_text := fn_fraction_text (P := P) (w := w) (base := base) T (raw_fraction_text X G c) 
  have F_written := fn_written (P := P) (w := w) (base := base) T (raw_written X G c) F_fraction_text
  have F_integer_of := fn_integer_of (P := P) (w := w) (base := base) T (raw_integer_of X G c) 
  have F_fraction_of := fn_fraction_of (P := P) (w := w) (base := base) T (raw_fraction_of X G c) F_lowest F_integer_of
  have F_step_of := fn_step_of (P := P) (w := w) (base := base) T (raw_step_of X G c) F_fraction_of
  have F_parse_chain := fn_parse_chain (P := P) (w := w) (base := base) T (raw_parse_chain X G c) F_is_chain F_written F_step_of
  have F__law_cell := fn_law_cell (P := P) (w := w) (base := base) T (raw_law_cell X G c) 
  have F__law_drawn := fn_law_drawn (P := P) (w := w) (base := base) T (raw_law_drawn X G c) 
  have F__law_roll := fn_law_roll (P := P) (w := w) (base := base) T (raw_law_roll X G c) F__law_drawn
  have F__law_rounds := fn_law_rounds (P := P) (w := w) (base := base) T (raw_law_rounds X G c) F__law_cell
  have F__law_met := fn_law_met (P := P) (w := w) (base := base) T (raw_law_met X G c) 
  have F__law_alone := fn_law_alone (P := P) (w := w) (base := base) T (raw_law_alone X G c) 
  exact fn_law (P := P) (w := w) (base := base) T TB hfc D F__law_rounds F__law_met F__law_roll F_form F_value F_left_out F_parse_chain F_joined F_redo F__law_alone F_Desk
end
end RW
open PySem PySem.W PySem.Calls PyProof.Rows
theorem PySem.Challenge.cw_roundwaves_k14_errors_apart_holds : PySem.Challenge.rw_roundwaves_k14_errors_apart.Holds := by
  w_on; o_law
  refine HandSHeadRun.head_any (r := RWH.R) (q := view RWH.R.prog [69]) (H := RWH.hk) (ob := RWH.ob) (M := 9000) (loose := RWH.loose) (d := HandSHeadRun.topDef RWH.R.prog 69) (kwd := []) RWH.ob_eq
    (by kernel_rfl) (fun s => by kernel_rfl) RWH.run (by kernel_rfl) (by kernel_rfl) (by kernel_rfl) (by rfl) (by first | assumption | decide +kernel) (by decide +kernel) ⟨rfl, rfl, rfl, rfl, rfl, by decide +kernel⟩ ?hw ?hc
  case hw => w_witness2
  case hc =>
    refine LamX.walk_ofTsE (l := PySem.Challenge.rw_roundwaves_k14_errors_apart) (n := 63) (k := 10) (x := "script") (CX := fun w => L2N.CX PySem.Challenge.rw_roundwaves_k14_errors_apart.prog w) rfl (by decide) (by kernel_rfl) ⟨rfl, by decide, by decide⟩ ?F (fun w H s e t z => by
      obtain ⟨_, _, _, _, _, _, _, _, _, _, _, _, z⟩ := z
      exact z)
    intro w mg fa h Y G z0
    obtain ⟨K, kx, c, ex, cc, PT, tt⟩ := Y
    have z1 : mg ("law" : PySem.Str) = some (.ref fa) := by
      have e : (HandSHeadRun.topDef RWH.R.prog 69).name = ("law" : PySem.Str) := by kernel_rfl
      rw [← e]
      exact z0
    obtain ⟨fd, D⟩ := c.def_ 60 (d := ⟨("law", none), "law", "law", L2.defArgs RW.s_law, L2.defBody RW.s_law, L2.defScope RW.s_law, [], []⟩) rfl
    have b := L2.FunD.bindsA (ps := ["script"]) D fun _ _ _ _ _ _ us hl => match us, hl with | [_], _ => rfl
    have gl := c.fact 65 (f := .glo "law") rfl
    have e1 := z1.symm.trans (He.glo_ok kx G gl)
    cases e1
    have Df : L2.Fun K "law" "law" RW.s_law (He.ga K "law") fd := RW.fun_of (st := RW.s_law) D
    obtain ⟨oc, od, kV, doc, pm, an, cdv, ct, osl, efd, lk, _⟩ := Df.ex
    have hfc : fd.code = .ref cc := RW.TabAt.code tt (He.eqO_ok gl) lk
    refine ⟨K, kx, fd, [(cc, PT)], RW.spLaw K [(PT, ("law" : PySem.Str) ++ ".<locals>." ++ "<lambda>")], fun p hp => ?_, fun p hp => ?_, fun p hp => ?_, fun s v => b s [v] rfl, fun H a ns hl _ hT hS => ⟨a, ns, rfl, hS, hl, fun p hp => ?_, fun _ => rfl⟩, fun base _ _ hB => ?_⟩
    · rw [List.mem_singleton.mp hp]; exact tt.g
    · rw [List.mem_singleton.mp hp]; exact tt.k
    · rw [List.mem_singleton.mp hp]; exact codeHd_of_K kx tt.c
    · rw [List.mem_singleton.mp hp]; exact LamX.TabS.nil (hT (cc, PT) List.mem_cons_self)
    · exact (RW.law_ok (P := PySem.Challenge.rw_roundwaves_k14_errors_apart.prog) (w := w) (base := base) kx G c ex (hB (cc, PT) List.mem_cons_self) Df hfc).ok

