import PyProof.Rows.All
import Wide.All
import OpenK.AllK
import Wide.FinOn
import HandS.ForMost
import HandS.Wide
import HandS.Gcd
import HandS.Style
import HandS.IsInst
import HandS.NoneIn
import PyProof.ReprRoads
import PyProof.ReprLen
import PySem.Challenge.RW_wheretrue_k60_whole_fractions_are_a_fiel
set_option Elab.async false
set_option linter.all false
set_option maxRecDepth 100000
/-! Fa: power series over Int as a commutative ring; polynomials are those that vanish from some place on. -/
namespace FF
structure Ser where
  co : Nat → Int
namespace Ser
theorem ext {f g : Ser} (h : ∀ n, f.co n = g.co n) : f = g := by
  obtain ⟨f⟩ := f
  obtain ⟨g⟩ := g
  exact congrArg Ser.mk (funext h)
/-- the series without its first coefficient -/
def tl (f : Ser) : Ser := ⟨fun n => f.co (n + 1)⟩
/-- a constant -/
def C (c : Int) : Ser := ⟨fun n => if n = 0 then c else 0⟩
def sm (c : Int) (f : Ser) : Ser := ⟨fun n => c * f.co n⟩
def mulC : Nat → (Nat → Int) → (Nat → Int) → Int
  | 0, f, g => f 0 * g 0
  | n + 1, f, g => f 0 * g (n + 1) + mulC n (fun k => f (k + 1)) g
instance : Add Ser := ⟨fun f g => ⟨fun n => f.co n + g.co n⟩⟩
instance : Mul Ser := ⟨fun f g => ⟨fun n => mulC n f.co g.co⟩⟩
instance : Neg Ser := ⟨fun f => ⟨fun n => - f.co n⟩⟩
instance : Sub Ser := ⟨fun f g => ⟨fun n => f.co n - g.co n⟩⟩
instance : NatCast Ser := ⟨fun n => C n⟩
instance : IntCast Ser := ⟨fun n => C n⟩
instance (n : Nat) : OfNat Ser n := ⟨C n⟩
instance : SMul Nat Ser := ⟨fun n f => C n * f⟩
instance : SMul Int Ser := ⟨fun n f => C n * f⟩
def pw (f : Ser) : Nat → Ser
  | 0 => 1
  | n + 1 => pw f n * f
instance : HPow Ser Nat Ser := ⟨pw⟩
theorem co_add (f g : Ser) (n : Nat) : (f + g).co n = f.co n + g.co n := rfl
theorem co_sub (f g : Ser) (n : Nat) : (f - g).co n = f.co n - g.co n := rfl
theorem co_neg (f : Ser) (n : Nat) : (-f).co n = - f.co n := rfl
theorem co_C (c : Int) (n : Nat) : (C c).co n = if n = 0 then c else 0 := rfl
theorem co_zero (n : Nat) : (0 : Ser).co n = 0 := by
  show (if n = 0 then ((0 : Nat) : Int) else 0) = 0
  split <;> rfl
theorem co_mul0 (f g : Ser) : (f * g).co 0 = f.co 0 * g.co 0 := rfl
theorem co_mulS (f g : Ser) (n : Nat) : (f * g).co (n + 1) = f.co 0 * g.co (n + 1) + (f.tl * g).co n := rfl
theorem mulS' (n : Nat) : ∀ f g : Ser, (f * g).co (n + 1) = f.co (n + 1) * g.co 0 + (f * g.tl).co n := by
  induction n with
  | zero =>
    intro f g
    rw [co_mulS, co_mul0, co_mul0]
    show f.co 0 * g.co 1 + f.co 1 * g.co 0 = f.co 1 * g.co 0 + f.co 0 * g.co 1
    omega
  | succ n ih =>
    intro f g
    rw [co_mulS, ih f.tl g, co_mulS f g.tl n]
    show f.co 0 * g.co (n + 2) + (f.co (n + 2) * g.co 0 + (f.tl * g.tl).co n) = f.co (n + 2) * g.co 0 + (f.co 0 * g.co (n + 2) + (f.tl * g.tl).co n)
    omega
theorem mul_comm (f g : Ser) : f * g = g * f := by
  refine ext fun n => ?_
  induction n generalizing f g with
  | zero => exact Int.mul_comm _ _
  | succ n ih => rw [co_mulS, mulS', ih, Int.mul_comm]
theorem add_mul (f g h : Ser) : (f + g) * h = f * h + g * h := by
  refine ext fun n => ?_
  induction n generalizing f g h with
  | zero => exact Int.add_mul _ _ _
  | succ n ih =>
    rw [co_add, co_mulS, co_mulS f, co_mulS g, show (f + g).tl = f.tl + g.tl from rfl, ih, co_add, co_add, Int.add_mul]
    omega
theorem mul_add (f g h : Ser) : f * (g + h) = f * g + f * h := by
  rw [mul_comm, add_mul, mul_comm g, mul_comm h]
theorem sm_mul (c : Int) (f g : Ser) : sm c f * g = sm c (f * g) := by
  refine ext fun n => ?_
  induction n generalizing f g with
  | zero => exact Int.mul_assoc _ _ _
  | succ n ih =>
    show _ = c * (f * g).co (n + 1)
    rw [co_mulS, co_mulS, show (sm c f).tl = sm c f.tl from rfl, ih, Int.mul_add]
    show c * f.co 0 * g.co (n + 1) + c * (f.tl * g).co n = _
    rw [Int.mul_assoc]
theorem mul_assoc (f g h : Ser) : f * g * h = f * (g * h) := by
  refine ext fun n => ?_
  induction n generalizing f g h with
  | zero => exact Int.mul_assoc _ _ _
  | succ n ih =>
    have e : (f * g).tl = sm (f.co 0) g.tl + f.tl * g := ext fun k => co_mulS f g k
    rw [co_mulS, e, add_mul, co_add, ih, co_mulS f, co_mulS g, sm_mul, co_mul0]
    show _ + (f.co 0 * (g.tl * h).co n + _) = _
    rw [Int.mul_add, Int.mul_assoc, Int.add_assoc]
theorem zero_mul (f : Ser) : 0 * f = 0 := by
  refine ext fun n => ?_
  rw [co_zero]
  induction n with
  | zero => rw [co_mul0, co_zero, Int.zero_mul]
  | succ n ih =>
    have e : (0 : Ser).tl = 0 := ext fun k => by
      show (0 : Ser).co (k + 1) = _
      rw [co_zero, co_zero]
    rw [co_mulS, e, ih, co_zero, Int.zero_mul]
    rfl
theorem C_mul (c : Int) (f : Ser) : C c * f = sm c f := by
  refine ext fun n => ?_
  cases n with
  | zero => rfl
  | succ n =>
    have e : (C c).tl = 0 := ext fun k => by
      rw [co_zero]
      rfl
    rw [co_mulS, e, zero_mul, co_zero, Int.add_zero]
    rfl
theorem co_Cmul (c : Int) (f : Ser) (n : Nat) : (C c * f).co n = c * f.co n := by
  rw [C_mul]
  rfl
theorem one_mul (f : Ser) : 1 * f = f := by
  show C 1 * f = f
  rw [C_mul]
  refine ext fun n => ?_
  exact Int.one_mul _
theorem C_add (a b : Int) : C (a + b) = C a + C b := ext fun n => by
  rw [co_add, co_C, co_C, co_C]
  split <;> simp
theorem C_mulC (a b : Int) : C (a * b) = C a * C b := ext fun n => by
  rw [co_Cmul, co_C, co_C]
  split <;> simp
theorem C_neg (a : Int) : C (-a) = - C a := ext fun n => by
  rw [co_neg, co_C, co_C]
  split <;> simp
theorem neg_mul (f g : Ser) : (-f) * g = -(f * g) := by
  have e : -f = sm (-1) f := ext fun n => by
    rw [co_neg]
    show _ = -1 * f.co n
    omega
  rw [e, sm_mul]
  refine ext fun n => ?_
  rw [co_neg]
  show -1 * (f * g).co n = _
  omega
instance : Lean.Grind.CommRing Ser where
  add_zero f := ext fun n => by rw [co_add, co_zero, Int.add_zero]
  add_comm f g := ext fun n => Int.add_comm _ _
  add_assoc f g h := ext fun n => Int.add_assoc _ _ _
  mul_assoc := mul_assoc
  mul_one f := by rw [mul_comm, one_mul]
  one_mul := one_mul
  left_distrib := mul_add
  right_distrib := add_mul
  zero_mul := zero_mul
  mul_zero f := by rw [mul_comm, zero_mul]
  pow_zero f := rfl
  pow_succ f n := rfl
  ofNat_succ n := by
    show C ((n + 1 : Nat) : Int) = C n + C 1
    rw [← C_add]
    rfl
  ofNat_eq_natCast n := rfl
  nsmul_eq_natCast_mul n f := rfl
  neg_add_cancel f := ext fun n => by rw [co_add, co_neg, co_zero, Int.add_left_neg]
  sub_eq_add_neg f g := ext fun n => Int.sub_eq_add_neg
  neg_zsmul i f := by
    show C (-i) * f = -(C i * f)
    rw [C_neg, neg_mul]
  zsmul_natCast_eq_nsmul n f := rfl
  intCast_ofNat n := rfl
  intCast_neg i := C_neg i
  mul_comm := mul_comm
end Ser
open Ser
example (a b c : Ser) : (a + b) * (a - b) * c = a * a * c - b * b * c := by grind
/-! ### no divisors of nought -/
theorem mul_eq_zero_of0 {f g : Ser} (h0 : f.co 0 ≠ 0) (h : f * g = 0) : g = 0 := by
  refine Ser.ext fun n => ?_
  rw [co_zero]
  induction n generalizing g with
  | zero =>
    have e := congrArg (fun x => x.co 0) h
    have e2 : f.co 0 * g.co 0 = 0 := e.trans (co_zero 0)
    exact (Int.mul_eq_zero.mp e2).resolve_left h0
  | succ n ih =>
    have e := congrArg (fun x => x.co 0) h
    have e2 : f.co 0 * g.co 0 = 0 := e.trans (co_zero 0)
    have g0 := (Int.mul_eq_zero.mp e2).resolve_left h0
    refine ih (g := g.tl) (Ser.ext fun k => ?_)
    have e3 := congrArg (fun x => x.co (k + 1)) h
    have e4 : (f * g).co (k + 1) = 0 := e3.trans (co_zero _)
    rw [mulS', g0, Int.mul_zero, Int.zero_add] at e4
    rw [e4, co_zero]
theorem ne_zero_iff {f : Ser} : f ≠ 0 ↔ ∃ n, f.co n ≠ 0 := by
  constructor
  · intro h
    refine Classical.byContradiction fun z => h (Ser.ext fun n => ?_)
    rw [co_zero]
    exact Classical.byContradiction fun q => z ⟨n, q⟩
  · rintro ⟨n, h⟩ rfl
    exact h (co_zero n)
theorem tl_mul_of0 {f g : Ser} (h0 : f.co 0 = 0) : (f * g).tl = f.tl * g := Ser.ext fun n => by
  show (f * g).co (n + 1) = _
  rw [co_mulS, h0, Int.zero_mul, Int.zero_add]
theorem mul_eq_zero {f g : Ser} (h : f * g = 0) : f = 0 ∨ g = 0 := by
  refine Classical.byContradiction fun z => ?_
  have hf : f ≠ 0 := fun q => z (.inl q)
  have hg : g ≠ 0 := fun q => z (.inr q)
  obtain ⟨n, hn⟩ := ne_zero_iff.mp hf
  clear z hf
  induction n generalizing f with
  | zero => exact hg (mul_eq_zero_of0 hn h)
  | succ n ih =>
    by_cases h0 : f.co 0 = 0
    · refine ih (f := f.tl) ?_ hn
      rw [← tl_mul_of0 h0, h]
      exact Ser.ext fun k => (co_zero (k + 1)).trans (co_zero k).symm
    · exact hg (mul_eq_zero_of0 h0 h)
theorem mul_cancel {f g h : Ser} (hf : f ≠ 0) (e : f * g = f * h) : g = h := by
  have z : f * (g - h) = 0 := by grind
  rcases mul_eq_zero z with q | q
  · exact absurd q hf
  · grind
theorem mul_ne {f g : Ser} (hf : f ≠ 0) (hg : g ≠ 0) : f * g ≠ 0 := fun z => (mul_eq_zero z).elim hf hg
theorem C_ne {c : Int} (h : c ≠ 0) : C c ≠ 0 := ne_zero_iff.mpr ⟨0, h⟩
theorem C_inj {a b : Int} (h : C a = C b) : a = b := congrArg (fun x => x.co 0) h
theorem C_zero : C 0 = 0 := rfl
theorem C_one : C 1 = 1 := rfl
/-! ### polynomials: f vanishes from d on -/
def Dg (d : Nat) (f : Ser) : Prop := ∀ n, d ≤ n → f.co n = 0
theorem Dg.mono {d e : Nat} {f : Ser} (h : Dg d f) (l : d ≤ e) : Dg e f := fun n q => h n (Nat.le_trans l q)
theorem Dg.add {d : Nat} {f g : Ser} (hf : Dg d f) (hg : Dg d g) : Dg d (f + g) := fun n q => by
  rw [co_add, hf n q, hg n q]
  rfl
theorem Dg.sub {d : Nat} {f g : Ser} (hf : Dg d f) (hg : Dg d g) : Dg d (f - g) := fun n q => by
  rw [co_sub, hf n q, hg n q]
  rfl
theorem Dg.neg {d : Nat} {f : Ser} (hf : Dg d f) : Dg d (-f) := fun n q => by
  rw [co_neg, hf n q]
  rfl
theorem Dg.zero {d : Nat} : Dg d 0 := fun n _ => co_zero n
theorem Dg.C {c : Int} : Dg 1 (C c) := fun n q => by
  rw [co_C, if_neg (by omega)]
theorem Dg.tl {d : Nat} {f : Ser} (h : Dg (d + 1) f) : Dg d f.tl := fun n q => h (n + 1) (by omega)
theorem Dg.z {f : Ser} (h : Dg 0 f) : f = 0 := Ser.ext fun n => (h n (Nat.zero_le n)).trans (co_zero n).symm
/-- the place of the leading coefficients -/
theorem mul_top {d e : Nat} {f g : Ser} (hf : Dg (d + 1) f) (hg : Dg (e + 1) g) : Dg (d + e + 1) (f * g) ∧ (f * g).co (d + e) = f.co d * g.co e := by
  induction d generalizing f with
  | zero =>
    have ef : f = C (f.co 0) := Ser.ext fun n => by
      cases n with
      | zero => rfl
      | succ n => exact hf (n + 1) (by omega)
    rw [ef]
    refine ⟨fun n q => ?_, ?_⟩
    · rw [co_Cmul, hg n (by omega), Int.mul_zero]
    · rw [co_Cmul, Nat.zero_add]
      rfl
  | succ d ih =>
    obtain ⟨h1, h2⟩ := ih hf.tl
    refine ⟨fun n q => ?_, ?_⟩
    · obtain ⟨m, rfl⟩ : ∃ m, n = m + 1 := ⟨n - 1, by omega⟩
      rw [co_mulS, h1 m (by omega), hg (m + 1) (by omega), Int.mul_zero]
      rfl
    · rw [show d + 1 + e = (d + e) + 1 by omega, co_mulS, h2, hg (d + e + 1) (by omega), Int.mul_zero, Int.zero_add]
      rfl
theorem Dg.mul {d e : Nat} {f g : Ser} (hf : Dg d f) (hg : Dg e g) : Dg (d + e) (f * g) := by
  cases d with
  | zero =>
    rw [hf.z, zero_mul]
    exact Dg.zero
  | succ d =>
    cases e with
    | zero =>
      rw [hg.z, mul_comm, zero_mul]
      exact Dg.zero
    | succ e => exact (mul_top hf hg).1.mono (by omega)
def Pol (f : Ser) : Prop := ∃ d, Dg d f
theorem Pol.add {f g : Ser} (hf : Pol f) (hg : Pol g) : Pol (f + g) := let ⟨d, a⟩ := hf; let ⟨e, b⟩ := hg; ⟨d + e, (a.mono (by omega)).add (b.mono (by omega))⟩
theorem Pol.sub {f g : Ser} (hf : Pol f) (hg : Pol g) : Pol (f - g) := let ⟨d, a⟩ := hf; let ⟨e, b⟩ := hg; ⟨d + e, (a.mono (by omega)).sub (b.mono (by omega))⟩
theorem Pol.mul {f g : Ser} (hf : Pol f) (hg : Pol g) : Pol (f * g) := let ⟨_, a⟩ := hf; let ⟨_, b⟩ := hg; ⟨_, a.mul b⟩
theorem Pol.C {c : Int} : Pol (C c) := ⟨1, Dg.C⟩
theorem Pol.zero : Pol 0 := ⟨0, Dg.zero⟩
theorem Pol.one : Pol 1 := Pol.C (c := 1)
/-- the exact degree of a polynomial that is not nought -/
theorem Pol.top {f : Ser} (h : Pol f) (n0 : f ≠ 0) : ∃ d, Dg (d + 1) f ∧ f.co d ≠ 0 := by
  obtain ⟨d, hd⟩ := h
  induction d with
  | zero => exact absurd hd.z n0
  | succ d ih =>
    by_cases q : f.co d = 0
    · refine ih fun n l => ?_
      rcases Nat.lt_or_ge d n with z | z
      · exact hd n z
      · rw [show n = d by omega]
        exact q
    · exact ⟨d, hd, q⟩
/-- a divisor (in polynomials) of a constant is a constant -/
theorem const_of_mul {f g : Ser} {c : Int} (hf : Pol f) (hg : Pol g) (hc : c ≠ 0) (e : f * g = C c) : ∃ a, f = C a := by
  have f0 : f ≠ 0 := fun z => by
    rw [z, zero_mul] at e
    exact C_ne hc e.symm
  have g0 : g ≠ 0 := fun z => by
    rw [z, mul_comm, zero_mul] at e
    exact C_ne hc e.symm
  obtain ⟨d, h1, h2⟩ := hf.top f0
  obtain ⟨k, h3, h4⟩ := hg.top g0
  have q := (mul_top h1 h3).2
  rw [e, co_C] at q
  have d0 : d = 0 := Classical.byContradiction fun z => by
    rw [if_neg (by omega)] at q
    exact (Int.mul_ne_zero h2 h4) q.symm
  subst d0
  refine ⟨f.co 0, Ser.ext fun n => ?_⟩
  rw [co_C]
  split
  · rename_i z
    rw [z]
  · exact h1 n (by omega)
end FF

/-! Fb: polynomials as lists (trimmed), what the program's small functions give. -/
namespace FF
open Ser
def S (a : List Int) : Ser := ⟨fun n => a.getD n 0⟩
theorem S_co (a : List Int) (n : Nat) : (S a).co n = a.getD n 0 := rfl
theorem S_nil : S [] = 0 := Ser.ext fun n => (co_zero n).symm
theorem getD_out {a : List Int} {n : Nat} (h : a.length ≤ n) : a.getD n 0 = 0 := by
  rw [List.getD_eq_getElem?_getD, List.getElem?_eq_none h]
  rfl
theorem S_dg (a : List Int) : Dg a.length (S a) := fun n h => getD_out h
theorem S_pol (a : List Int) : Pol (S a) := ⟨_, S_dg a⟩
theorem S_cons (x : Int) (a : List Int) : (S (x :: a)).tl = S a := Ser.ext fun n => rfl
theorem S_single (c : Int) : S [c] = C c := Ser.ext fun n => by
  rw [S_co, co_C]
  cases n with
  | zero => rfl
  | succ n => rfl
theorem S_take_full {f : Ser} {d : Nat} (h : Dg d f) : S ((List.range d).map f.co) = f := Ser.ext fun n => by
  rw [S_co, List.getD_eq_getElem?_getD]
  by_cases q : n < d
  · rw [List.getElem?_map, List.getElem?_range q]
    rfl
  · rw [List.getElem?_eq_none (by rw [List.length_map, List.length_range]; omega), h n (by omega)]
    rfl
/-- trimmed: the last coefficient is not 0 -/
def Trm (a : List Int) : Prop := ∀ n, a.length = n + 1 → a.getD n 0 ≠ 0
theorem Trm.nil : Trm [] := fun n h => by cases h
theorem list_ext {a b : List Int} (hl : a.length = b.length) (h : ∀ n, a.getD n 0 = b.getD n 0) : a = b := by
  refine List.ext_getElem hl fun n h1 h2 => ?_
  have e := h n
  rw [List.getD_eq_getElem?_getD, List.getD_eq_getElem?_getD, List.getElem?_eq_getElem h1, List.getElem?_eq_getElem h2] at e
  exact e
theorem Trm.le {a b : List Int} (ha : Trm a) (h : S a = S b) : a.length ≤ b.length := by
  refine Classical.byContradiction fun q => ?_
  obtain ⟨n, hn⟩ : ∃ n, a.length = n + 1 := ⟨a.length - 1, by omega⟩
  have e : (S a).co n = (S b).co n := by rw [h]
  exact ha n hn (e.trans (S_dg b n (by omega)))
theorem Trm.ext {a b : List Int} (ha : Trm a) (hb : Trm b) (h : S a = S b) : a = b :=
  list_ext (Nat.le_antisymm (ha.le h) (hb.le h.symm)) fun n => congrArg (fun x => x.co n) h
theorem Trm.nil_of {a : List Int} (ha : Trm a) (h : S a = 0) : a = [] := ha.ext Trm.nil (h.trans S_nil.symm)
theorem Trm.ne {a : List Int} (ha : Trm a) (h : a ≠ []) : S a ≠ 0 := fun z => h (ha.nil_of z)
theorem Trm.len_le {a : List Int} {d : Nat} (ha : Trm a) (h : Dg d (S a)) : a.length ≤ d := by
  refine Classical.byContradiction fun q => ?_
  exact ha (a.length - 1) (by omega) (h _ (by omega))
def trim : List Int → List Int
  | [] => []
  | x :: r => match trim r with
    | [] => if x = 0 then [] else [x]
    | y :: t => x :: y :: t
theorem trim_cons (x : Int) (r : List Int) : trim (x :: r) = if trim r = [] then (if x = 0 then [] else [x]) else x :: trim r := by
  show (match trim r with | [] => if x = 0 then [] else [x] | y :: t => x :: y :: t) = _
  cases trim r with
  | nil => rw [if_pos rfl]
  | cons y t => rw [if_neg (List.cons_ne_nil y t)]
theorem S_trim (a : List Int) : S (trim a) = S a := by
  induction a with
  | nil => rfl
  | cons x r ih =>
    rw [trim_cons]
    refine Ser.ext fun n => ?_
    have ihn : ∀ n, (trim r).getD n 0 = r.getD n 0 := fun n => congrArg (fun f => f.co n) ih
    split
    · rename_i h
      have hr : ∀ n, r.getD n 0 = 0 := fun n => by
        rw [← ihn, h]
        rfl
      split
      · rename_i h0
        cases n with
        | zero => exact h0.symm
        | succ n => exact (hr n).symm
      · cases n with
        | zero => rfl
        | succ n => exact (hr n).symm
    · cases n with
      | zero => rfl
      | succ n => exact ihn n
theorem Trm.cons {x : Int} {r : List Int} (h : Trm r) (hr : r ≠ []) : Trm (x :: r) := fun n hn => by
  cases n with
  | zero =>
    rw [List.length_cons] at hn
    exact absurd (List.length_eq_zero_iff.mp (by omega)) hr
  | succ n => exact h n (by rw [List.length_cons] at hn; omega)
theorem Trm.tail {x : Int} {r : List Int} (h : Trm (x :: r)) : Trm r := fun n hn => h (n + 1) (by rw [List.length_cons, hn])
theorem Trm.single {x : Int} (h : x ≠ 0) : Trm [x] := fun n hn => by
  cases n with
  | zero => exact h
  | succ n => cases hn
theorem trim_trm (a : List Int) : Trm (trim a) := by
  induction a with
  | nil => exact Trm.nil
  | cons x r ih =>
    rw [trim_cons]
    split
    · split
      · exact Trm.nil
      · rename_i h0
        exact Trm.single h0
    · rename_i h
      exact ih.cons h
theorem trim_len (a : List Int) : (trim a).length ≤ a.length := (trim_trm a).le (S_trim a)
theorem trim_id {a : List Int} (h : Trm a) : trim a = a := (trim_trm a).ext h (S_trim a)
/-- the way the program trims: the first m, where all behind are 0 and the last is not -/
theorem trim_take {a : List Int} {m : Nat} (hm : m ≤ a.length) (h1 : ∀ n, m ≤ n → a.getD n 0 = 0) (h2 : ∀ n, m = n + 1 → a.getD n 0 ≠ 0) : trim a = a.take m := by
  have hl : (a.take m).length = m := by rw [List.length_take]; omega
  refine (trim_trm a).ext (fun n hn => ?_) ((S_trim a).trans (Ser.ext fun n => ?_))
  · rw [hl] at hn
    rw [List.getD_eq_getElem?_getD, List.getElem?_take_of_lt (by omega), ← List.getD_eq_getElem?_getD]
    exact h2 n hn
  · rw [S_co, S_co]
    by_cases q : n < m
    · rw [List.getD_eq_getElem?_getD (l := a.take m), List.getElem?_take_of_lt q, ← List.getD_eq_getElem?_getD]
    · rw [h1 n (by omega), getD_out (by omega)]
/-! ### sizes: all coefficients below 2 ^ n -/
def Bd (n : Nat) (a : List Int) : Prop := ∀ k, (a.getD k 0).natAbs < 2 ^ n
theorem Bd.mono {m n : Nat} {a : List Int} (h : Bd m a) (l : m ≤ n) : Bd n a := fun k => Nat.lt_of_lt_of_le (h k) (Nat.pow_le_pow_right (by decide) l)
theorem pow_pos2 (n : Nat) : 0 < 2 ^ n := Nat.pow_pos (by decide)
theorem Bd.nil {n : Nat} : Bd n [] := fun k => pow_pos2 n
theorem Bd.mem {n : Nat} {a : List Int} (h : Bd n a) {x : Int} (hx : x ∈ a) : x.natAbs < 2 ^ n := by
  obtain ⟨i, hi, e⟩ := List.getElem_of_mem hx
  have := h i
  rw [List.getD_eq_getElem?_getD, List.getElem?_eq_getElem hi] at this
  rw [← e]
  exact this
theorem Bd.of {n : Nat} {a : List Int} (h : ∀ x ∈ a, x.natAbs < 2 ^ n) : Bd n a := fun k => by
  rw [List.getD_eq_getElem?_getD]
  cases e : a[k]? with
  | none => exact pow_pos2 n
  | some x => exact h x (List.mem_of_getElem? e)
theorem Bd.ser {n : Nat} {a b : List Int} (h : Bd n a) (e : S b = S a) : Bd n b := fun k => by
  have : b.getD k 0 = a.getD k 0 := congrArg (fun f => f.co k) e
  rw [this]
  exact h k
/-! ### the program's operations -/
def pAdd (a b : List Int) : List Int := trim ((List.range (max a.length b.length)).map fun k => a.getD k 0 + b.getD k 0)
def pScale (a : List Int) (c : Int) : List Int := trim (a.map fun x => x * c)
def pSub (a b : List Int) : List Int := pAdd a (pScale b (-1))
def pMul (a b : List Int) : List Int := if a = [] ∨ b = [] then [] else (List.range (a.length + b.length - 1)).map (S a * S b).co
def pShift (a : List Int) (k : Nat) : List Int := if a = [] then [] else List.replicate k 0 ++ a
theorem S_pAdd (a b : List Int) : S (pAdd a b) = S a + S b := by
  unfold pAdd
  rw [S_trim]
  exact S_take_full (f := S a + S b) (d := max a.length b.length) (((S_dg a).mono (by omega)).add ((S_dg b).mono (by omega)))
theorem getD_map0 (a : List Int) (f : Int → Int) (h : f 0 = 0) (k : Nat) : (a.map f).getD k 0 = f (a.getD k 0) := by
  rw [List.getD_eq_getElem?_getD, List.getD_eq_getElem?_getD, List.getElem?_map]
  cases a[k]? with
  | none => exact h.symm
  | some x => rfl
theorem S_pScale (a : List Int) (c : Int) : S (pScale a c) = C c * S a := by
  unfold pScale
  rw [S_trim]
  refine Ser.ext fun n => ?_
  rw [co_Cmul, S_co, getD_map0 _ _ (Int.zero_mul c), Int.mul_comm]
  rfl
theorem S_pSub (a b : List Int) : S (pSub a b) = S a - S b := by
  unfold pSub
  rw [S_pAdd, S_pScale]
  have e : C (-1) = -1 := C_neg 1
  rw [e]
  grind
theorem S_pMul (a b : List Int) : S (pMul a b) = S a * S b := by
  unfold pMul
  split
  · rename_i h
    rcases h with h | h
    · rw [h, S_nil, zero_mul]
    · rw [h, S_nil, Ser.mul_comm, zero_mul]
  · rename_i h
    have ha : 0 < a.length := Nat.pos_of_ne_zero fun z => h (.inl (List.length_eq_zero_iff.mp z))
    have hb : 0 < b.length := Nat.pos_of_ne_zero fun z => h (.inr (List.length_eq_zero_iff.mp z))
    refine S_take_full ?_
    have := (mul_top (d := a.length - 1) (e := b.length - 1) ((S_dg a).mono (by omega)) ((S_dg b).mono (by omega))).1
    exact this.mono (by omega)
def sh (k : Nat) (f : Ser) : Ser := ⟨fun n => if n < k then 0 else f.co (n - k)⟩
theorem sh_zero (f : Ser) : sh 0 f = f := Ser.ext fun n => rfl
theorem sh_tl (k : Nat) (f : Ser) : (sh (k + 1) f).tl = sh k f := Ser.ext fun n => by
  show (if n + 1 < k + 1 then 0 else f.co (n + 1 - (k + 1))) = if n < k then 0 else f.co (n - k)
  by_cases h : n < k
  · rw [if_pos h, if_pos (by omega)]
  · rw [if_neg h, if_neg (by omega), Nat.add_sub_add_right]
theorem sh_mul (k : Nat) (f g : Ser) : sh k f * g = sh k (f * g) := by
  induction k with
  | zero => rw [sh_zero, sh_zero]
  | succ k ih =>
    refine Ser.ext fun n => ?_
    cases n with
    | zero =>
      rw [co_mul0]
      show (if 0 < k + 1 then (0 : Int) else f.co (0 - (k + 1))) * g.co 0 = if 0 < k + 1 then (0 : Int) else (f * g).co (0 - (k + 1))
      rw [if_pos (by omega), if_pos (by omega), Int.zero_mul]
    | succ n =>
      rw [co_mulS, sh_tl, ih]
      have e0 : (sh (k + 1) f).co 0 = 0 := by
        show (if 0 < k + 1 then (0 : Int) else f.co (0 - (k + 1))) = 0
        rw [if_pos (by omega)]
      rw [e0, Int.zero_mul, Int.zero_add]
      exact congrArg (fun x => x.co n) (sh_tl k (f * g)).symm
def Xp (k : Nat) : Ser := sh k 1
theorem sh_eq (k : Nat) (f : Ser) : sh k f = Xp k * f := by
  unfold Xp
  rw [sh_mul, Ser.one_mul]
theorem Xp_pol (k : Nat) : Pol (Xp k) := ⟨k + 1, fun n h => by
  show (if n < k then 0 else C 1 |>.co (n - k)) = 0
  rw [if_neg (by omega), co_C, if_neg (by omega)]⟩
theorem S_pShift (a : List Int) (k : Nat) : S (pShift a k) = Xp k * S a := by
  rw [← sh_eq]
  unfold pShift
  split
  · rename_i h
    rw [h, S_nil]
    refine Ser.ext fun n => ?_
    rw [co_zero]
    show _ = if n < k then 0 else (0 : Ser).co (n - k)
    rw [co_zero]
    split <;> rfl
  · refine Ser.ext fun n => ?_
    show (List.replicate k 0 ++ a).getD n 0 = if n < k then 0 else a.getD (n - k) 0
    rw [List.getD_eq_getElem?_getD, List.getElem?_append, List.length_replicate]
    split
    · rename_i h
      rw [List.getElem?_replicate, if_pos h]
      rfl
    · rw [List.getD_eq_getElem?_getD]
theorem pAdd_trm (a b : List Int) : Trm (pAdd a b) := trim_trm _
theorem pScale_trm (a : List Int) (c : Int) : Trm (pScale a c) := trim_trm _
theorem pSub_trm (a b : List Int) : Trm (pSub a b) := trim_trm _
theorem pMul_trm {a b : List Int} (ha : Trm a) (hb : Trm b) : Trm (pMul a b) := by
  unfold pMul
  split
  · exact Trm.nil
  · rename_i h
    have hal : 0 < a.length := Nat.pos_of_ne_zero fun z => h (.inl (List.length_eq_zero_iff.mp z))
    have hbl : 0 < b.length := Nat.pos_of_ne_zero fun z => h (.inr (List.length_eq_zero_iff.mp z))
    intro n hn
    rw [List.length_map, List.length_range] at hn
    rw [List.getD_eq_getElem?_getD, List.getElem?_map, List.getElem?_range (by omega)]
    show (S a * S b).co n ≠ 0
    have q := (mul_top (d := a.length - 1) (e := b.length - 1) ((S_dg a).mono (by omega)) ((S_dg b).mono (by omega))).2
    rw [show n = (a.length - 1) + (b.length - 1) by omega, q]
    exact Int.mul_ne_zero (ha _ (by omega)) (hb _ (by omega))
theorem pMul_len (a b : List Int) : (pMul a b).length ≤ a.length + b.length - 1 := by
  unfold pMul
  split
  · exact Nat.zero_le _
  · rw [List.length_map, List.length_range]
    exact Nat.le_refl _
theorem pMul_ne {a b : List Int} (ha : a ≠ []) (hb : b ≠ []) : pMul a b ≠ [] := by
  unfold pMul
  rw [if_neg (fun z => z.elim ha hb)]
  intro z
  have e := congrArg List.length z
  rw [List.length_map, List.length_range] at e
  have h1 : 0 < a.length := Nat.pos_of_ne_zero fun z => ha (List.length_eq_zero_iff.mp z)
  have h2 : 0 < b.length := Nat.pos_of_ne_zero fun z => hb (List.length_eq_zero_iff.mp z)
  have e' : a.length + b.length - 1 = 0 := e
  omega
theorem pAdd_len (a b : List Int) : (pAdd a b).length ≤ max a.length b.length := by
  refine Nat.le_trans (trim_len _) ?_
  rw [List.length_map, List.length_range]
  exact Nat.le_refl _
theorem pScale_len (a : List Int) (c : Int) : (pScale a c).length ≤ a.length := by
  refine Nat.le_trans (trim_len _) ?_
  rw [List.length_map]
  exact Nat.le_refl _
theorem pShift_len (a : List Int) (k : Nat) : (pShift a k).length ≤ k + a.length := by
  unfold pShift
  split
  · exact Nat.zero_le _
  · rw [List.length_append, List.length_replicate]
    exact Nat.le_refl _
theorem pSub_len (a b : List Int) : (pSub a b).length ≤ max a.length b.length := by
  have h1 := pAdd_len a (pScale b (-1))
  have h2 := pScale_len b (-1)
  unfold pSub
  omega
/-! sizes of these -/
theorem bd_add {x y : Int} {m n : Nat} (hx : x.natAbs < 2 ^ m) (hy : y.natAbs < 2 ^ n) : (x + y).natAbs < 2 ^ (max m n + 1) := by
  have h1 : 2 ^ m ≤ 2 ^ (max m n) := Nat.pow_le_pow_right (by decide) (by omega)
  have h2 : 2 ^ n ≤ 2 ^ (max m n) := Nat.pow_le_pow_right (by decide) (by omega)
  have h3 := Nat.pow_succ 2 (max m n)
  omega
theorem bd_mul {x y : Int} {m n : Nat} (hx : x.natAbs < 2 ^ m) (hy : y.natAbs < 2 ^ n) : (x * y).natAbs < 2 ^ (m + n) := by
  rw [Int.natAbs_mul, Nat.pow_add]
  exact Nat.mul_lt_mul'' hx hy
theorem Bd.pAdd {m n : Nat} {a b : List Int} (ha : Bd m a) (hb : Bd n b) : Bd (max m n + 1) (pAdd a b) := fun k => by
  have e : (FF.pAdd a b).getD k 0 = a.getD k 0 + b.getD k 0 := congrArg (fun f => f.co k) (S_pAdd a b)
  rw [e]
  exact bd_add (ha k) (hb k)
theorem Bd.pScale {m n : Nat} {a : List Int} {c : Int} (ha : Bd m a) (hc : c.natAbs < 2 ^ n) : Bd (m + n) (pScale a c) := fun k => by
  have e : (FF.pScale a c).getD k 0 = c * a.getD k 0 := (congrArg (fun f => f.co k) (S_pScale a c)).trans (co_Cmul _ _ _)
  rw [e, Int.mul_comm]
  exact bd_mul (ha k) hc
theorem Bd.pSub {m n : Nat} {a b : List Int} (ha : Bd m a) (hb : Bd n b) : Bd (max m n + 1) (pSub a b) := fun k => by
  have e : (FF.pSub a b).getD k 0 = a.getD k 0 - b.getD k 0 := congrArg (fun f => f.co k) (S_pSub a b)
  rw [e, Int.sub_eq_add_neg]
  exact bd_add (ha k) (by rw [Int.natAbs_neg]; exact hb k)
theorem Bd.pShift {m : Nat} {a : List Int} (ha : Bd m a) (k : Nat) : Bd m (pShift a k) := fun n => by
  have e : (FF.pShift a k).getD n 0 = if n < k then 0 else a.getD (n - k) 0 := congrArg (fun f => f.co n) ((S_pShift a k).trans (sh_eq k _).symm)
  rw [e]
  split
  · exact pow_pos2 m
  · exact ha _
end FF

/-! Fc: contents, plain forms, Gauss, the false rest, the greatest common divisor. -/
namespace FF
open Ser
/-! ### primes -/
def Pr (p : Nat) : Prop := 2 ≤ p ∧ ∀ d, d ∣ p → d = 1 ∨ d = p
theorem exists_pr : ∀ (n : Nat), 2 ≤ n → ∃ p, Pr p ∧ p ∣ n := by
  intro n
  induction n using Nat.strongRecOn with
  | ind n ih =>
    intro h
    by_cases q : Pr n
    · exact ⟨n, q, Nat.dvd_refl n⟩
    · have : ∃ d, d ∣ n ∧ d ≠ 1 ∧ d ≠ n := Classical.byContradiction fun z => q ⟨h, fun d hd => Classical.byContradiction fun y => z ⟨d, hd, fun a => y (.inl a), fun a => y (.inr a)⟩⟩
      obtain ⟨d, h1, h2, h3⟩ := this
      have hle := Nat.le_of_dvd (by omega) h1
      have h0 : d ≠ 0 := fun z => by
        rw [z] at h1
        have := Nat.eq_zero_of_zero_dvd h1
        omega
      obtain ⟨p, hp, hd⟩ := ih d (by omega) (by omega)
      exact ⟨p, hp, Nat.dvd_trans hd h1⟩
theorem Pr.mul {p : Nat} (hp : Pr p) {a b : Int} (h : (p : Int) ∣ a * b) : (p : Int) ∣ a ∨ (p : Int) ∣ b := by
  have h' : p ∣ a.natAbs * b.natAbs := by
    have := Int.natAbs_dvd_natAbs.mpr h
    rwa [Int.natAbs_natCast, Int.natAbs_mul] at this
  rcases hp.2 (Nat.gcd p a.natAbs) (Nat.gcd_dvd_left _ _) with e | e
  · refine .inr (Int.ofNat_dvd_left.mpr ?_)
    exact Nat.Coprime.dvd_of_dvd_mul_left e h'
  · refine .inl (Int.ofNat_dvd_left.mpr ?_)
    rw [← e]
    exact Nat.gcd_dvd_right _ _
/-- c divides all coefficients -/
def Dv (c : Int) (f : Ser) : Prop := ∀ n, c ∣ f.co n
theorem Dv.C_mul (c : Int) (f : Ser) : Dv c (C c * f) := fun n => by
  rw [co_Cmul]
  exact Int.dvd_mul_right _ _
theorem Dv.split {c : Int} {f : Ser} (h : Dv c f) : ∃ g, f = C c * g := by
  refine ⟨⟨fun n => f.co n / c⟩, Ser.ext fun n => ?_⟩
  rw [co_Cmul]
  exact (Int.mul_ediv_cancel' (h n)).symm
theorem Dv.mul {c : Int} {f g : Ser} (h : Dv c g) : Dv c (f * g) := by
  obtain ⟨k, rfl⟩ := h.split
  have e : f * (C c * k) = C c * (f * k) := by grind
  rw [e]
  exact Dv.C_mul _ _
theorem Pr.ser0 {p : Nat} (hp : Pr p) {f : Ser} (h0 : ¬ (p : Int) ∣ f.co 0) (n : Nat) : ∀ g, Dv p (f * g) → (p : Int) ∣ g.co n := by
  induction n with
  | zero =>
    intro g h
    exact (hp.mul (h 0)).resolve_left h0
  | succ n ih =>
    intro g h
    have g0 : (p : Int) ∣ g.co 0 := (hp.mul (h 0)).resolve_left h0
    refine ih g.tl fun k => ?_
    have e := h (k + 1)
    rw [mulS'] at e
    exact (Int.dvd_add_right (Int.dvd_trans g0 (Int.dvd_mul_left _ _))).mp e
theorem Pr.ser {p : Nat} (hp : Pr p) {f g : Ser} (h : Dv p (f * g)) : Dv p f ∨ Dv p g := by
  by_cases q : Dv p f
  · exact .inl q
  · right
    obtain ⟨n, hn⟩ : ∃ n, ¬ (p : Int) ∣ f.co n := Classical.byContradiction fun z => q fun n => Classical.byContradiction fun y => z ⟨n, y⟩
    clear q
    induction n generalizing f with
    | zero => exact fun n => hp.ser0 hn n g h
    | succ n ih =>
      by_cases h0 : (p : Int) ∣ f.co 0
      · refine ih (f := f.tl) (fun k => ?_) hn
        have e := h (k + 1)
        rw [co_mulS] at e
        exact (Int.dvd_add_right (Int.dvd_trans h0 (Int.dvd_mul_right _ _))).mp e
      · exact fun n => hp.ser0 h0 n g h
/-! ### contents -/
def pCon (a : List Int) : Nat := a.foldl (fun g x => Nat.gcd g x.natAbs) 0
theorem con_fold_dvd (a : List Int) : ∀ g : Nat, a.foldl (fun g x => Nat.gcd g x.natAbs) g ∣ g ∧ ∀ x ∈ a, a.foldl (fun g x => Nat.gcd g x.natAbs) g ∣ x.natAbs := by
  induction a with
  | nil => intro g; exact ⟨Nat.dvd_refl _, fun _ h => (nomatch h)⟩
  | cons y r ih =>
    intro g
    obtain ⟨h1, h2⟩ := ih (Nat.gcd g y.natAbs)
    refine ⟨Nat.dvd_trans h1 (Nat.gcd_dvd_left _ _), fun x hx => ?_⟩
    rcases List.mem_cons.mp hx with rfl | hx
    · exact Nat.dvd_trans h1 (Nat.gcd_dvd_right _ _)
    · exact h2 x hx
theorem dvd_con_fold {d : Nat} (a : List Int) : ∀ g : Nat, d ∣ g → (∀ x ∈ a, d ∣ x.natAbs) → d ∣ a.foldl (fun g x => Nat.gcd g x.natAbs) g := by
  induction a with
  | nil => intro g h _; exact h
  | cons y r ih =>
    intro g h h2
    exact ih _ (Nat.dvd_gcd h (h2 y List.mem_cons_self)) fun x hx => h2 x (List.mem_cons_of_mem _ hx)
theorem mem_co {a : List Int} {x : Int} (h : x ∈ a) : ∃ n, (S a).co n = x := by
  obtain ⟨i, hi, e⟩ := List.getElem_of_mem h
  refine ⟨i, ?_⟩
  rw [S_co, List.getD_eq_getElem?_getD, List.getElem?_eq_getElem hi]
  exact e
theorem co_mem (a : List Int) (n : Nat) : (S a).co n ∈ a ∨ (S a).co n = 0 := by
  rw [S_co, List.getD_eq_getElem?_getD]
  cases e : a[n]? with
  | none => exact .inr rfl
  | some x => exact .inl (List.mem_of_getElem? e)
theorem pCon_dv (a : List Int) : Dv (pCon a) (S a) := fun n => by
  rcases co_mem a n with h | h
  · exact Int.ofNat_dvd_left.mpr ((con_fold_dvd a 0).2 _ h)
  · rw [h]
    exact Int.dvd_zero _
theorem dv_pCon {d : Nat} {a : List Int} (h : Dv d (S a)) : d ∣ pCon a := dvd_con_fold a 0 (Nat.dvd_zero _) fun x hx => by
  obtain ⟨n, rfl⟩ := mem_co hx
  exact Int.ofNat_dvd_left.mp (h n)
theorem con_fold_mul (c : Nat) (a : List Int) : ∀ g : Nat, (a.map fun x => (c : Int) * x).foldl (fun g x => Nat.gcd g x.natAbs) (c * g) = c * a.foldl (fun g x => Nat.gcd g x.natAbs) g := by
  induction a with
  | nil => intro g; rfl
  | cons y r ih =>
    intro g
    show (r.map _).foldl _ (Nat.gcd (c * g) ((c : Int) * y).natAbs) = _
    rw [Int.natAbs_mul, Int.natAbs_natCast, Nat.gcd_mul_left, ih]
    rfl
/-- d divides c times a list of content 1: it divides c -/
theorem dv_of_con1 {d : Nat} {c : Int} {a : List Int} (h1 : pCon a = 1) (h : Dv d (C c * S a)) : (d : Int) ∣ c := by
  have e := con_fold_mul c.natAbs a 0
  rw [Nat.mul_zero] at e
  have hd : d ∣ (a.map fun x => (c.natAbs : Int) * x).foldl (fun g x => Nat.gcd g x.natAbs) 0 := dvd_con_fold _ 0 (Nat.dvd_zero _) fun x hx => by
    obtain ⟨y, hy, rfl⟩ := List.mem_map.mp hx
    obtain ⟨n, rfl⟩ := mem_co hy
    have := h n
    rw [co_Cmul] at this
    have := Int.ofNat_dvd_left.mp this
    rw [Int.natAbs_mul] at this
    rwa [Int.natAbs_mul, Int.natAbs_natCast]
  rw [e] at hd
  have e1 : a.foldl (fun g x => Nat.gcd g x.natAbs) 0 = 1 := h1
  rw [e1, Nat.mul_one] at hd
  exact Int.ofNat_dvd_left.mpr hd
theorem pCon_pos {a : List Int} (ha : Trm a) (hn : a ≠ []) : 0 < pCon a := by
  refine Nat.pos_of_ne_zero fun z => ha.ne hn (Ser.ext fun n => ?_)
  have := pCon_dv a n
  rw [z] at this
  rw [co_zero]
  exact Int.zero_dvd.mp this
def lead (a : List Int) : Int := a.getD (a.length - 1) 0
theorem lead_ne {a : List Int} (ha : Trm a) (hn : a ≠ []) : lead a ≠ 0 := ha _ (by
  have : 0 < a.length := Nat.pos_of_ne_zero fun z => hn (List.length_eq_zero_iff.mp z)
  omega)
theorem len_pos {a : List Int} (hn : a ≠ []) : 0 < a.length := Nat.pos_of_ne_zero fun z => hn (List.length_eq_zero_iff.mp z)
/-- the content with the sign of the leading coefficient -/
def sc (a : List Int) : Int := if lead a < 0 then -(pCon a : Int) else (pCon a : Int)
theorem sc_ne {a : List Int} (ha : Trm a) (hn : a ≠ []) : sc a ≠ 0 := by
  have := pCon_pos ha hn
  unfold sc
  split <;> omega
theorem sc_abs (a : List Int) : (sc a).natAbs = pCon a := by
  unfold sc
  split <;> omega
theorem sc_dv (a : List Int) : Dv (sc a) (S a) := fun n => by
  have := pCon_dv a n
  unfold sc
  split
  · exact Int.neg_dvd.mpr this
  · exact this
def pPlain (a : List Int) : List Int := if a = [] then [] else a.map fun x => Int.fdiv x (sc a)
structure Plain (a : List Int) : Prop where
  trm : Trm a
  ne : a ≠ []
  con : pCon a = 1
  pos : 0 < lead a
theorem pPlain_nil : pPlain [] = [] := rfl
theorem pPlain_len (a : List Int) : (pPlain a).length = a.length := by
  unfold pPlain
  split
  · rename_i h
    rw [h]
  · rw [List.length_map]
theorem S_pPlain {a : List Int} (ha : Trm a) : S a = C (sc a) * S (pPlain a) := by
  refine Ser.ext fun n => ?_
  rw [co_Cmul]
  unfold pPlain
  split
  · rename_i h
    rw [h]
    show (S []).co n = _
    rw [S_nil, co_zero, Int.mul_zero]
  · rename_i h
    show a.getD n 0 = sc a * (a.map _).getD n 0
    rw [getD_map0 _ (fun x => x.fdiv (sc a)) (Int.zero_fdiv _)]
    exact (Int.mul_fdiv_cancel' (sc_dv a n)).symm
theorem pPlain_eq_nil {a : List Int} : pPlain a = [] ↔ a = [] := by
  constructor
  · intro h
    have e := pPlain_len a
    rw [h] at e
    exact List.length_eq_zero_iff.mp e.symm
  · rintro rfl
    rfl
theorem pPlain_plain {a : List Int} (ha : Trm a) (hn : a ≠ []) : Plain (pPlain a) := by
  have e := S_pPlain ha
  have hs := sc_ne ha hn
  have hl := pPlain_len a
  have hp := len_pos hn
  have el : lead a = sc a * lead (pPlain a) := by
    unfold lead
    rw [hl]
    have := congrArg (fun f => f.co (a.length - 1)) e
    exact this.trans (co_Cmul _ _ _)
  have l0 := lead_ne ha hn
  refine ⟨fun n h z => ?_, fun z => hn (pPlain_eq_nil.mp z), ?_, ?_⟩
  · rw [hl] at h
    refine ha n h ?_
    have := congrArg (fun f => f.co n) e
    have t : a.getD n 0 = sc a * (pPlain a).getD n 0 := this.trans (co_Cmul _ _ _)
    rw [t, z, Int.mul_zero]
  · have h1 : (pCon (pPlain a) * pCon a) ∣ pCon a := by
      refine dv_pCon fun n => ?_
      have := congrArg (fun f => f.co n) e
      have t : (S a).co n = sc a * (S (pPlain a)).co n := this.trans (co_Cmul _ _ _)
      rw [t, Int.natCast_mul, Int.mul_comm]
      refine Int.mul_dvd_mul ?_ (pCon_dv _ n)
      rw [← sc_abs a]
      exact Int.natAbs_dvd.mpr (Int.dvd_refl _)
    have hpos := pCon_pos ha hn
    have h2 := Nat.le_of_dvd hpos h1
    have h3 : 0 < pCon (pPlain a) := Nat.pos_of_ne_zero fun z => by
      rw [z, Nat.zero_mul] at h1
      have := Nat.eq_zero_of_zero_dvd h1
      omega
    have h4 : pCon (pPlain a) * pCon a ≤ 1 * pCon a := by omega
    have := Nat.le_of_mul_le_mul_right h4 hpos
    omega
  · have hpos := pCon_pos ha hn
    unfold sc at el
    split at el
    · rename_i h
      refine Classical.byContradiction fun z => ?_
      have : 0 ≤ -(pCon a : Int) * lead (pPlain a) := Int.mul_nonneg_of_nonpos_of_nonpos (by omega) (by omega)
      omega
    · rename_i h
      refine Classical.byContradiction fun z => ?_
      have : (pCon a : Int) * lead (pPlain a) ≤ 0 := Int.mul_nonpos_of_nonneg_of_nonpos (by omega) (by omega)
      omega
theorem Plain.sc1 {a : List Int} (h : Plain a) : sc a = 1 := by
  unfold sc
  rw [if_neg (by have := h.pos; omega), h.con]
  rfl
theorem le_mul_abs {c x : Int} (h : c ≠ 0) : x.natAbs ≤ (c * x).natAbs := by
  rw [Int.natAbs_mul]
  exact Nat.le_mul_of_pos_left _ (by omega)
theorem Bd.pPlain {n : Nat} {a : List Int} (ha : Trm a) (h : Bd n a) : Bd n (pPlain a) := fun k => by
  by_cases hn : a = []
  · rw [hn]
    exact pow_pos2 n
  · have t : a.getD k 0 = sc a * (FF.pPlain a).getD k 0 := (congrArg (fun f => f.co k) (S_pPlain ha)).trans (co_Cmul _ _ _)
    have h1 := h k
    rw [t] at h1
    exact Nat.lt_of_le_of_lt (le_mul_abs (sc_ne ha hn)) h1
/-! ### Gauss -/
theorem gauss (k : Nat) : ∀ (m : Int) (g : List Int) (f h : Ser), m.natAbs = k → m ≠ 0 → pCon g = 1 → C m * f = S g * h → Dv m h := by
  induction k using Nat.strongRecOn with
  | ind k ih =>
    intro m g f h hk h0 hg e
    by_cases h1 : k = 1
    · intro n
      have : m = 1 ∨ m = -1 := by omega
      rcases this with rfl | rfl
      · exact Int.one_dvd _
      · exact Int.neg_dvd.mpr (Int.one_dvd _)
    · obtain ⟨p, hp, hd⟩ := exists_pr k (by omega)
      have hpm : (p : Int) ∣ m := Int.ofNat_dvd_left.mpr (by rw [hk]; exact hd)
      obtain ⟨m', rfl⟩ := hpm
      have hp0 : (p : Int) ≠ 0 := by have := hp.1; omega
      have hm0 : m' ≠ 0 := fun z => h0 (by rw [z, Int.mul_zero])
      rw [C_mulC] at e
      have d1 : Dv p (S g * h) := by
        rw [← e, Ser.mul_assoc]
        exact Dv.C_mul _ _
      have d2 : Dv p h := by
        refine (hp.ser d1).resolve_left fun z => ?_
        have := dv_pCon z
        rw [hg] at this
        have := Nat.le_of_dvd (by decide) this
        have := hp.1
        omega
      obtain ⟨h', rfl⟩ := d2.split
      have e2 : C m' * f = S g * h' := by
        refine mul_cancel (C_ne hp0) ?_
        rw [← Ser.mul_assoc, e]
        grind
      have lt : m'.natAbs < k := by
        rw [← hk, Int.natAbs_mul, Int.natAbs_natCast]
        have := hp.1
        have : 0 < m'.natAbs := by omega
        exact Nat.lt_of_lt_of_le (by omega) (Nat.mul_le_mul_right _ hp.1)
      have := ih m'.natAbs lt m' g f h' rfl hm0 hg e2
      intro n
      rw [co_Cmul]
      exact Int.mul_dvd_mul (Int.dvd_refl _) (this n)
theorem gauss' {m : Int} {g : List Int} {f h : Ser} (h0 : m ≠ 0) (hg : pCon g = 1) (e : C m * f = S g * h) : ∃ k, h = C m * k ∧ f = S g * k := by
  obtain ⟨k, rfl⟩ := (gauss _ m g f h rfl h0 hg e).split
  refine ⟨k, rfl, mul_cancel (C_ne h0) ?_⟩
  rw [e]
  grind
theorem pol_of_C {m : Int} {k : Ser} (h0 : m ≠ 0) (h : Pol (C m * k)) : Pol k := by
  obtain ⟨d, hd⟩ := h
  refine ⟨d, fun n q => ?_⟩
  have := hd n q
  rw [co_Cmul] at this
  exact (Int.mul_eq_zero.mp this).resolve_left h0
/-- a polynomial as a trimmed list -/
theorem Pol.list {f : Ser} (h : Pol f) : ∃ a, Trm a ∧ S a = f := by
  obtain ⟨d, hd⟩ := h
  exact ⟨trim ((List.range d).map f.co), trim_trm _, (S_trim _).trans (S_take_full hd)⟩
/-! ### the false rest -/
def restGo (b : List Int) : Nat → List Int → List Int
  | 0, r => r
  | k + 1, r => restGo b k (pSub (pScale r (lead b)) (pShift (pScale b (r.getD (k + b.length - 1) 0)) k))
def pRest (a b : List Int) : List Int := if a.length < b.length then a else restGo b (a.length - b.length + 1) a
theorem restGo_spec {b : List Int} (hb : Trm b) (hn : b ≠ []) (k : Nat) : ∀ r, Trm r → r.length ≤ k + b.length - 1 →
    Trm (restGo b k r) ∧ (restGo b k r).length ≤ b.length - 1 ∧ ∃ (L : Int) (u : Ser), L ≠ 0 ∧ Pol u ∧ C L * S r = u * S b + S (restGo b k r) := by
  have hp := len_pos hn
  induction k with
  | zero =>
    intro r hr hl
    refine ⟨hr, by show r.length ≤ _; omega, 1, 0, by decide, Pol.zero, ?_⟩
    show C 1 * S r = 0 * S b + S r
    rw [C_one]
    grind
  | succ k ih =>
    intro r hr hl
    have e1 : S (pSub (pScale r (lead b)) (pShift (pScale b (r.getD (k + b.length - 1) 0)) k)) = C (lead b) * S r - Xp k * (C (r.getD (k + b.length - 1) 0) * S b) := by
      rw [S_pSub, S_pScale, S_pShift, S_pScale]
    have dg : Dg (k + b.length - 1) (S (pSub (pScale r (lead b)) (pShift (pScale b (r.getD (k + b.length - 1) 0)) k))) := fun n h => by
      rw [e1, ← sh_eq]
      show (C (lead b) * S r).co n - (if n < k then 0 else (C (r.getD (k + b.length - 1) 0) * S b).co (n - k)) = 0
      rw [if_neg (by omega), co_Cmul, co_Cmul]
      by_cases q : n = k + b.length - 1
      · rw [q, show k + b.length - 1 - k = b.length - 1 by omega]
        show lead b * r.getD (k + b.length - 1) 0 - r.getD (k + b.length - 1) 0 * lead b = 0
        rw [Int.mul_comm]
        omega
      · rw [S_dg r n (by omega), S_dg b (n - k) (by omega), Int.mul_zero, Int.mul_zero]
        rfl
    obtain ⟨h1, h2, L, u, h3, h4, h5⟩ := ih _ (pSub_trm _ _) ((pSub_trm _ _).len_le dg)
    refine ⟨h1, h2, L * lead b, u + C L * Xp k * C (r.getD (k + b.length - 1) 0), Int.mul_ne_zero h3 (lead_ne hb hn), h4.add ((Pol.C.mul (Xp_pol k)).mul Pol.C), ?_⟩
    rw [e1] at h5
    show _ = _ + S (restGo b k _)
    rw [C_mulC]
    grind
theorem pRest_spec {a b : List Int} (ha : Trm a) (hb : Trm b) (hn : b ≠ []) :
    Trm (pRest a b) ∧ (pRest a b).length ≤ b.length - 1 ∧ ∃ (L : Int) (u : Ser), L ≠ 0 ∧ Pol u ∧ C L * S a = u * S b + S (pRest a b) := by
  have hp := len_pos hn
  unfold pRest
  split
  · refine ⟨ha, by omega, 1, 0, by decide, Pol.zero, ?_⟩
    rw [C_one]
    grind
  · exact restGo_spec hb hn _ a ha (by omega)
theorem restGo_bd {B : Nat} {b : List Int} (hb : Bd B b) (k : Nat) : ∀ W r, Bd W r → Bd (W + k * (B + 1)) (restGo b k r) := by
  induction k with
  | zero => intro W r h; exact h.mono (by omega)
  | succ k ih =>
    intro W r h
    have h1 : Bd (W + B + 1) (pSub (pScale r (lead b)) (pShift (pScale b (r.getD (k + b.length - 1) 0)) k)) :=
      (Bd.pSub (h.pScale (hb _)) ((hb.pScale (h _)).pShift k)).mono (by omega)
    exact (ih _ _ h1).mono (by rw [Nat.add_mul]; omega)
theorem pRest_bd {B W : Nat} {a b : List Int} (ha : Bd W a) (hb : Bd B b) : Bd (W + (a.length - b.length + 1) * (B + 1)) (pRest a b) := by
  unfold pRest
  split
  · exact ha.mono (by omega)
  · exact restGo_bd hb _ _ _ ha
/-! ### the greatest common divisor -/
def gcdL : Nat → List Int → List Int → List Int
  | 0, a, _ => a
  | n + 1, a, b => if b = [] then a else gcdL n b (pPlain (pRest a b))
/-- plain, or nought -/
def Pn (a : List Int) : Prop := a = [] ∨ Plain a
theorem Pn.trm {a : List Int} (h : Pn a) : Trm a := by
  rcases h with rfl | h
  · exact Trm.nil
  · exact h.trm
theorem pPlain_pn {a : List Int} (ha : Trm a) : Pn (pPlain a) := by
  by_cases h : a = []
  · rw [h]
    exact .inl rfl
  · exact .inr (pPlain_plain ha h)
structure GcdOk (g a b : List Int) : Prop where
  da : ∃ (m : Int) (u : Ser), m ≠ 0 ∧ Pol u ∧ C m * S a = S g * u
  db : ∃ (m : Int) (u : Ser), m ≠ 0 ∧ Pol u ∧ C m * S b = S g * u
  bz : ∃ (c : Int) (s t : Ser), c ≠ 0 ∧ Pol s ∧ Pol t ∧ C c * S g = s * S a + t * S b
theorem gcdL_ok (n : Nat) : ∀ a b, b.length < n → Pn a → Pn b → (a ≠ [] ∨ b ≠ []) → Plain (gcdL n a b) ∧ GcdOk (gcdL n a b) a b := by
  induction n with
  | zero => intro a b h; omega
  | succ n ih =>
    intro a b hl ha hb hn
    show Plain (if b = [] then a else gcdL n b (pPlain (pRest a b))) ∧ GcdOk (if b = [] then a else gcdL n b (pPlain (pRest a b))) a b
    by_cases q : b = []
    · rw [if_pos q]
      have a0 : a ≠ [] := hn.resolve_right fun z => z q
      refine ⟨ha.resolve_left a0, ⟨1, 1, by decide, Pol.one, ?_⟩, ⟨1, 0, by decide, Pol.zero, ?_⟩, 1, 1, 0, by decide, Pol.one, Pol.zero, ?_⟩
      · rw [C_one]; grind
      · rw [C_one, q, S_nil]; grind
      · rw [C_one]; grind
    · rw [if_neg q]
      obtain ⟨r1, r2, L, v, hL, hv, e⟩ := pRest_spec ha.trm hb.trm q
      have hp := len_pos q
      obtain ⟨g1, ⟨m1, u1, m1n, p1, e1⟩, ⟨m2, u2, m2n, p2, e2⟩, ⟨c, s, t, cn, ps, pt, e3⟩⟩ := ih b (pPlain (pRest a b)) (by rw [pPlain_len]; omega) hb (pPlain_pn r1) (.inl q)
      -- the rest is k times its plain form
      obtain ⟨k, k0, ek⟩ : ∃ k : Int, k ≠ 0 ∧ S (pRest a b) = C k * S (pPlain (pRest a b)) := by
        by_cases z : pRest a b = []
        · refine ⟨1, by decide, ?_⟩
          rw [z, pPlain_nil, S_nil]
          grind
        · exact ⟨_, sc_ne r1 z, S_pPlain r1⟩
      rw [ek] at e
      refine ⟨g1, ⟨m1 * m2 * L, C m2 * v * u1 + C m1 * C k * u2, Int.mul_ne_zero (Int.mul_ne_zero m1n m2n) hL, ((Pol.C.mul hv).mul p1).add ((Pol.C.mul Pol.C).mul p2), ?_⟩, ⟨m1, u1, m1n, p1, e1⟩, c * k, t * C L, C k * s - t * v, Int.mul_ne_zero cn k0, pt.mul Pol.C, (Pol.C.mul ps).sub (pt.mul hv), ?_⟩
      · rw [C_mulC, C_mulC]
        generalize S (gcdL n b (pPlain (pRest a b))) = G at *
        generalize S (pPlain (pRest a b)) = R at *
        generalize S a = Aa at *
        generalize S b = Bb at *
        have h1 : C m1 * C m2 * C L * Aa = C m2 * v * (C m1 * Bb) + C m1 * C k * (C m2 * R) := by grind
        rw [h1, e1, e2]
        grind
      · rw [C_mulC]
        generalize S (gcdL n b (pPlain (pRest a b))) = G at *
        generalize S (pPlain (pRest a b)) = R at *
        generalize S a = Aa at *
        generalize S b = Bb at *
        have h1 : C c * C k * G = C k * (s * Bb + t * R) := by rw [← e3]; grind
        have h2 : C k * R = C L * Aa - v * Bb := by rw [e]; grind
        have h3 : C k * (s * Bb + t * R) = C k * s * Bb + t * (C k * R) := by grind
        rw [h1, h3, h2]
        grind
def pGcd (a b : List Int) : List Int := gcdL (b.length + 1) (pPlain a) (pPlain b)
end FF

/-! Fd: fractions: what is canonical, that there is one, the laws of the field. -/
namespace FF
open Ser
structure Canon (P Q : List Int) : Prop where
  tp : Trm P
  tq : Trm Q
  nq : Q ≠ []
  pos : 0 < lead Q
  con : ∀ d : Nat, Dv d (S P) → Dv d (S Q) → d = 1
  bz : ∃ (c : Int) (s t : Ser), c ≠ 0 ∧ Pol s ∧ Pol t ∧ s * S P + t * S Q = C c
theorem Canon.ne {P Q : List Int} (h : Canon P Q) : S Q ≠ 0 := h.tq.ne h.nq
theorem dv_list {d : Nat} {e : Int} {f : Ser} (h : ∀ n, (d : Int) ∣ e * f.co n) : Dv d (C e * f) := fun n => by
  rw [co_Cmul]
  exact h n
/-- d divides e times all coefficients of two lists whose joint content is 1: it divides e -/
theorem dv_joint {P Q : List Int} (hc : ∀ d : Nat, Dv d (S P) → Dv d (S Q) → d = 1) {d e : Int} (h1 : Dv d (C e * S P)) (h2 : Dv d (C e * S Q)) : d ∣ e := by
  have key : pCon (P ++ Q) = 1 := by
    refine hc _ (fun n => ?_) fun n => ?_
    · rcases co_mem P n with h | h
      · exact Int.ofNat_dvd_left.mpr ((con_fold_dvd (P ++ Q) 0).2 _ (List.mem_append_left _ h))
      · rw [h]
        exact Int.dvd_zero _
    · rcases co_mem Q n with h | h
      · exact Int.ofNat_dvd_left.mpr ((con_fold_dvd (P ++ Q) 0).2 _ (List.mem_append_right _ h))
      · rw [h]
        exact Int.dvd_zero _
  have : (d.natAbs : Int) ∣ e := by
    refine dv_of_con1 key fun n => ?_
    rw [co_Cmul]
    rcases co_mem (P ++ Q) n with h | h
    · rcases List.mem_append.mp h with h | h
      · obtain ⟨k, hk⟩ := mem_co h
        have := h1 k
        rw [co_Cmul, hk] at this
        exact Int.natAbs_dvd.mpr this
      · obtain ⟨k, hk⟩ := mem_co h
        have := h2 k
        rw [co_Cmul, hk] at this
        exact Int.natAbs_dvd.mpr this
    · rw [h, Int.mul_zero]
      exact Int.dvd_zero _
  exact Int.natAbs_dvd.mp this
theorem S_lead {Q : List Int} : (S Q).co (Q.length - 1) = lead Q := rfl
/-- equal fractions in canonical form are equal -/
theorem Canon.uniq {P1 Q1 P2 Q2 : List Int} (a : Canon P1 Q1) (b : Canon P2 Q2) (e : S P1 * S Q2 = S P2 * S Q1) : P1 = P2 ∧ Q1 = Q2 := by
  obtain ⟨c1, s1, t1, n1, ps1, pt1, z1⟩ := a.bz
  obtain ⟨c2, s2, t2, n2, ps2, pt2, z2⟩ := b.bz
  have q1 := a.ne
  have q2 := b.ne
  -- c1 Q2 = Q1 d1, c1 P2 = P1 d1
  have pd1 : Pol (s1 * S P2 + t1 * S Q2) := (ps1.mul (S_pol _)).add (pt1.mul (S_pol _))
  have pd2 : Pol (s2 * S P1 + t2 * S Q1) := (ps2.mul (S_pol _)).add (pt2.mul (S_pol _))
  have e1 : C c1 * S Q2 = S Q1 * (s1 * S P2 + t1 * S Q2) := by rw [← z1]; grind
  have e2 : C c2 * S Q1 = S Q2 * (s2 * S P1 + t2 * S Q1) := by rw [← z2]; grind
  have e3 : C c1 * S P2 = S P1 * (s1 * S P2 + t1 * S Q2) := by
    refine mul_cancel q1 ?_
    have : S Q1 * (C c1 * S P2) = S P1 * (C c1 * S Q2) := by grind
    rw [this, e1]
    grind
  have e4 : (s1 * S P2 + t1 * S Q2) * (s2 * S P1 + t2 * S Q1) = C (c1 * c2) := by
    refine mul_cancel q2 ?_
    rw [C_mulC]
    generalize s1 * S P2 + t1 * S Q2 = d1 at *
    generalize s2 * S P1 + t2 * S Q1 = d2 at *
    have h1 : C c1 * (C c2 * S Q1) = C c1 * (S Q2 * d2) := by rw [e2]
    have h2 : S Q2 * (C c1 * C c2) = C c2 * (C c1 * S Q2) := by grind
    rw [h2, e1]
    have h3 : C c2 * (S Q1 * d1) = (C c2 * S Q1) * d1 := by grind
    rw [h3, e2]
    grind
  obtain ⟨x, hx⟩ := const_of_mul pd1 pd2 (Int.mul_ne_zero n1 n2) e4
  rw [hx] at e1 e3
  have f1 : C c1 * S Q2 = C x * S Q1 := by rw [e1, Ser.mul_comm]
  have f3 : C c1 * S P2 = C x * S P1 := by rw [e3, Ser.mul_comm]
  have dv1 : c1 ∣ x := dv_joint a.con (by rw [← f3]; exact Dv.C_mul _ _) (by rw [← f1]; exact Dv.C_mul _ _)
  have dv2 : x ∣ c1 := dv_joint b.con (by rw [f3]; exact Dv.C_mul _ _) (by rw [f1]; exact Dv.C_mul _ _)
  have hab : c1.natAbs = x.natAbs := Nat.dvd_antisymm (Int.natAbs_dvd_natAbs.mpr dv1) (Int.natAbs_dvd_natAbs.mpr dv2)
  have hs : c1 = x := by
    have : c1 = x ∨ c1 = -x := by omega
    refine this.resolve_right fun z => ?_
    have l1 : Q1.length ≤ Q2.length := a.tq.len_le fun n h => by
      have := congrArg (fun f => f.co n) f1
      have t : c1 * (S Q2).co n = x * (S Q1).co n := (co_Cmul _ _ _).symm.trans (this.trans (co_Cmul _ _ _))
      rw [S_dg Q2 n h, Int.mul_zero] at t
      exact (Int.mul_eq_zero.mp t.symm).resolve_left (by omega)
    have l2 : Q2.length ≤ Q1.length := b.tq.len_le fun n h => by
      have := congrArg (fun f => f.co n) f1
      have t : c1 * (S Q2).co n = x * (S Q1).co n := (co_Cmul _ _ _).symm.trans (this.trans (co_Cmul _ _ _))
      rw [S_dg Q1 n h, Int.mul_zero] at t
      exact (Int.mul_eq_zero.mp t).resolve_left n1
    have := congrArg (fun f => f.co (Q1.length - 1)) f1
    have t : c1 * (S Q2).co (Q1.length - 1) = x * (S Q1).co (Q1.length - 1) := (co_Cmul _ _ _).symm.trans (this.trans (co_Cmul _ _ _))
    rw [S_lead, show Q1.length - 1 = Q2.length - 1 by omega, S_lead, z] at t
    have p1 := a.pos
    have p2 := b.pos
    have t2 : x * (lead Q2 + lead Q1) = 0 := by
      rw [Int.mul_add, ← t, Int.neg_mul]
      omega
    rcases Int.mul_eq_zero.mp t2 with q | q
    · omega
    · omega
  subst hs
  exact ⟨a.tp.ext b.tp (mul_cancel (C_ne n1) f3.symm), a.tq.ext b.tq (mul_cancel (C_ne n1) f1.symm)⟩
/-! ### what the program's fraction gives -/
/-- (P, Q) is the fraction that n by d is -/
structure Rep (P Q : List Int) (n d : Ser) : Prop where
  can : Canon P Q
  ne : d ≠ 0
  eq : S P * d = n * S Q
theorem Rep.uniq {P1 Q1 P2 Q2 : List Int} {n d n' d' : Ser} (a : Rep P1 Q1 n d) (b : Rep P2 Q2 n' d') (h : n * d' = n' * d) : P1 = P2 ∧ Q1 = Q2 := by
  refine a.can.uniq b.can ?_
  refine mul_cancel (mul_ne a.ne b.ne) ?_
  have e1 := a.eq
  have e2 := b.eq
  have h1 : d * d' * (S P1 * S Q2) = (S P1 * d) * d' * S Q2 := by grind
  have h2 : d * d' * (S P2 * S Q1) = (S P2 * d') * d * S Q1 := by grind
  rw [h1, h2, e1, e2]
  grind
theorem Rep.times {P Q : List Int} {n d e : Ser} (a : Rep P Q n d) (h : e ≠ 0) : Rep P Q (n * e) (d * e) :=
  ⟨a.can, mul_ne a.ne h, by have := a.eq; grind⟩
/-- the same value, told otherwise -/
theorem Rep.change {P Q : List Int} {n d n' d' : Ser} (a : Rep P Q n d) (h : d' ≠ 0) (e : n * d' = n' * d) : Rep P Q n' d' := by
  refine ⟨a.can, h, mul_cancel a.ne ?_⟩
  have := a.eq
  have h1 : d * (S P * d') = (S P * d) * d' := by grind
  rw [h1, this]
  grind
theorem Rep.refl {P Q : List Int} (a : Canon P Q) : Rep P Q (S P) (S Q) := ⟨a, a.ne, rfl⟩
theorem Rep.add {P1 Q1 P2 Q2 P Q : List Int} {n d n' d' : Ser} (a : Rep P1 Q1 n d) (b : Rep P2 Q2 n' d') (c : Rep P Q (S P1 * S Q2 + S P2 * S Q1) (S Q1 * S Q2)) : Rep P Q (n * d' + n' * d) (d * d') :=
  c.change (mul_ne a.ne b.ne) (by have := a.eq; have := b.eq; grind)
theorem Rep.sub {P1 Q1 P2 Q2 P Q : List Int} {n d n' d' : Ser} (a : Rep P1 Q1 n d) (b : Rep P2 Q2 n' d') (c : Rep P Q (S P1 * S Q2 - S P2 * S Q1) (S Q1 * S Q2)) : Rep P Q (n * d' - n' * d) (d * d') :=
  c.change (mul_ne a.ne b.ne) (by have := a.eq; have := b.eq; grind)
theorem Rep.mul {P1 Q1 P2 Q2 P Q : List Int} {n d n' d' : Ser} (a : Rep P1 Q1 n d) (b : Rep P2 Q2 n' d') (c : Rep P Q (S P1 * S P2) (S Q1 * S Q2)) : Rep P Q (n * n') (d * d') :=
  c.change (mul_ne a.ne b.ne) (by have := a.eq; have := b.eq; grind)
theorem Rep.num_ne {P Q : List Int} {n d : Ser} (a : Rep P Q n d) (h : P ≠ []) : n ≠ 0 := fun z => by
  have e := a.eq
  rw [z, zero_mul] at e
  rcases mul_eq_zero e with q | q
  · exact h (a.can.tp.nil_of q)
  · exact a.ne q
theorem Rep.quo {P1 Q1 P2 Q2 P Q : List Int} {n d n' d' : Ser} (a : Rep P1 Q1 n d) (b : Rep P2 Q2 n' d') (h : P2 ≠ []) (c : Rep P Q (S P1 * S Q2) (S Q1 * S P2)) : Rep P Q (n * d') (d * n') :=
  c.change (mul_ne a.ne (b.num_ne h)) (by
    have h1 := a.eq
    have h2 := b.eq
    have : S P1 * S Q2 * (d * n') = (S P1 * d) * (n' * S Q2) := by grind
    rw [this, h1, ← h2]
    grind)
theorem canon_zero : Canon [] [1] := by
  refine ⟨Trm.nil, Trm.single (by decide), by simp, by decide, fun d _ h => ?_, 1, 0, 1, by decide, Pol.zero, Pol.one, ?_⟩
  · have := h 0
    have e : (S [1]).co 0 = 1 := rfl
    rw [e] at this
    have := Int.ofNat_dvd_left.mp this
    exact Nat.eq_one_of_dvd_one this
  · rw [S_nil, S_single, C_one]
    grind
theorem canon_one : Canon [1] [1] := by
  refine ⟨Trm.single (by decide), Trm.single (by decide), by simp, by decide, fun d _ h => ?_, 1, 0, 1, by decide, Pol.zero, Pol.one, ?_⟩
  · have := h 0
    have e : (S [1]).co 0 = 1 := rfl
    rw [e] at this
    have := Int.ofNat_dvd_left.mp this
    exact Nat.eq_one_of_dvd_one this
  · rw [S_single, C_one]
    grind
theorem rep_zero {n d : Ser} (h : d ≠ 0) (e : n = 0) : Rep [] [1] n d := ⟨canon_zero, h, by rw [S_nil, e, zero_mul, zero_mul]⟩
/-- the program's number -/
def numN (n d : Int) : Int × Int :=
  let g : Int := (Nat.gcd n.natAbs d.natAbs : Nat)
  if d < 0 then ((-n) / g, (-d) / g) else (n / g, d / g)
theorem numN_spec {x y : Int} (hy : y ≠ 0) : ∃ g : Int, g ≠ 0 ∧ x = g * (numN x y).1 ∧ y = g * (numN x y).2 ∧ 0 < (numN x y).2 ∧ ∀ d : Nat, (d : Int) ∣ (numN x y).1 → (d : Int) ∣ (numN x y).2 → d = 1 := by
  have g0 : 0 < Nat.gcd x.natAbs y.natAbs := Nat.gcd_pos_of_pos_right _ (by omega)
  generalize hg : Nat.gcd x.natAbs y.natAbs = g at *
  have d1 : (g : Int) ∣ x := Int.ofNat_dvd_left.mpr (by rw [← hg]; exact Nat.gcd_dvd_left _ _)
  have d2 : (g : Int) ∣ y := Int.ofNat_dvd_left.mpr (by rw [← hg]; exact Nat.gcd_dvd_right _ _)
  have gcd_max : ∀ (u v : Int), x.natAbs = g * u.natAbs → y.natAbs = g * v.natAbs → ∀ d : Nat, (d : Int) ∣ u → (d : Int) ∣ v → d = 1 := fun u v hu hv d h1 h2 => by
    have e1 : g * d ∣ x.natAbs := by
      rw [hu]
      exact Nat.mul_dvd_mul_left _ (Int.ofNat_dvd_left.mp h1)
    have e2 : g * d ∣ y.natAbs := by
      rw [hv]
      exact Nat.mul_dvd_mul_left _ (Int.ofNat_dvd_left.mp h2)
    have e3 : g * d ∣ g := by
      have := Nat.dvd_gcd e1 e2
      rwa [hg] at this
    have e4 : g * d ∣ g * 1 := by rwa [Nat.mul_one]
    exact Nat.eq_one_of_dvd_one (Nat.dvd_of_mul_dvd_mul_left g0 e4)
  obtain ⟨u, hu⟩ := d1
  obtain ⟨v, hv⟩ := d2
  have gi : (g : Int) ≠ 0 := by omega
  have au : x.natAbs = g * u.natAbs := by rw [hu, Int.natAbs_mul, Int.natAbs_natCast]
  have av : y.natAbs = g * v.natAbs := by rw [hv, Int.natAbs_mul, Int.natAbs_natCast]
  by_cases q : y < 0
  · have e1 : (numN x y).1 = -u := by
      unfold numN
      rw [if_pos q, hg, hu]
      show -(g * u) / (g : Int) = -u
      rw [← Int.mul_neg, Int.mul_ediv_cancel_left _ gi]
    have e2 : (numN x y).2 = -v := by
      unfold numN
      rw [if_pos q, hg, hv]
      show -(g * v) / (g : Int) = -v
      rw [← Int.mul_neg, Int.mul_ediv_cancel_left _ gi]
    rw [e1, e2]
    refine ⟨-(g : Int), by omega, by rw [Int.neg_mul_neg, ← hu], by rw [Int.neg_mul_neg, ← hv], ?_, gcd_max _ _ (by rw [Int.natAbs_neg]; exact au) (by rw [Int.natAbs_neg]; exact av)⟩
    refine Classical.byContradiction fun z => ?_
    have : 0 ≤ (g : Int) * v := Int.mul_nonneg (by omega) (by omega)
    omega
  · have e1 : (numN x y).1 = u := by
      unfold numN
      rw [if_neg q, hg, hu]
      exact Int.mul_ediv_cancel_left _ gi
    have e2 : (numN x y).2 = v := by
      unfold numN
      rw [if_neg q, hg, hv]
      exact Int.mul_ediv_cancel_left _ gi
    rw [e1, e2]
    refine ⟨g, gi, hu, hv, ?_, gcd_max _ _ au av⟩
    refine Classical.byContradiction fun z => ?_
    have : (g : Int) * v ≤ 0 := Int.mul_nonpos_of_nonneg_of_nonpos (by omega) (by omega)
    omega
theorem trm_of_C {a b : List Int} {c : Int} (hc : c ≠ 0) (h : C c * S a = S b) (n : Nat) : b.getD n 0 = 0 ↔ a.getD n 0 = 0 := by
  have t : b.getD n 0 = c * a.getD n 0 := (congrArg (fun f => f.co n) h.symm).trans (co_Cmul _ _ _)
  rw [t]
  exact ⟨fun z => (Int.mul_eq_zero.mp z).resolve_left hc, fun z => by rw [z, Int.mul_zero]⟩
/-- content and sign of a product with a plain polynomial -/
theorem sc_of_mul {p g k : List Int} (hp : Trm p) (hk : Trm k) (hg : Plain g) (hn : k ≠ []) (e : S p = S g * S k) : sc p = sc k := by
  have hc : pCon p = pCon k := by
    refine Nat.dvd_antisymm ?_ ?_
    · have p0 : p ≠ [] := fun z => by
        rw [z, S_nil] at e
        rcases mul_eq_zero e.symm with q | q
        · exact hg.trm.ne hg.ne q
        · exact hk.ne hn q
      obtain ⟨f, hf⟩ := (pCon_dv p).split
      have n0 : (pCon p : Int) ≠ 0 := by have := pCon_pos hp p0; omega
      obtain ⟨k', hk', _⟩ := gauss' n0 hg.con (hf.symm.trans e)
      refine dv_pCon ?_
      rw [hk']
      exact Dv.C_mul _ _
    · refine dv_pCon ?_
      rw [e]
      exact (pCon_dv k).mul
  have hl : lead p = lead g * lead k := by
    have lp := len_pos hg.ne
    have lk := len_pos hn
    have q := mul_top (d := g.length - 1) (e := k.length - 1) ((S_dg g).mono (by omega)) ((S_dg k).mono (by omega))
    have hne : (S g * S k).co (g.length - 1 + (k.length - 1)) ≠ 0 := by
      rw [q.2]
      exact Int.mul_ne_zero (lead_ne hg.trm hg.ne) (lead_ne hk hn)
    have l1 : p.length = g.length - 1 + (k.length - 1) + 1 := by
      refine Nat.le_antisymm (hp.len_le (by rw [e]; exact q.1)) ?_
      refine Classical.byContradiction fun z => hne ?_
      rw [← e]
      exact S_dg p _ (by omega)
    unfold lead
    rw [l1]
    exact (congrArg (fun f => f.co (g.length - 1 + (k.length - 1))) e).trans q.2
  have hpos := hg.pos
  unfold sc
  rw [hc, hl]
  by_cases q : lead k < 0
  · rw [if_pos q, if_pos (Int.mul_neg_of_pos_of_neg hpos q)]
  · rw [if_neg q, if_neg (by
      have : 0 ≤ lead g * lead k := Int.mul_nonneg (by omega) (by omega)
      omega)]
theorem frac_ok {p q g kp kq : List Int} (hp : Trm p) (hq : Trm q) (np : p ≠ []) (nq : q ≠ []) (hg : Plain g) (tk : Trm kp) (tl : Trm kq) (ep : S p = S g * S kp) (eq : S q = S g * S kq)
    (bz : ∃ (c : Int) (s t : Ser), c ≠ 0 ∧ Pol s ∧ Pol t ∧ C c * S g = s * S p + t * S q) :
    Rep (pScale (pPlain kp) (numN (sc p) (sc q)).1) (pScale (pPlain kq) (numN (sc p) (sc q)).2) (S p) (S q) := by
  have nk : kp ≠ [] := fun z => by
    rw [z, S_nil] at ep
    refine hp.ne np ?_
    rw [ep]; grind
  have nl : kq ≠ [] := fun z => by
    rw [z, S_nil] at eq
    refine hq.ne nq ?_
    rw [eq]; grind
  have s1 : sc p = sc kp := sc_of_mul hp tk hg nk ep
  have s2 : sc q = sc kq := sc_of_mul hq tl hg nl eq
  obtain ⟨x, x0, hx, hy, pos, cop⟩ := numN_spec (x := sc p) (y := sc q) (sc_ne hq nq)
  generalize numN (sc p) (sc q) = t at *
  have pk := pPlain_plain tk nk
  have pl := pPlain_plain tl nl
  have e1 : S (pScale (pPlain kp) t.1) = C t.1 * S (pPlain kp) := S_pScale _ _
  have e2 : S (pScale (pPlain kq) t.2) = C t.2 * S (pPlain kq) := S_pScale _ _
  have f1 : S kp = C x * S (pScale (pPlain kp) t.1) := by
    rw [e1, ← Ser.mul_assoc, ← C_mulC, ← hx, s1]
    exact S_pPlain tk
  have f2 : S kq = C x * S (pScale (pPlain kq) t.2) := by
    rw [e2, ← Ser.mul_assoc, ← C_mulC, ← hy, s2]
    exact S_pPlain tl
  have l2 : (pScale (pPlain kq) t.2).length = (pPlain kq).length := by
    refine Nat.le_antisymm (pScale_len _ _) ?_
    exact pl.trm.len_le fun n h => (trm_of_C (a := pPlain kq) (b := pScale (pPlain kq) t.2) (by omega) e2.symm n).mp (S_dg _ n h)
  refine ⟨⟨pScale_trm _ _, pScale_trm _ _, fun z => ?_, ?_, fun d h1 h2 => ?_, ?_⟩, hq.ne nq, ?_⟩
  · have := congrArg List.length z
    rw [l2] at this
    exact pl.ne (List.length_eq_zero_iff.mp this)
  · have h : lead (pScale (pPlain kq) t.2) = t.2 * lead (pPlain kq) := by
      unfold lead
      rw [l2]
      exact (congrArg (fun f => f.co ((pPlain kq).length - 1)) e2).trans (co_Cmul _ _ _)
    rw [h]
    exact Int.mul_pos pos pl.pos
  · rw [e1] at h1
    rw [e2] at h2
    exact cop d (dv_of_con1 pk.con h1) (dv_of_con1 pl.con h2)
  · obtain ⟨c, s, u, c0, ps, pu, ez⟩ := bz
    refine ⟨c, C x * s, C x * u, c0, Pol.C.mul ps, Pol.C.mul pu, mul_cancel (hg.trm.ne hg.ne) ?_⟩
    rw [ep, eq, f1, f2] at ez
    grind
  · rw [ep, eq, f1, f2]
    grind
/-- what is in canonical form divides every other form -/
theorem Rep.divides {P Q p q : List Int} (hp : Trm p) (hq : Trm q) (nq : q ≠ []) (r : Rep P Q (S p) (S q)) : ∃ u, Trm u ∧ S p = S P * S u ∧ S q = S Q * S u := by
  obtain ⟨c, s, t, c0, ps, pt, z⟩ := r.can.bz
  have e := r.eq
  have e2 : C c * S q = S Q * (s * S p + t * S q) := by rw [← z]; grind
  have e1 : C c * S p = S P * (s * S p + t * S q) := by
    refine mul_cancel r.can.ne ?_
    have h : S Q * (C c * S p) = C c * (S p * S Q) := by grind
    rw [h, ← e]
    have h2 : C c * (S P * S q) = S P * (C c * S q) := by grind
    rw [h2, e2]
    grind
  have pw : Pol (s * S p + t * S q) := (ps.mul (S_pol _)).add (pt.mul (S_pol _))
  generalize s * S p + t * S q = w at *
  -- c divides w: over the list P ++ Q of content 1 by primes
  have key : ∀ (k : Nat) (m : Int) (f h v : Ser), m.natAbs = k → m ≠ 0 → C m * f = S P * v → C m * h = S Q * v → Dv m v := by
    intro k
    induction k using Nat.strongRecOn with
    | ind k ih =>
      intro m f h v hk h0 a1 a2
      by_cases h1 : k = 1
      · intro n
        have : m = 1 ∨ m = -1 := by omega
        rcases this with rfl | rfl
        · exact Int.one_dvd _
        · exact Int.neg_dvd.mpr (Int.one_dvd _)
      · obtain ⟨l, hl, hd⟩ := exists_pr k (by omega)
        have hlm : (l : Int) ∣ m := Int.ofNat_dvd_left.mpr (by rw [hk]; exact hd)
        obtain ⟨m', rfl⟩ := hlm
        have l0 : (l : Int) ≠ 0 := by have := hl.1; omega
        have m0 : m' ≠ 0 := fun z => h0 (by rw [z, Int.mul_zero])
        rw [C_mulC] at a1 a2
        have d2 : Dv l v := by
          refine Classical.byContradiction fun y => ?_
          have x1 : Dv l (S P) := (hl.ser (by rw [← a1, Ser.mul_assoc]; exact Dv.C_mul _ _)).resolve_right y
          have x2 : Dv l (S Q) := (hl.ser (by rw [← a2, Ser.mul_assoc]; exact Dv.C_mul _ _)).resolve_right y
          have := r.can.con l x1 x2
          have := hl.1
          omega
        obtain ⟨v', rfl⟩ := d2.split
        have b1 : C m' * f = S P * v' := mul_cancel (C_ne l0) (by rw [← Ser.mul_assoc, a1]; grind)
        have b2 : C m' * h = S Q * v' := mul_cancel (C_ne l0) (by rw [← Ser.mul_assoc, a2]; grind)
        have lt : m'.natAbs < k := by
          rw [← hk, Int.natAbs_mul, Int.natAbs_natCast]
          have := hl.1
          have : 0 < m'.natAbs := by omega
          exact Nat.lt_of_lt_of_le (by omega) (Nat.mul_le_mul_right _ hl.1)
        have := ih m'.natAbs lt m' f h v' rfl m0 b1 b2
        intro n
        rw [co_Cmul]
        exact Int.mul_dvd_mul (Int.dvd_refl _) (this n)
  obtain ⟨k, rfl⟩ := (key _ c (S p) (S q) w rfl c0 e1 e2).split
  obtain ⟨u, tu, hu⟩ := (pol_of_C c0 pw).list
  refine ⟨u, tu, mul_cancel (C_ne c0) ?_, mul_cancel (C_ne c0) ?_⟩
  · rw [e1, hu]; grind
  · rw [e2, hu]; grind
end FF

/-! Fe: how large a divisor's coefficients can be (values at small places). -/
namespace FF
open Ser
def X1 : Ser := ⟨fun n => if n = 1 then 1 else 0⟩
theorem X1_mul0 (f : Ser) : (X1 * f).co 0 = 0 := by
  rw [co_mul0]
  exact Int.zero_mul _
theorem X1_tl : X1.tl = 1 := Ser.ext fun n => by
  show (if n + 1 = 1 then 1 else 0) = if n = 0 then ((1 : Nat) : Int) else 0
  by_cases h : n = 0
  · rw [h]; rfl
  · rw [if_neg h, if_neg (by omega)]
theorem X1_mulS (f : Ser) (n : Nat) : (X1 * f).co (n + 1) = f.co n := by
  rw [co_mulS, X1_tl, Ser.one_mul]
  show 0 * _ + _ = _
  rw [Int.zero_mul, Int.zero_add]
theorem tl_split (f : Ser) : f = C (f.co 0) + X1 * f.tl := Ser.ext fun n => by
  cases n with
  | zero => rw [co_add, X1_mul0]; exact (Int.add_zero _).symm
  | succ n => rw [co_add, X1_mulS]; exact (Int.zero_add _).symm
/-- the value at x of a polynomial that vanishes from d on -/
def ev (x : Int) : Nat → Ser → Int
  | 0, _ => 0
  | d + 1, f => f.co 0 + x * ev x d f.tl
theorem ev_zero (x : Int) (d : Nat) : ev x d 0 = 0 := by
  induction d with
  | zero => rfl
  | succ d ih =>
    show (0 : Ser).co 0 + x * ev x d (0 : Ser).tl = 0
    have e : (0 : Ser).tl = 0 := Ser.ext fun n => (co_zero (n + 1)).trans (co_zero n).symm
    rw [e, ih, co_zero, Int.mul_zero]
    rfl
theorem ev_add (x : Int) (d : Nat) : ∀ f g, ev x d (f + g) = ev x d f + ev x d g := by
  induction d with
  | zero => intro f g; rfl
  | succ d ih =>
    intro f g
    show (f + g).co 0 + x * ev x d (f + g).tl = (f.co 0 + x * ev x d f.tl) + (g.co 0 + x * ev x d g.tl)
    rw [show (f + g).tl = f.tl + g.tl from rfl, ih, co_add, Int.mul_add]
    omega
theorem ev_sm (x c : Int) (d : Nat) : ∀ f, ev x d (sm c f) = c * ev x d f := by
  induction d with
  | zero => intro f; exact (Int.mul_zero _).symm
  | succ d ih =>
    intro f
    show c * f.co 0 + x * ev x d (sm c f).tl = c * (f.co 0 + x * ev x d f.tl)
    rw [show (sm c f).tl = sm c f.tl from rfl, ih, Int.mul_add, Int.mul_left_comm]
theorem ev_more (x : Int) (d : Nat) : ∀ e f, Dg d f → d ≤ e → ev x e f = ev x d f := by
  induction d with
  | zero =>
    intro e f h _
    rw [h.z]
    exact ev_zero x e
  | succ d ih =>
    intro e f h l
    obtain ⟨e, rfl⟩ : ∃ k, e = k + 1 := ⟨e - 1, by omega⟩
    show f.co 0 + x * ev x e f.tl = f.co 0 + x * ev x d f.tl
    rw [ih e f.tl h.tl (by omega)]
theorem ev_mul (x : Int) (e : Nat) (g : Ser) (hg : Dg e g) (d : Nat) : ∀ f, Dg d f → ev x (d + e) (f * g) = ev x d f * ev x e g := by
  induction d with
  | zero =>
    intro f h
    rw [h.z, zero_mul, ev_zero]
    exact (Int.zero_mul _).symm
  | succ d ih =>
    intro f h
    have et : (f * g).tl = sm (f.co 0) g.tl + f.tl * g := Ser.ext fun k => co_mulS f g k
    rw [show d + 1 + e = (d + e) + 1 by omega]
    show (f * g).co 0 + x * ev x (d + e) (f * g).tl = (f.co 0 + x * ev x d f.tl) * ev x e g
    rw [et, ev_add, ev_sm, ih f.tl h.tl, co_mul0]
    have eg : ev x e g = g.co 0 + x * ev x (d + e) g.tl := by
      rw [← ev_more x e (d + e + 1) g hg (by omega)]
      rfl
    have h1 : f.co 0 * ev x e g = f.co 0 * g.co 0 + x * (f.co 0 * ev x (d + e) g.tl) := by
      rw [eg, Int.mul_add, Int.mul_left_comm]
    rw [Int.add_mul, h1, Int.mul_add, Int.mul_assoc]
    omega
/-- f less its value at a is divided by x - a -/
theorem synth (a : Int) (d : Nat) : ∀ f, Dg (d + 1) f → ∃ q, Dg d q ∧ f = C (ev a (d + 1) f) + (X1 - C a) * q := by
  induction d with
  | zero =>
    intro f h
    refine ⟨0, Dg.zero, ?_⟩
    have e : ev a 1 f = f.co 0 := by
      show f.co 0 + a * 0 = _
      rw [Int.mul_zero, Int.add_zero]
    rw [e]
    have h2 := tl_split f
    rw [h.tl.z] at h2
    rw [h2]
    have h3 : (C (f.co 0) + X1 * 0).co 0 = f.co 0 := by rw [co_add, X1_mul0]; exact Int.add_zero _
    rw [h3]
    grind
  | succ d ih =>
    intro f h
    obtain ⟨q, hq, e⟩ := ih f.tl h.tl
    refine ⟨C (ev a (d + 1) f.tl) + X1 * q, fun n hn => ?_, ?_⟩
    · rw [co_add, co_C, if_neg (by omega)]
      obtain ⟨m, rfl⟩ : ∃ m, n = m + 1 := ⟨n - 1, by omega⟩
      rw [X1_mulS, hq m (by omega)]
      rfl
    · have h2 := tl_split f
      have h3 : C (ev a (d + 2) f) = C (f.co 0) + C a * C (ev a (d + 1) f.tl) := by
        rw [← C_mulC, ← C_add]
        rfl
      rw [h3]
      generalize C (ev a (d + 1) f.tl) = v at *
      generalize f.tl = t at *
      generalize C (f.co 0) = c at *
      rw [h2, e]
      grind
theorem ev_lin (x a : Int) (d : Nat) {q : Ser} (hq : Dg d q) : ev x (d + 2) ((X1 - C a) * q) = (x - a) * ev x d q := by
  have hX : Dg 2 (X1 - C a) := fun n h => by
    show (if n = 1 then 1 else 0) - (if n = 0 then a else 0) = 0
    rw [if_neg (by omega), if_neg (by omega)]
    rfl
  rw [show d + 2 = 2 + d by omega, ev_mul x d q hq 2 _ hX]
  have e : ev x 2 (X1 - C a) = x - a := by
    show ((0 : Int) - a) + x * (((1 : Int) - 0) + x * 0) = x - a
    rw [Int.mul_zero]
    omega
  rw [e]
theorem ev_C (x c : Int) (d : Nat) : ev x (d + 1) (C c) = c := by
  rw [ev_more x 1 (d + 1) (C c) Dg.C (by omega)]
  show c + x * 0 = c
  rw [Int.mul_zero, Int.add_zero]
theorem ev_synth {x a : Int} {d : Nat} {f q : Ser} (hf : Dg (d + 1) f) (hq : Dg d q) (e : f = C (ev a (d + 1) f) + (X1 - C a) * q) : ev x (d + 1) f = ev a (d + 1) f + (x - a) * ev x d q := by
  have h := congrArg (ev x (d + 2)) e
  rw [ev_add, ev_C, ev_lin x a d hq, ev_more x (d + 1) (d + 2) f hf (by omega)] at h
  exact h
/-- more roots than the degree: nought -/
theorem roots_few (d : Nat) : ∀ (g : Ser) (L : List Int), Dg d g → L.Nodup → d ≤ L.length → (∀ x ∈ L, ev x d g = 0) → g = 0 := by
  induction d with
  | zero => intro g L h _ _ _; exact h.z
  | succ d ih =>
    intro g L h hn hl hr
    cases L with
    | nil => rw [List.length_nil] at hl; omega
    | cons a L =>
      obtain ⟨q, hq, e⟩ := synth a d g h
      have ha := hr a List.mem_cons_self
      have q0 : q = 0 := by
        refine ih q L hq (List.nodup_cons.mp hn).2 (by rw [List.length_cons] at hl; omega) fun x hx => ?_
        have h1 := ev_synth (x := x) h hq e
        rw [ha, hr x (List.mem_cons_of_mem _ hx), Int.zero_add] at h1
        refine (Int.mul_eq_zero.mp h1.symm).resolve_left fun z => ?_
        have : x = a := by omega
        exact (List.nodup_cons.mp hn).1 (this ▸ hx)
      rw [ha, q0, C_zero] at e
      rw [e]
      grind
/-- what the coefficients come to, from values of at most M at d places within N of 0 -/
def fac (N : Nat) : Nat → Nat
  | 0 => 0
  | d + 1 => 1 + (1 + N) * (2 * fac N d)
theorem interp (N : Nat) (d : Nat) : ∀ (f : Ser) (L : List Int) (M : Nat), Dg d f → L.Nodup → d ≤ L.length → (∀ x ∈ L, x.natAbs ≤ N ∧ (ev x d f).natAbs ≤ M) → ∀ n, (f.co n).natAbs ≤ fac N d * M := by
  induction d with
  | zero =>
    intro f L M h _ _ _ n
    rw [h n (Nat.zero_le _)]
    exact Nat.zero_le _
  | succ d ih =>
    intro f L M h hn hl hv n
    cases L with
    | nil => rw [List.length_nil] at hl; omega
    | cons a L =>
      obtain ⟨q, hq, e⟩ := synth a d f h
      obtain ⟨aN, aM⟩ := hv a List.mem_cons_self
      have hqc := ih q L (2 * M) hq (List.nodup_cons.mp hn).2 (by rw [List.length_cons] at hl; omega) (fun x hx => by
        obtain ⟨xN, xM⟩ := hv x (List.mem_cons_of_mem _ hx)
        refine ⟨xN, ?_⟩
        have h1 := ev_synth (x := x) h hq e
        have hne : x - a ≠ 0 := fun z => by
          have : x = a := by omega
          exact (List.nodup_cons.mp hn).1 (this ▸ hx)
        have h2 := le_mul_abs (x := ev x d q) hne
        have h3 : (x - a) * ev x d q = ev x (d + 1) f - ev a (d + 1) f := by omega
        rw [h3] at h2
        omega)
      have hb : ∀ k, (q.co k).natAbs ≤ fac N d * (2 * M) := hqc
      have key : (f.co n).natAbs ≤ M + (1 + N) * (fac N d * (2 * M)) := by
        have e' : f.co n = (C (ev a (d + 1) f) + (X1 * q - C a * q)).co n := by
          have : C (ev a (d + 1) f) + (X1 - C a) * q = C (ev a (d + 1) f) + (X1 * q - C a * q) := by grind
          rw [← this, ← e]
        rw [e', co_add, co_sub, co_Cmul]
        have ha : (a * q.co n).natAbs ≤ N * (fac N d * (2 * M)) := by
          rw [Int.natAbs_mul]
          exact Nat.mul_le_mul aN (hb n)
        cases n with
        | zero =>
          rw [X1_mul0, co_C, if_pos rfl, Nat.add_mul, Nat.one_mul]
          omega
        | succ n =>
          rw [X1_mulS, co_C, if_neg (by omega), Nat.add_mul, Nat.one_mul]
          have := hb n
          omega
      have fin : fac N (d + 1) * M = M + (1 + N) * (fac N d * (2 * M)) := by
        show (1 + (1 + N) * (2 * fac N d)) * M = _
        rw [Nat.add_mul, Nat.one_mul, Nat.mul_assoc, Nat.mul_assoc, Nat.mul_left_comm 2 (fac N d)]
      rw [fin]
      exact key
theorem fac_mono (N : Nat) {d e : Nat} (h : d ≤ e) : fac N d ≤ fac N e := by
  induction e generalizing d with
  | zero => rw [show d = 0 by omega]; exact Nat.le_refl _
  | succ e ih =>
    cases d with
    | zero => exact Nat.zero_le _
    | succ d =>
      show 1 + (1 + N) * (2 * fac N d) ≤ 1 + (1 + N) * (2 * fac N e)
      have := Nat.mul_le_mul_left (1 + N) (Nat.mul_le_mul_left 2 (ih (d := d) (by omega)))
      omega
/-- the places 0 .. n -/
def places (n : Nat) : List Int := (List.range (n + 1)).map fun (k : Nat) => (k : Int)
theorem places_nodup (n : Nat) : (places n).Nodup := by
  unfold places
  refine List.Pairwise.map _ (fun a b h => ?_) List.nodup_range
  intro z
  exact h (by omega)
theorem places_len (n : Nat) : (places n).length = n + 1 := by
  unfold places
  rw [List.length_map, List.length_range]
theorem places_le {n : Nat} {x : Int} (h : x ∈ places n) : x.natAbs ≤ n := by
  obtain ⟨k, hk, rfl⟩ := List.mem_map.mp h
  have := List.mem_range.mp hk
  omega
def geo (N : Nat) : Nat → Nat
  | 0 => 0
  | d + 1 => 1 + N * geo N d
theorem ev_le {B N : Nat} {x : Int} (hx : x.natAbs ≤ N) (d : Nat) : ∀ f : Ser, (∀ n, (f.co n).natAbs ≤ B) → (ev x d f).natAbs ≤ B * geo N d := by
  induction d with
  | zero => intro f _; exact Nat.zero_le _
  | succ d ih =>
    intro f h
    show (f.co 0 + x * ev x d f.tl).natAbs ≤ B * (1 + N * geo N d)
    have h1 := ih f.tl fun n => h (n + 1)
    have h2 : (x * ev x d f.tl).natAbs ≤ N * (B * geo N d) := by
      rw [Int.natAbs_mul]
      exact Nat.mul_le_mul hx h1
    have h3 := h 0
    rw [Nat.mul_add, Nat.mul_one, Nat.mul_left_comm]
    omega
theorem filter_len (p : Int → Bool) : ∀ l : List Int, (l.filter p).length + (l.filter fun x => !p x).length = l.length
  | [] => rfl
  | x :: l => by
    have ih := filter_len p l
    rw [List.filter_cons, List.filter_cons]
    cases p x
    · rw [if_neg (by decide), if_pos (by decide), List.length_cons, List.length_cons]
      omega
    · rw [if_pos rfl, if_neg (by decide), List.length_cons, List.length_cons]
      omega
/-- a divisor's coefficients -/
theorem factor_le {n B : Nat} {f g h : Ser} (hf : Dg (n + 1) f) (f0 : f ≠ 0) (pg : Pol g) (ph : Pol h) (e : f = g * h) (hB : ∀ k, (f.co k).natAbs ≤ B) (k : Nat) : (h.co k).natAbs ≤ fac n (n + 1) * (B * geo n (n + 1)) := by
  have g0 : g ≠ 0 := fun z => f0 (by rw [e, z, zero_mul])
  have h0 : h ≠ 0 := fun z => f0 (by rw [e, z, Ser.mul_comm, zero_mul])
  obtain ⟨d, dg, d0⟩ := pg.top g0
  obtain ⟨m, dh, m0⟩ := ph.top h0
  obtain ⟨t1, t2⟩ := mul_top dg dh
  have hle : d + m ≤ n := by
    refine Classical.byContradiction fun z => ?_
    have := hf (d + m) (by omega)
    rw [e, t2] at this
    exact (Int.mul_ne_zero d0 m0) this
  -- the places that are no roots of g
  let L := (places n).filter fun x => decide (ev x (d + 1) g ≠ 0)
  let R := (places n).filter fun x => !decide (ev x (d + 1) g ≠ 0)
  have hlen : L.length + R.length = n + 1 := by
    rw [← places_len n]
    exact filter_len (fun x => decide (ev x (d + 1) g ≠ 0)) (places n)
  have hR : R.length ≤ d := by
    refine Classical.byContradiction fun z => ?_
    refine g0 (roots_few (d + 1) g R dg ((places_nodup n).filter _) (by omega) fun x hx => ?_)
    have := (List.mem_filter.mp hx).2
    simpa using this
  have hL : m + 1 ≤ L.length := by omega
  have := interp n (m + 1) h L (B * geo n (n + 1)) dh ((places_nodup n).filter _) hL (fun x hx => by
    obtain ⟨hx1, hx2⟩ := List.mem_filter.mp hx
    have hN := places_le hx1
    refine ⟨hN, ?_⟩
    have e1 : ev x (d + 1 + (m + 1)) f = ev x (d + 1) g * ev x (m + 1) h := by
      rw [e]
      exact ev_mul x (m + 1) h dh (d + 1) g dg
    have e2 : ev x (n + 1) f = ev x (d + 1) g * ev x (m + 1) h := by
      rw [← e1]
      rcases Nat.le_total (n + 1) (d + 1 + (m + 1)) with q | q
      · exact (ev_more x (n + 1) _ f hf q).symm
      · refine ev_more x _ _ f ?_ q
        rw [e]
        exact t1.mono (by omega)
    have h1 := ev_le hN (n + 1) f hB
    rw [e2] at h1
    exact Nat.le_trans (le_mul_abs (of_decide_eq_true hx2)) h1) k
  exact Nat.le_trans this (Nat.mul_le_mul_right _ (fac_mono n (by omega)))
/-- in bits -/
theorem factor_bd {n W c : Nat} {a b : List Int} {g : Ser} (la : a.length ≤ n + 1) (ta : Trm a) (na : a ≠ []) (ha : Bd W a) (pg : Pol g) (e : S a = g * S b) (hc : fac n (n + 1) * geo n (n + 1) ≤ 2 ^ c) : Bd (W + c) b := fun k => by
  have h := factor_le (n := n) (B := 2 ^ W - 1) ((S_dg a).mono la) (ta.ne na) pg (S_pol b) e (fun k => by have := ha k; exact Nat.le_sub_one_of_lt this) k
  have hp := pow_pos2 W
  have h2 : fac n (n + 1) * ((2 ^ W - 1) * geo n (n + 1)) ≤ (2 ^ W - 1) * 2 ^ c := by
    rw [Nat.mul_left_comm]
    exact Nat.mul_le_mul_left _ hc
  have h3 : (2 ^ W - 1) * 2 ^ c < 2 ^ W * 2 ^ c := Nat.mul_lt_mul_of_pos_right (by omega) (pow_pos2 c)
  rw [Nat.pow_add]
  exact Nat.lt_of_le_of_lt h (Nat.lt_of_le_of_lt h2 h3)
theorem fac_ok2 : fac 2 3 * geo 2 3 ≤ 2 ^ 9 := by decide
theorem fac_ok4 : fac 4 5 * geo 4 5 ≤ 2 ^ 22 := by decide
theorem fac_ok6 : fac 6 7 * geo 6 7 ≤ 2 ^ 39 := by decide +kernel
theorem fac_ok8 : fac 8 9 * geo 8 9 ≤ 2 ^ 58 := by decide +kernel
end FF

/-! Ff: the multiplying loops as an invariant over coefficients. -/
namespace FF
open Ser
theorem getD_set (l : List Int) (i m : Nat) (v : Int) (h : i < l.length) : (l.set i v).getD m 0 = if m = i then v else l.getD m 0 := by
  rw [List.getD_eq_getElem?_getD, List.getElem?_set]
  by_cases e : m = i
  · subst e
    rw [if_pos rfl, if_pos h, if_pos rfl]
    rfl
  · rw [if_neg (fun z => e z.symm), if_neg e, List.getD_eq_getElem?_getD]
theorem getD_take (l : List Int) (i m : Nat) : (l.take i).getD m 0 = if m < i then l.getD m 0 else 0 := by
  rw [List.getD_eq_getElem?_getD, List.getElem?_take]
  split
  · rw [List.getD_eq_getElem?_getD]
  · rfl
theorem S_take_succ (a : List Int) (i : Nat) : S (a.take (i + 1)) = S (a.take i) + sh i (C (a.getD i 0)) := Ser.ext fun m => by
  rw [co_add, S_co, S_co, getD_take, getD_take]
  show _ = _ + (if m < i then 0 else (if m - i = 0 then a.getD i 0 else 0))
  by_cases h1 : m < i
  · rw [if_pos (by omega), if_pos h1, if_pos h1, Int.add_zero]
  · by_cases h2 : m = i
    · subst h2
      rw [if_pos (by omega), if_neg h1, if_neg h1, if_pos (by omega), Int.zero_add]
    · rw [if_neg (by omega), if_neg h1, if_neg h1, if_neg (by omega)]
      rfl
/-- the list that grows: rows below i are in, of row i the places below j -/
structure MulInv (a b : List Int) (i j : Nat) (f : List Int) : Prop where
  len : f.length = a.length + b.length - 1
  co : ∀ m, f.getD m 0 = (S (a.take i) * S b).co m + a.getD i 0 * (sh i (S (b.take j))).co m
theorem MulInv.start (a b : List Int) (n : Nat) (h : n = a.length + b.length - 1) : MulInv a b 0 0 (List.replicate n 0) := by
  refine ⟨by rw [List.length_replicate, h], fun m => ?_⟩
  have e1 : S (a.take 0) = 0 := S_nil
  have e2 : S (b.take 0) = 0 := S_nil
  rw [e1, e2, zero_mul, sh_zero, co_zero, Int.mul_zero, List.getD_eq_getElem?_getD, List.getElem?_replicate]
  split <;> rfl
theorem MulInv.step {a b f : List Int} {i j : Nat} (h : MulInv a b i j f) (hi : i < a.length) (hj : j < b.length) : MulInv a b i (j + 1) (f.set (i + j) (f.getD (i + j) 0 + a.getD i 0 * b.getD j 0)) := by
  have hl : i + j < f.length := by rw [h.len]; omega
  refine ⟨by rw [List.length_set]; exact h.len, fun m => ?_⟩
  rw [getD_set _ _ _ _ hl]
  have e : (sh i (S (b.take (j + 1)))).co m = (sh i (S (b.take j))).co m + if m = i + j then b.getD j 0 else 0 := by
    show (if m < i then 0 else (S (b.take (j + 1))).co (m - i)) = (if m < i then 0 else (S (b.take j)).co (m - i)) + _
    by_cases h1 : m < i
    · rw [if_pos h1, if_pos h1, if_neg (by omega)]
      rfl
    · rw [if_neg h1, if_neg h1, S_co, S_co, getD_take, getD_take]
      by_cases h2 : m = i + j
      · rw [if_pos (by omega), if_neg (by omega), if_pos h2, show m - i = j by omega, Int.zero_add]
      · by_cases h3 : m - i < j
        · rw [if_pos (by omega), if_pos h3, if_neg h2, Int.add_zero]
        · rw [if_neg (by omega), if_neg h3, if_neg h2]
          rfl
  rw [e, Int.mul_add]
  have hc := h.co m
  by_cases h2 : m = i + j
  · rw [if_pos h2, if_pos h2, ← h2, hc]
    omega
  · rw [if_neg h2, if_neg h2, Int.mul_zero, hc]
    omega
theorem MulInv.row {a b f : List Int} {i : Nat} (h : MulInv a b i b.length f) : MulInv a b (i + 1) 0 f := by
  refine ⟨h.len, fun m => ?_⟩
  have e2 : S (b.take 0) = 0 := S_nil
  have e3 : (sh (i + 1) (0 : Ser)).co m = 0 := by
    show (if m < i + 1 then 0 else (0 : Ser).co (m - (i + 1))) = 0
    rw [co_zero]
    split <;> rfl
  rw [h.co m, e2, e3, Int.mul_zero, Int.add_zero, List.take_length, S_take_succ, add_mul, co_add, sh_mul, C_mul]
  congr 1
  show _ * (if m < i then 0 else (S b).co (m - i)) = if m < i then 0 else a.getD i 0 * (S b).co (m - i)
  split
  · exact Int.mul_zero _
  · rfl
theorem MulInv.done {a b f : List Int} (h : MulInv a b a.length 0 f) (ha : a ≠ []) (hb : b ≠ []) : f = pMul a b := by
  have e2 : S (b.take 0) = 0 := S_nil
  have ef : S f = S a * S b := Ser.ext fun m => by
    rw [S_co, h.co m, getD_out (Nat.le_refl _), Int.zero_mul, Int.add_zero, List.take_length]
  refine list_ext ?_ fun n => ?_
  · unfold pMul
    rw [if_neg (fun z => z.elim ha hb), List.length_map, List.length_range]
    exact h.len
  · exact congrArg (fun x => x.co n) (ef.trans (S_pMul a b).symm)
theorem MulInv.bd {a b f : List Int} {i j m n : Nat} (h : MulInv a b i j f) (ha : Bd m a) (hb : Bd n b) : True := trivial
end FF

/-! Fg: how far the numbers grow in the common divisor's loop. -/
namespace FF
/-- the measure of growth -/
def pot (W la lb : Nat) : Nat := (W + 1) * (if lb < la then 3 ^ la else 2 * 3 ^ (max la lb))
theorem two_le_pow3 : ∀ d : Nat, 1 ≤ d → d + 2 ≤ 3 ^ d
  | 0, h => by omega
  | 1, _ => by decide
  | d + 2, _ => by
    have := two_le_pow3 (d + 1) (by omega)
    rw [Nat.pow_succ]
    omega
theorem pot_step {W la lb lc : Nat} (h : lc < lb) : pot (W + (la - lb + 1) * (W + 1)) lb lc ≤ pot W la lb := by
  unfold pot
  rw [if_pos h]
  have e : W + (la - lb + 1) * (W + 1) + 1 = (W + 1) * (la - lb + 2) := by
    have h1 : (la - lb + 1) * (W + 1) = (W + 1) * (la - lb) + (W + 1) := by rw [Nat.mul_comm, Nat.mul_succ]
    have h2 : (W + 1) * (la - lb + 2) = (W + 1) * (la - lb) + (W + 1) * 2 := Nat.mul_add _ _ _
    rw [h1, h2]
    omega
  rw [e, Nat.mul_assoc]
  refine Nat.mul_le_mul_left _ ?_
  by_cases q : lb < la
  · rw [if_pos q]
    have h1 := two_le_pow3 (la - lb) (by omega)
    calc (la - lb + 2) * 3 ^ lb ≤ 3 ^ (la - lb) * 3 ^ lb := Nat.mul_le_mul_right _ h1
      _ = 3 ^ la := by rw [← Nat.pow_add, show la - lb + lb = la by omega]
  · rw [if_neg q, show la - lb = 0 by omega, show max la lb = lb by omega]
    exact Nat.le_refl _
theorem pot_ge {W la lb : Nat} (h : 0 < lb) : (W + 1) * (la - lb + 2) ≤ pot W la lb := by
  unfold pot
  refine Nat.mul_le_mul_left _ ?_
  by_cases q : lb < la
  · rw [if_pos q]
    refine Nat.le_trans (two_le_pow3 (la - lb) (by omega)) (Nat.pow_le_pow_right (by decide) (by omega))
  · rw [if_neg q, show la - lb = 0 by omega]
    have : 0 < 3 ^ max la lb := Nat.pow_pos (by decide)
    omega
theorem pot_start {W la lb : Nat} (hW : W ≤ 500) (ha : la ≤ 9) (hb : lb ≤ 9) : pot W la lb ≤ 20000000 := by
  unfold pot
  have h3 : ∀ n, n ≤ 9 → 3 ^ n ≤ 19683 := fun n hn => Nat.pow_le_pow_right (n := 3) (by decide) hn
  have h1 : (if lb < la then 3 ^ la else 2 * 3 ^ (max la lb)) ≤ 39366 := by
    split
    · have := h3 la ha
      omega
    · have := h3 (max la lb) (by omega)
      omega
  calc (W + 1) * _ ≤ 501 * 39366 := Nat.mul_le_mul (by omega) h1
    _ ≤ 20000000 := by decide
end FF

/-! Fh: how large a product's coefficients are; the dividing loops as invariants. -/
namespace FF
open Ser
theorem ser_mul_le {A B : Nat} (d : Nat) : ∀ (f g : Ser), Dg d f → (∀ n, (f.co n).natAbs ≤ A) → (∀ n, (g.co n).natAbs ≤ B) → ∀ n, ((f * g).co n).natAbs ≤ d * (A * B) := by
  induction d with
  | zero =>
    intro f g h _ _ n
    rw [h.z, zero_mul, co_zero]
    exact Nat.zero_le _
  | succ d ih =>
    intro f g h hA hB n
    have h0 : (f.co 0 * g.co n).natAbs ≤ A * B := by
      rw [Int.natAbs_mul]
      exact Nat.mul_le_mul (hA 0) (hB n)
    have es : (d + 1) * (A * B) = d * (A * B) + A * B := Nat.succ_mul _ _
    cases n with
    | zero =>
      rw [co_mul0]
      omega
    | succ n =>
      rw [co_mulS]
      have h1 := ih f.tl g h.tl (fun k => hA (k + 1)) hB n
      have h2 : (f.co 0 * g.co (n + 1)).natAbs ≤ A * B := h0
      omega
theorem bd_ser_mul {m n c : Nat} {f g : Ser} (d : Nat) (hd : Dg d f) (hf : ∀ k, (f.co k).natAbs < 2 ^ m) (hg : ∀ k, (g.co k).natAbs < 2 ^ n) (hc : d ≤ 2 ^ c) (k : Nat) : ((f * g).co k).natAbs < 2 ^ (m + n + c) := by
  have h := ser_mul_le d f g hd (fun k => Nat.le_sub_one_of_lt (hf k)) (fun k => Nat.le_sub_one_of_lt (hg k)) k
  have p1 := pow_pos2 m
  have p2 := pow_pos2 n
  have p3 := pow_pos2 c
  have h1 : (2 ^ m - 1) * (2 ^ n - 1) < 2 ^ m * 2 ^ n := by
    refine Nat.lt_of_le_of_lt (Nat.mul_le_mul_right _ (Nat.sub_le _ _)) ?_
    exact Nat.mul_lt_mul_of_pos_left (by omega) p1
  rw [Nat.pow_add, Nat.pow_add, Nat.mul_comm _ (2 ^ c)]
  refine Nat.lt_of_le_of_lt h (Nat.lt_of_le_of_lt (Nat.mul_le_mul_right _ hc) ?_)
  exact Nat.mul_lt_mul_of_pos_left h1 p3
theorem Bd.pMul {m n c : Nat} {a b : List Int} (ha : Bd m a) (hb : Bd n b) (hc : a.length ≤ 2 ^ c) : Bd (m + n + c) (pMul a b) := fun k => by
  have e : (FF.pMul a b).getD k 0 = (S a * S b).co k := congrArg (fun f => f.co k) (S_pMul a b)
  rw [e]
  exact bd_ser_mul a.length (S_dg a) ha (g := S b) hb hc k
theorem Bd.take {m : Nat} {a : List Int} (h : Bd m a) (t : Nat) : Bd m (a.take t) := fun k => by
  rw [getD_take]
  split
  · exact h k
  · exact pow_pos2 m
/-! ### number, in the cases that come -/
theorem numN_mul {l k : Int} (h : 0 < l) : numN (l * k) l = (k, 1) := by
  have g : Nat.gcd (l * k).natAbs l.natAbs = l.natAbs := by
    rw [Int.natAbs_mul]
    exact Nat.gcd_eq_right (Nat.dvd_mul_right _ _)
  have el : ((l.natAbs : Nat) : Int) = l := Int.natAbs_of_nonneg (by omega)
  unfold numN
  rw [if_neg (by omega), g, el, Int.mul_ediv_cancel_left _ (by omega), Int.ediv_self (by omega)]
theorem numN_one (k : Int) : numN k 1 = (k, 1) := by
  have := numN_mul (l := 1) (k := k) (by decide)
  rwa [Int.one_mul] at this
theorem numN_inv {l : Int} (h : 0 < l) : numN 1 l = (1, l) := by
  have g : Nat.gcd (1 : Int).natAbs l.natAbs = 1 := Nat.gcd_one_left _
  unfold numN
  rw [if_neg (by omega), g]
  show ((1 : Int) / 1, l / 1) = _
  rw [Int.ediv_one, Int.ediv_one]
/-! ### dividing: what is left when the places from t on of the quotient are known -/
structure QuoInv (ys ks : List Int) (n t j : Nat) (vs : List Int) : Prop where
  len : vs.length = n
  co : ∀ m, vs.getD m 0 = (S ys * S (ks.take t)).co m - ks.getD (t - 1) 0 * (sh (t - 1) (S (ys.take j))).co m
theorem sh_nil (i m : Nat) : (sh i (S [])).co m = 0 := by
  show (if m < i then 0 else (S []).co (m - i)) = 0
  rw [S_nil, co_zero]
  split <;> rfl
theorem QuoInv.start {xs ys ks : List Int} (e : S xs = S ys * S ks) : QuoInv ys ks xs.length ks.length 0 xs := by
  refine ⟨rfl, fun m => ?_⟩
  have h : S (ys.take 0) = S [] := rfl
  rw [h, sh_nil, Int.mul_zero, Int.sub_zero, List.take_length, ← e]
  rfl
/-- the head of what is left -/
theorem QuoInv.head {ys ks vs : List Int} {n t : Nat} (q : QuoInv ys ks n (t + 1) 0 vs) (hy : ys ≠ []) : vs.getD (t + ys.length - 1) 0 = lead ys * ks.getD t 0 := by
  have h : S (ys.take 0) = S [] := rfl
  rw [q.co, h, sh_nil, Int.mul_zero, Int.sub_zero]
  have ly := len_pos hy
  have dk : Dg (t + 1) (S (ks.take (t + 1))) := fun m hm => by
    rw [S_co, getD_take, if_neg (by omega)]
  have := (mul_top (d := ys.length - 1) (e := t) ((S_dg ys).mono (by omega)) dk).2
  rw [show ys.length - 1 + t = t + ys.length - 1 by omega] at this
  rw [this]
  show lead ys * (ks.take (t + 1)).getD t 0 = _
  rw [getD_take, if_pos (by omega)]
theorem QuoInv.step {ys ks vs : List Int} {n t j : Nat} (q : QuoInv ys ks n (t + 1) j vs) (hj : j < ys.length) (hn : t + j < n) : QuoInv ys ks n (t + 1) (j + 1) (vs.set (t + j) (vs.getD (t + j) 0 + ks.getD t 0 * -(ys.getD j 0))) := by
  refine ⟨by rw [List.length_set]; exact q.len, fun m => ?_⟩
  rw [getD_set _ _ _ _ (by rw [q.len]; exact hn)]
  have ht : t + 1 - 1 = t := by omega
  have e : (sh t (S (ys.take (j + 1)))).co m = (sh t (S (ys.take j))).co m + if m = t + j then ys.getD j 0 else 0 := by
    show (if m < t then 0 else (S (ys.take (j + 1))).co (m - t)) = (if m < t then 0 else (S (ys.take j)).co (m - t)) + _
    by_cases h1 : m < t
    · rw [if_pos h1, if_pos h1, if_neg (by omega)]
      rfl
    · rw [if_neg h1, if_neg h1, S_co, S_co, getD_take, getD_take]
      by_cases h2 : m = t + j
      · rw [if_pos (by omega), if_neg (by omega), if_pos h2, show m - t = j by omega, Int.zero_add]
      · by_cases h3 : m - t < j
        · rw [if_pos (by omega), if_pos h3, if_neg h2, Int.add_zero]
        · rw [if_neg (by omega), if_neg h3, if_neg h2]
          rfl
  have hc := q.co m
  rw [ht] at hc
  rw [ht, e, Int.mul_add]
  by_cases h2 : m = t + j
  · rw [if_pos h2, if_pos h2, ← h2, hc, Int.mul_neg]
    omega
  · rw [if_neg h2, if_neg h2, Int.mul_zero, hc]
    omega
theorem QuoInv.row {ys ks vs : List Int} {n t : Nat} (q : QuoInv ys ks n (t + 1) ys.length vs) : QuoInv ys ks n t 0 vs := by
  refine ⟨q.len, fun m => ?_⟩
  have h : S (ys.take 0) = S [] := rfl
  have ht : t + 1 - 1 = t := by omega
  have hc := q.co m
  rw [ht, List.take_length, S_take_succ, mul_add, co_add, Ser.mul_comm (S ys) (sh t _), sh_mul, C_mul] at hc
  have e : (sh t (sm (ks.getD t 0) (S ys))).co m = ks.getD t 0 * (sh t (S ys)).co m := by
    show (if m < t then 0 else ks.getD t 0 * (S ys).co (m - t)) = _ * (if m < t then 0 else (S ys).co (m - t))
    split
    · exact (Int.mul_zero _).symm
    · rfl
  rw [e] at hc
  rw [h, sh_nil, Int.mul_zero, hc]
  omega
theorem QuoInv.bd {ys ks vs : List Int} {n t j A B : Nat} (q : QuoInv ys ks n t j vs) (hy : Bd A ys) (hk : Bd B ks) (ly : ys.length ≤ 16) : Bd (A + B + 5) vs := fun m => by
  rw [q.co]
  have h1 := bd_ser_mul (c := 4) ys.length (S_dg ys) hy (g := S (ks.take t)) (hk.take t) (by omega) m
  have h2 : ((sh (t - 1) (S (ys.take j))).co m).natAbs < 2 ^ A := by
    show (if m < t - 1 then (0 : Int) else (S (ys.take j)).co (m - (t - 1))).natAbs < 2 ^ A
    split
    · exact pow_pos2 A
    · exact hy.take j _
  have h3 := bd_mul (hk (t - 1)) h2
  have h4 : 2 ^ (B + A) ≤ 2 ^ (A + B + 4) := Nat.pow_le_pow_right (by decide) (by omega)
  have h5 : 2 ^ (A + B + 5) = 2 * 2 ^ (A + B + 4) := by rw [Nat.pow_succ, Nat.mul_comm]
  omega
end FF

/-! Fi: what the program's fraction needs of the common divisor, and the bounds of its result. -/
namespace FF
open Ser
theorem len_mul {a b c : List Int} (ta : Trm a) (tb : Trm b) (tc : Trm c) (hb : b ≠ []) (hc : c ≠ []) (e : S a = S b * S c) : a.length + 1 = b.length + c.length := by
  have lb := len_pos hb
  have lc := len_pos hc
  have q := mul_top (d := b.length - 1) (e := c.length - 1) ((S_dg b).mono (by omega)) ((S_dg c).mono (by omega))
  have hne : (S b * S c).co (b.length - 1 + (c.length - 1)) ≠ 0 := by
    rw [q.2]
    exact Int.mul_ne_zero (lead_ne tb hb) (lead_ne tc hc)
  have h1 : a.length ≤ b.length - 1 + (c.length - 1) + 1 := ta.len_le (by rw [e]; exact q.1)
  have h2 : b.length - 1 + (c.length - 1) < a.length := by
    refine Classical.byContradiction fun z => hne ?_
    rw [← e]
    exact S_dg a _ (by omega)
  omega
theorem pGcd_ok {a b : List Int} (ta : Trm a) (tb : Trm b) (na : a ≠ []) (nb : b ≠ []) : Plain (pGcd a b) ∧ (∃ k, Trm k ∧ k ≠ [] ∧ S a = S (pGcd a b) * S k) ∧ (∃ k, Trm k ∧ k ≠ [] ∧ S b = S (pGcd a b) * S k) ∧
    ∃ (c : Int) (s t : Ser), c ≠ 0 ∧ Pol s ∧ Pol t ∧ C c * S (pGcd a b) = s * S a + t * S b := by
  obtain ⟨pg, ⟨m1, u1, n1, p1, e1⟩, ⟨m2, u2, n2, p2, e2⟩, c, s, t, c0, ps, pt, e3⟩ := gcdL_ok (b.length + 1) (pPlain a) (pPlain b) (by rw [pPlain_len]; omega) (pPlain_pn ta) (pPlain_pn tb) (.inl fun z => na (pPlain_eq_nil.mp z))
  have eg : gcdL (b.length + 1) (pPlain a) (pPlain b) = pGcd a b := rfl
  rw [eg] at pg e1 e2 e3
  have ea := S_pPlain ta
  have eb := S_pPlain tb
  have da := sc_ne ta na
  have db := sc_ne tb nb
  obtain ⟨k1, hk1, f1⟩ := gauss' n1 pg.con e1
  obtain ⟨k2, hk2, f2⟩ := gauss' n2 pg.con e2
  rw [hk1] at p1
  rw [hk2] at p2
  obtain ⟨l1, t1, g1⟩ := (Pol.C (c := sc a).mul (pol_of_C n1 p1)).list
  obtain ⟨l2, t2, g2⟩ := (Pol.C (c := sc b).mul (pol_of_C n2 p2)).list
  have x1 : S a = S (pGcd a b) * S l1 := by rw [g1, ea, f1]; grind
  have x2 : S b = S (pGcd a b) * S l2 := by rw [g2, eb, f2]; grind
  have nz : ∀ {x l : List Int}, Trm x → x ≠ [] → S x = S (pGcd a b) * S l → l ≠ [] := fun {x l} tx nx e z => by
    rw [z, S_nil, Ser.mul_comm, zero_mul] at e
    exact tx.ne nx e
  refine ⟨pg, ⟨l1, t1, nz ta na x1, x1⟩, ⟨l2, t2, nz tb nb x2, x2⟩, c * (sc a * sc b), s * C (sc b), t * C (sc a), Int.mul_ne_zero c0 (Int.mul_ne_zero da db), ps.mul Pol.C, pt.mul Pol.C, ?_⟩
  rw [C_mulC, C_mulC]
  have h : C c * (C (sc a) * C (sc b)) * S (pGcd a b) = C (sc a) * C (sc b) * (C c * S (pGcd a b)) := by grind
  rw [h, e3, ea, eb]
  generalize S (pPlain a) = A
  generalize S (pPlain b) = B
  grind
theorem pCon_lt {n : Nat} {a : List Int} (ta : Trm a) (na : a ≠ []) (h : Bd n a) : pCon a < 2 ^ n := by
  have d := pCon_dv a (a.length - 1)
  have l0 := lead_ne ta na
  have h1 := Int.ofNat_dvd_left.mp d
  have h2 : 0 < (lead a).natAbs := by omega
  exact Nat.lt_of_le_of_lt (Nat.le_of_dvd h2 h1) (h _)
theorem sc_lt {n : Nat} {a : List Int} (ta : Trm a) (na : a ≠ []) (h : Bd n a) : (sc a).natAbs < 2 ^ n := by
  rw [sc_abs]
  exact pCon_lt ta na h
theorem numN_le {x y : Int} (hy : y ≠ 0) : (numN x y).1.natAbs ≤ x.natAbs ∧ (numN x y).2.natAbs ≤ y.natAbs := by
  obtain ⟨g, g0, h1, h2, _⟩ := numN_spec (x := x) hy
  have e1 := congrArg Int.natAbs h1
  have e2 := congrArg Int.natAbs h2
  rw [e1, e2]
  exact ⟨le_mul_abs g0, le_mul_abs g0⟩
theorem numN_ne {x y : Int} (hx : x ≠ 0) (hy : y ≠ 0) : (numN x y).1 ≠ 0 := by
  obtain ⟨g, g0, h1, _⟩ := numN_spec (x := x) hy
  intro z
  rw [z, Int.mul_zero] at h1
  exact hx h1
/-- the bounds of a fraction in canonical form -/
theorem Rep.bounds {P Q p q : List Int} {n W c : Nat} (r : Rep P Q (S p) (S q)) (tp : Trm p) (tq : Trm q) (nq : q ≠ []) (lp : p.length ≤ n + 1) (lq : q.length ≤ n + 1) (bp : Bd W p) (bq : Bd W q) (hc : fac n (n + 1) * geo n (n + 1) ≤ 2 ^ c) :
    P.length ≤ n + 1 ∧ Q.length ≤ n + 1 ∧ Bd (W + c) P ∧ Bd (W + c) Q := by
  obtain ⟨u, tu, e1, e2⟩ := r.divides tp tq nq
  have nu : u ≠ [] := fun z => by
    rw [z, S_nil, Ser.mul_comm, zero_mul] at e2
    exact tq.ne nq e2
  have lu := len_pos nu
  have hQ : Q.length ≤ n + 1 ∧ Bd (W + c) Q := by
    have := len_mul tq r.can.tq tu r.can.nq nu e2
    exact ⟨by omega, factor_bd lq tq nq bq (S_pol u) (by rw [e2, Ser.mul_comm]) hc⟩
  by_cases hp : p = []
  · have hP : P = [] := by
      rw [hp, S_nil] at e1
      refine r.can.tp.nil_of ((mul_eq_zero e1.symm).resolve_right (tu.ne nu))
    rw [hP]
    exact ⟨Nat.zero_le _, hQ.1, Bd.nil, hQ.2⟩
  · have nP : P ≠ [] := fun z => by
      rw [z, S_nil, zero_mul] at e1
      exact tp.ne hp e1
    have := len_mul tp r.can.tp tu nP nu e1
    exact ⟨by omega, hQ.1, factor_bd lp tp hp bp (S_pol u) (by rw [e1, Ser.mul_comm]) hc, hQ.2⟩
end FF

/-! Fj: the multiplying loops of the law (a list one longer than needed). -/
namespace FF
open Ser
structure MulN (a b : List Int) (n i j : Nat) (f : List Int) : Prop where
  len : f.length = n
  co : ∀ m, f.getD m 0 = (S (a.take i) * S b).co m + a.getD i 0 * (sh i (S (b.take j))).co m
theorem MulN.start (a b : List Int) (n : Nat) : MulN a b n 0 0 (List.replicate n 0) := by
  refine ⟨List.length_replicate, fun m => ?_⟩
  have e1 : S (a.take 0) = 0 := S_nil
  have e2 : S (b.take 0) = 0 := S_nil
  rw [e1, e2, zero_mul, sh_zero, co_zero, Int.mul_zero, List.getD_eq_getElem?_getD, List.getElem?_replicate]
  split <;> rfl
theorem MulN.step {a b f : List Int} {n i j : Nat} (h : MulN a b n i j f) (hn : i + j < n) : MulN a b n i (j + 1) (f.set (i + j) (f.getD (i + j) 0 + a.getD i 0 * b.getD j 0)) := by
  have hl : i + j < f.length := by rw [h.len]; exact hn
  refine ⟨by rw [List.length_set]; exact h.len, fun m => ?_⟩
  rw [getD_set _ _ _ _ hl]
  have e : (sh i (S (b.take (j + 1)))).co m = (sh i (S (b.take j))).co m + if m = i + j then b.getD j 0 else 0 := by
    show (if m < i then 0 else (S (b.take (j + 1))).co (m - i)) = (if m < i then 0 else (S (b.take j)).co (m - i)) + _
    by_cases h1 : m < i
    · rw [if_pos h1, if_pos h1, if_neg (by omega)]
      rfl
    · rw [if_neg h1, if_neg h1, S_co, S_co, getD_take, getD_take]
      by_cases h2 : m = i + j
      · rw [if_pos (by omega), if_neg (by omega), if_pos h2, show m - i = j by omega, Int.zero_add]
      · by_cases h3 : m - i < j
        · rw [if_pos (by omega), if_pos h3, if_neg h2, Int.add_zero]
        · rw [if_neg (by omega), if_neg h3, if_neg h2]
          rfl
  rw [e, Int.mul_add]
  have hc := h.co m
  by_cases h2 : m = i + j
  · rw [if_pos h2, if_pos h2, ← h2, hc]
    omega
  · rw [if_neg h2, if_neg h2, Int.mul_zero, hc]
    omega
theorem MulN.row {a b f : List Int} {n i : Nat} (h : MulN a b n i b.length f) : MulN a b n (i + 1) 0 f := by
  refine ⟨h.len, fun m => ?_⟩
  have e2 : S (b.take 0) = 0 := S_nil
  have e3 : (sh (i + 1) (0 : Ser)).co m = 0 := by
    show (if m < i + 1 then 0 else (0 : Ser).co (m - (i + 1))) = 0
    rw [co_zero]
    split <;> rfl
  rw [h.co m, e2, e3, Int.mul_zero, Int.add_zero, List.take_length, S_take_succ, add_mul, co_add, sh_mul, C_mul]
  congr 1
  show _ * (if m < i then 0 else (S b).co (m - i)) = if m < i then 0 else a.getD i 0 * (S b).co (m - i)
  split
  · exact Int.mul_zero _
  · rfl
theorem MulN.done {a b f : List Int} {n : Nat} (h : MulN a b n a.length 0 f) (ta : Trm a) (tb : Trm b) : trim f = pMul a b := by
  have e2 : S (b.take 0) = 0 := S_nil
  have ef : S f = S a * S b := Ser.ext fun m => by
    rw [S_co, h.co m, getD_out (Nat.le_refl _), Int.zero_mul, Int.add_zero, List.take_length]
  exact (trim_trm f).ext (pMul_trm ta tb) (by rw [S_trim, ef, S_pMul])
/-- what is drawn: (p, q), and the same fraction by smaller polynomials -/
structure Drawn (p q p0 q0 : List Int) : Prop where
  tp : Trm p
  tq : Trm q
  nq : q ≠ []
  tp0 : Trm p0
  tq0 : Trm q0
  nq0 : q0 ≠ []
  eq : S p * S q0 = S p0 * S q
  lp : p.length ≤ 4
  lq : q.length ≤ 4
  lp0 : p0.length ≤ 3
  lq0 : q0.length ≤ 3
  bp : Bd 48 p
  bq : Bd 48 q
  bp0 : Bd 23 p0
  bq0 : Bd 23 q0
theorem Drawn.plain {p q : List Int} (tp : Trm p) (tq : Trm q) (nq : q ≠ []) (lp : p.length ≤ 3) (lq : q.length ≤ 3) (bp : Bd 23 p) (bq : Bd 23 q) : Drawn p q p q :=
  ⟨tp, tq, nq, tp, tq, nq, rfl, by omega, by omega, lp, lq, bp.mono (by decide), bq.mono (by decide), bp, bq⟩
theorem Drawn.times {p q c : List Int} (tp : Trm p) (tq : Trm q) (nq : q ≠ []) (lp : p.length ≤ 3) (lq : q.length ≤ 3) (bp : Bd 23 p) (bq : Bd 23 q) (tc : Trm c) (nc : c ≠ []) (lc : c.length ≤ 2) (bc : Bd 23 c) : Drawn (pMul p c) (pMul q c) p q := by
  have h1 := pMul_len p c
  have h2 := pMul_len q c
  refine ⟨pMul_trm tp tc, pMul_trm tq tc, pMul_ne nq nc, tp, tq, nq, ?_, by omega, by omega, lp, lq, Bd.pMul (c := 2) bp bc (by omega), Bd.pMul (c := 2) bq bc (by omega), bp, bq⟩
  rw [S_pMul, S_pMul]
  grind
/-- the canonical form of what is drawn is small -/
theorem Drawn.small {p q p0 q0 A B : List Int} (d : Drawn p q p0 q0) (r : Rep A B (S p) (S q)) : Canon A B ∧ A.length ≤ 3 ∧ B.length ≤ 3 ∧ Bd 32 A ∧ Bd 32 B := by
  have r0 : Rep A B (S p0) (S q0) := r.change (d.tq0.ne d.nq0) d.eq
  exact ⟨r.can, r0.bounds (n := 2) (c := 9) d.tp0 d.tq0 d.nq0 d.lp0 d.lq0 d.bp0 d.bq0 fac_ok2⟩
theorem fac_ok3 : fac 3 4 * geo 3 4 ≤ 2 ^ 15 := by decide
end FF

/-! Fk: the law's own look at a fraction: bare, one step of its division, its loop. -/
namespace FF
open Ser
def lBare (a : List Int) : List Int := a.map fun x => x.fdiv (pCon a)
theorem lBare_len (a : List Int) : (lBare a).length = a.length := List.length_map _
theorem S_lBare {a : List Int} : S a = C (pCon a) * S (lBare a) := Ser.ext fun n => by
  rw [co_Cmul]
  show a.getD n 0 = _ * (a.map _).getD n 0
  rw [getD_map0 a (fun x => x.fdiv (pCon a)) (Int.zero_fdiv _)]
  exact (Int.mul_fdiv_cancel' (pCon_dv a n)).symm
theorem lBare_trm {a : List Int} (ta : Trm a) : Trm (lBare a) := fun n h z => by
  rw [lBare_len] at h
  refine ta n h ?_
  have t : a.getD n 0 = (pCon a : Int) * (lBare a).getD n 0 := (congrArg (fun f => f.co n) (S_lBare (a := a))).trans (co_Cmul _ _ _)
  rw [t, z, Int.mul_zero]
theorem Bd.lBare {n : Nat} {a : List Int} (ta : Trm a) (na : a ≠ []) (h : Bd n a) : Bd n (lBare a) := fun k => by
  have t : a.getD k 0 = (pCon a : Int) * (FF.lBare a).getD k 0 := (congrArg (fun f => f.co k) (S_lBare (a := a))).trans (co_Cmul _ _ _)
  have h1 := h k
  rw [t] at h1
  have := pCon_pos ta na
  exact Nat.lt_of_le_of_lt (le_mul_abs (by omega)) h1
/-- one step of the law's division -/
def lRow (r o : List Int) : List Int := (List.range r.length).map fun k => r.getD k 0 * lead o - (pShift o (r.length - o.length)).getD k 0 * lead r
def lStep (r o : List Int) : List Int := trim (lRow r o)
theorem S_lStep {r o : List Int} (h : o.length ≤ r.length) : S (lStep r o) = C (lead o) * S r - C (lead r) * (Xp (r.length - o.length) * S o) := by
  unfold lStep
  rw [S_trim]
  have e : C (lead o) * S r - C (lead r) * (Xp (r.length - o.length) * S o) = ⟨fun k => r.getD k 0 * lead o - (pShift o (r.length - o.length)).getD k 0 * lead r⟩ := Ser.ext fun n => by
    rw [co_sub, co_Cmul, co_Cmul, ← S_pShift]
    show _ = r.getD n 0 * lead o - (pShift o (r.length - o.length)).getD n 0 * lead r
    rw [Int.mul_comm (lead o), Int.mul_comm (lead r)]
    rfl
  rw [e]
  refine S_take_full (f := ⟨fun k => r.getD k 0 * lead o - (pShift o (r.length - o.length)).getD k 0 * lead r⟩) fun n hn => ?_
  show r.getD n 0 * lead o - (pShift o (r.length - o.length)).getD n 0 * lead r = 0
  have := pShift_len o (r.length - o.length)
  rw [getD_out hn, getD_out (by omega)]
  rw [Int.zero_mul, Int.zero_mul]
  rfl
theorem lStep_len {r o : List Int} (ho : o ≠ []) (h : o.length ≤ r.length) : (lStep r o).length ≤ r.length - 1 := by
  have lo := len_pos ho
  refine (trim_trm _).len_le fun n hn => ?_
  have e : (S (lStep r o)).co n = lead o * (S r).co n - lead r * (sh (r.length - o.length) (S o)).co n := by
    rw [S_lStep h, co_sub, co_Cmul, co_Cmul, sh_eq]
  show (S (lStep r o)).co n = 0
  rw [e]
  show lead o * r.getD n 0 - lead r * (if n < r.length - o.length then 0 else o.getD (n - (r.length - o.length)) 0) = 0
  rw [if_neg (by omega)]
  by_cases q : n = r.length - 1
  · rw [q, show r.length - 1 - (r.length - o.length) = o.length - 1 by omega]
    show lead o * lead r - lead r * lead o = 0
    rw [Int.mul_comm]
    omega
  · rw [getD_out (by omega), getD_out (by omega), Int.mul_zero, Int.mul_zero]
    rfl
theorem Bd.lStep {m n : Nat} {r o : List Int} (hr : Bd m r) (ho : Bd n o) (h : o.length ≤ r.length) : Bd (m + n + 1) (lStep r o) := fun k => by
  have e : (FF.lStep r o).getD k 0 = lead o * r.getD k 0 - lead r * (FF.pShift o (r.length - o.length)).getD k 0 := by
    have := congrArg (fun f => f.co k) (S_lStep h)
    rw [← S_pShift] at this
    exact this.trans (by
      show (C (lead o) * S r - C (lead r) * S (FF.pShift o (r.length - o.length))).co k = _
      rw [co_sub, co_Cmul, co_Cmul]
      rfl)
  rw [e, Int.sub_eq_add_neg]
  have h1 := bd_mul (ho (o.length - 1)) (hr k)
  have h2 := bd_mul (hr (r.length - 1)) ((ho.pShift (r.length - o.length)) k)
  have h3 := bd_add h1 (y := -(lead r * (FF.pShift o (r.length - o.length)).getD k 0)) (n := m + n) (by rw [Int.natAbs_neg]; exact h2)
  rwa [show max (n + m) (m + n) + 1 = m + n + 1 by omega] at h3
/-- the inner loop's place -/
structure CopIn (one o : List Int) (W : Nat) (r : List Int) : Prop where
  trm : Trm r
  le : r.length ≤ one.length
  lin : ∃ (L : Int) (u : Ser), L ≠ 0 ∧ Pol u ∧ C L * S one = u * S o + S r
  bd : Bd (W + (one.length - r.length) * (W + 1)) r
theorem CopIn.start {one o : List Int} {W : Nat} (t : Trm one) (b : Bd W one) : CopIn one o W one :=
  ⟨t, Nat.le_refl _, ⟨1, 0, by decide, Pol.zero, by rw [C_one]; grind⟩, b.mono (by omega)⟩
theorem CopIn.step {one o r : List Int} {W : Nat} (c : CopIn one o W r) (to : Trm o) (ho : o ≠ []) (bo : Bd W o) (h : o.length ≤ r.length) : CopIn one o W (lStep r o) := by
  obtain ⟨L, u, hL, pu, e⟩ := c.lin
  have hl := lStep_len ho h
  have lo := len_pos ho
  have hle := c.le
  refine ⟨trim_trm _, by omega, ⟨L * lead o, C (lead o) * u + C (lead r) * Xp (r.length - o.length), Int.mul_ne_zero hL (lead_ne to ho), (Pol.C.mul pu).add (Pol.C.mul (Xp_pol _)), ?_⟩, ?_⟩
  · rw [S_lStep h, C_mulC]
    grind
  · refine (Bd.lStep c.bd bo h).mono ?_
    have h1 : (one.length - r.length + 1) * (W + 1) ≤ (one.length - (lStep r o).length) * (W + 1) := Nat.mul_le_mul_right _ (by omega)
    have h2 : (one.length - r.length + 1) * (W + 1) = (one.length - r.length) * (W + 1) + (W + 1) := Nat.succ_mul _ _
    omega
/-- the outer loop's place -/
structure CopInv (one o : List Int) : Prop where
  t1 : Trm one
  t2 : Trm o
  l1 : one.length ≤ 5
  l2 : o.length ≤ 5
  bz : ∃ (c : Int) (s t : Ser), c ≠ 0 ∧ Pol s ∧ Pol t ∧ s * S one + t * S o = C c
  bd : ∃ W, Bd W one ∧ Bd W o ∧ (W + 1) * 6 ^ o.length ≤ 1000000
theorem CopInv.start {P Q : List Int} (c : Canon P Q) (l1 : P.length ≤ 5) (l2 : Q.length ≤ 5) (b1 : Bd 90 P) (b2 : Bd 90 Q) : CopInv P Q :=
  ⟨c.tp, c.tq, l1, l2, c.bz, 90, b1, b2, Nat.le_trans (Nat.mul_le_mul_left 91 (Nat.pow_le_pow_right (by decide) l2)) (by decide)⟩
/-- what stands in the place of o next -/
def lNext (r : List Int) : List Int := if r = [] then [] else lBare r
theorem CopInv.step {one o r : List Int} {W : Nat} (c : CopInv one o) (ho : o ≠ []) (b1 : Bd W one) (b2 : Bd W o) (hW : (W + 1) * 6 ^ o.length ≤ 1000000) (i : CopIn one o W r) (hr : r.length < o.length) : CopInv o (lNext r) ∧ (lNext r).length < o.length := by
  have lo := len_pos ho
  obtain ⟨L, u, hL, pu, e⟩ := i.lin
  obtain ⟨k, s, t, k0, ps, pt, z⟩ := c.bz
  have hl : (lNext r).length = r.length := by
    unfold lNext
    split
    · rename_i h
      rw [h]
    · exact lBare_len r
  obtain ⟨m, m0, em⟩ : ∃ m : Int, m ≠ 0 ∧ S r = C m * S (lNext r) := by
    unfold lNext
    split
    · rename_i h
      refine ⟨1, by decide, ?_⟩
      rw [h, S_nil]
      grind
    · rename_i h
      exact ⟨_, by have := pCon_pos i.trm h; omega, S_lBare⟩
  have tn : Trm (lNext r) := by
    unfold lNext
    split
    · exact Trm.nil
    · exact lBare_trm i.trm
  have l1 := c.l1
  have l2 := c.l2
  have hle := i.le
  refine ⟨⟨c.t2, tn, c.l2, by omega, ⟨L * k, s * u + C L * t, C m * s, Int.mul_ne_zero hL k0, (ps.mul pu).add (Pol.C.mul pt), Pol.C.mul ps, ?_⟩, W + one.length * (W + 1), b2.mono (by omega), ?_, ?_⟩, by omega⟩
  · rw [C_mulC, ← z]
    rw [em] at e
    have h : C L * (s * S one + t * S o) = s * (C L * S one) + C L * t * S o := by grind
    rw [h, e]
    grind
  · have hb : Bd (W + one.length * (W + 1)) r := i.bd.mono (by
      have := Nat.mul_le_mul_right (W + 1) (show one.length - r.length ≤ one.length by omega)
      omega)
    unfold lNext
    split
    · exact Bd.nil
    · rename_i h
      exact Bd.lBare i.trm h hb
  · have h1 : W + one.length * (W + 1) + 1 ≤ 6 * (W + 1) := by
      have := Nat.mul_le_mul_right (W + 1) l1
      omega
    have h2 : 6 ^ (lNext r).length ≤ 6 ^ (o.length - 1) := Nat.pow_le_pow_right (by decide) (by omega)
    have h3 : 6 ^ o.length = 6 * 6 ^ (o.length - 1) := by
      obtain ⟨j, hj⟩ : ∃ j, o.length = j + 1 := ⟨o.length - 1, by omega⟩
      rw [hj, Nat.pow_succ, Nat.mul_comm]
      rfl
    calc (W + one.length * (W + 1) + 1) * 6 ^ (lNext r).length ≤ (6 * (W + 1)) * 6 ^ (o.length - 1) := Nat.mul_le_mul h1 h2
      _ = (W + 1) * 6 ^ o.length := by rw [h3, Nat.mul_comm 6 (W + 1), Nat.mul_assoc]
      _ ≤ 1000000 := hW
theorem CopInv.done {one : List Int} (c : CopInv one []) : one.length ≤ 1 := by
  obtain ⟨k, s, t, k0, ps, pt, z⟩ := c.bz
  rw [S_nil] at z
  have e : s * S one = C k := by rw [← z]; grind
  rw [Ser.mul_comm] at e
  obtain ⟨x, hx⟩ := const_of_mul (S_pol one) ps k0 e
  exact c.t1.len_le (by rw [hx]; exact Dg.C)
theorem canon_gcd {P Q : List Int} (c : Canon P Q) : Nat.gcd (pCon P) (pCon Q) = 1 := by
  refine c.con _ (fun n => ?_) fun n => ?_
  · exact Int.dvd_trans (Int.ofNat_dvd.mpr (Nat.gcd_dvd_left _ _)) (pCon_dv P n)
  · exact Int.dvd_trans (Int.ofNat_dvd.mpr (Nat.gcd_dvd_right _ _)) (pCon_dv Q n)
end FF

/-! Wa: the text by places, what stands behind the top, number, plus, times. -/
namespace Wt
open PySem PySem.Spec PyProof.Rows L2
def topS (i : Nat) : Stmt := PySem.Challenge.pw_wheretrue_k60_whole_fractions_are_a_fiel.main.body.getD i (.Pass ⟨0, 0, 0, 0⟩)
/-- a def of the text behind the top: where it stands, its object -/
structure Df (K : PySem.W.Frag) (mg : Str → Option Value) (x : Str) (st : Stmt) (ps : List Str) where
  f : Addr
  fd : FuncData
  F : Fun K x x st f fd
  b : Binds K fd ps []
  g : mg x = some (.ref f)
abbrev Ok {K : PySem.W.Frag} {mg : Str → Option Value} {x : Str} {st : Stmt} {ps : List Str} (P : Program) (w : World) (base : Heap) (d : Df K mg x st ps) (k : Nat) (sp : Sp) : Prop := FnOk P w K mg base CX0 k d.f d.fd ps sp
theorem same_upd {H : Hp} {p : Addr} {o : HO} (h : H p = none) : Same H (upd H p o) := fun b x e => by
  rw [upd_ne (ne_of_none e h)]
  exact e
/-- a new object o and all else as it was -/
def New (H : Hp) (Q : VK) (o : HO) : Prop := ∀ H' p, Same H H' → H p = none → H' p = some o → Q (.ref p) H'
theorem New.upd {H : Hp} {Q : VK} {o : HO} (h : New H Q o) {p : Addr} (hp : H p = none) : Q (.ref p) (upd H p o) := h _ p (same_upd hp) hp upd_same
theorem New.back {H H1 : Hp} {Q : VK} {o : HO} (h : New H Q o) (s : Same H H1) : New H1 Q o := fun H' p s' hp ho => h H' p (s.trans s') (s.free hp) ho
def L (xs : List Int) : HO := .lst (xs.map V.int)
theorem seq_of {K : PySem.W.Frag} {H : Hp} {a : Addr} {xs : List Int} (h : H a = some (L xs)) : SqL K H a (xs.map V.int) := .inl (.inl h)
/-! ### number, plus, times -/
abbrev sNumber : Stmt := topS 2
abbrev sPlus : Stmt := topS 3
abbrev sTimes : Stmt := topS 4
theorem scNumber : FnScope ["n", "d", "common"] ["n", "d"] (defScope sNumber) := ⟨rfl, rfl, rfl, by decide +kernel, rfl, by decide +kernel, by decide +kernel⟩
theorem scPlus : FnScope ["a", "b"] ["a", "b"] (defScope sPlus) := ⟨rfl, rfl, rfl, by decide +kernel, rfl, by decide +kernel, by decide +kernel⟩
theorem scTimes : FnScope ["a", "b"] ["a", "b"] (defScope sTimes) := ⟨rfl, rfl, rfl, by decide +kernel, rfl, by decide +kernel, by decide +kernel⟩
/-- a pair of ints as a tuple -/
def Pr2 (x : Int × Int) : HO := .tup [.int x.1, .int x.2]
def spNumber : Sp := fun vs H Q _ => ∃ n d : Int, vs = [.int n, .int d] ∧ d ≠ 0 ∧ d.natAbs < 2 ^ 8000 ∧ New H Q (Pr2 (FF.numN n d))
section
variable {P : Program} {w : World} {K : PySem.W.Frag} {mg : Str → Option Value} {base : Heap}
theorem ok_number (d : Df K mg "number" sNumber ["n", "d"]) (mgc : mg "gcd" = some (.builtin "math.gcd")) {k : Nat} : Ok P w base d (k + 1) spNumber := by
  refine d.F.ok scNumber (fun vs H Q E h => ?_) (fun cdv A outer s H vs Q E hr h => ?_)
  · obtain ⟨a, b, rfl, _⟩ := h
    rfl
  · obtain ⟨x, y, rfl, y0, hy, q⟩ := h
    refine ⟨_, pss_cons (ps_if (pt_cmpR op_lt (pv 1) pe_int (nomark _))
        (pss_one (ps_par (i := 0) (j := 1) (by rfl) scNumber.nd rfl rfl (by decide) rfl rfl (pa_cons (pe_un un_neg (pv 0)) (pa_cons (pe_un un_neg (pv 1)) pa_nil)) (by rfl))) pss_nil)
      (pss_cons (ps_set (i := 2) scNumber.nd rfl (.inl rfl) (pe_callBfun cr_gcd (by rfl) mgc (pa_cons (pv 0) (pa_cons (pv 1) pa_nil))))
      (pss_one (ps_ret (pe_tup (pa_cons (pe_op op_fdivW (pv 0) (pv 2)) (pa_cons (pe_op op_fdivW (pv 1) (pv 2)) pa_nil)))))), ?_⟩
    have g0 : 0 < Nat.gcd x.natAbs y.natAbs := Nat.gcd_pos_of_pos_right _ (by omega)
    have gl : Nat.gcd x.natAbs y.natAbs < 2 ^ 8000 := Nat.lt_of_le_of_lt (Nat.gcd_le_right _ (by omega)) hy
    have gi : (0 : Int) < (Nat.gcd x.natAbs y.natAbs : Nat) := by omega
    have cd : ∀ i : Int, CDivW i ((Nat.gcd x.natAbs y.natAbs : Nat) : Int) := fun i => wide_div gi (by rw [Int.natAbs_natCast]; exact gl) (by decide) (by decide)
    refine ⟨_, rfl, _, _, rfl, rfl, _, rfl, ite2 (fun e => ?_) (fun e => ?_)⟩
    · have e' : y < 0 := of_decide_eq_true e
      refine ⟨_, rfl, _, rfl, _, rfl, _, rfl, _, _, rfl, ?_⟩
      have eg : Nat.gcd (-x).natAbs (-y).natAbs = Nat.gcd x.natAbs y.natAbs := by rw [Int.natAbs_neg, Int.natAbs_neg]
      refine ⟨_, rfl, _, rfl, _, _, rfl, ?_⟩
      rw [eg]
      refine ⟨_, rfl, _, rfl, _, _, rfl, rfl, cd _, _, rfl, _, rfl, _, _, rfl, rfl, cd _, by show 2 ≤ sizeLine; decide, fun p hp => ?_⟩
      have en : FF.numN x y = ((-x) / ((Nat.gcd x.natAbs y.natAbs : Nat) : Int), (-y) / ((Nat.gcd x.natAbs y.natAbs : Nat) : Int)) := if_pos e'
      rw [en] at q
      exact q.upd hp
    · have e' : ¬ y < 0 := fun z => e (decide_eq_true z)
      refine ⟨_, rfl, _, rfl, _, _, rfl, ?_⟩
      refine ⟨_, rfl, _, rfl, _, _, rfl, rfl, cd _, _, rfl, _, rfl, _, _, rfl, rfl, cd _, by show 2 ≤ sizeLine; decide, fun p hp => ?_⟩
      have en : FF.numN x y = (x / ((Nat.gcd x.natAbs y.natAbs : Nat) : Int), y / ((Nat.gcd x.natAbs y.natAbs : Nat) : Int)) := if_neg e'
      rw [en] at q
      exact q.upd hp
end
end Wt

/-! Wb: trimmed, coefficient_of, add, scale, subtract, content. -/
namespace Wt
open PySem PySem.Spec PyProof.Rows L2
abbrev sTrimmed : Stmt := topS 6
abbrev sCoef : Stmt := topS 7
abbrev sAdd : Stmt := topS 8
abbrev sScale : Stmt := topS 9
abbrev sSubtract : Stmt := topS 10
abbrev sContent : Stmt := topS 12
theorem scTrimmed : FnScope ["coefficients", "many"] ["coefficients"] (defScope sTrimmed) := ⟨rfl, rfl, rfl, by decide +kernel, rfl, by decide +kernel, by decide +kernel⟩
theorem scCoef : FnScope ["a", "power"] ["a", "power"] (defScope sCoef) := ⟨rfl, rfl, rfl, by decide +kernel, rfl, by decide +kernel, by decide +kernel⟩
theorem scAdd : FnScope ["a", "b", "many", "k"] ["a", "b"] (defScope sAdd) := ⟨rfl, rfl, rfl, by decide +kernel, rfl, by decide +kernel, by decide +kernel⟩
theorem scScale : FnScope ["a", "factor", "coefficient"] ["a", "factor"] (defScope sScale) := ⟨rfl, rfl, rfl, by decide +kernel, rfl, by decide +kernel, by decide +kernel⟩
theorem scSubtract : FnScope ["a", "b"] ["a", "b"] (defScope sSubtract) := ⟨rfl, rfl, rfl, by decide +kernel, rfl, by decide +kernel, by decide +kernel⟩
theorem scContent : FnScope ["a", "found", "coefficient"] ["a"] (defScope sContent) := ⟨rfl, rfl, rfl, by decide +kernel, rfl, by decide +kernel, by decide +kernel⟩
theorem cut_take (xs : List V) {m : Nat} (h : m ≤ xs.length) : cutV xs none (some (m : Int)) = xs.take m := by
  unfold cutV
  rw [HT.sIx_none, HT.sIx_nat, Nat.min_eq_left h]
  rfl
theorem get_int {ns : List Int} {j : Nat} (h : j < ns.length) : (ns.map V.int)[j]? = some (.int (ns.getD j 0)) := by
  rw [List.getElem?_map, List.getD_eq_getElem?_getD, List.getElem?_eq_getElem h]
  rfl
theorem at_int {ns : List Int} {j : Nat} (h : j < ns.length) : atI (ns.map V.int) ((j : Nat) : Int) = some (.int (ns.getD j 0)) := atI_nat (get_int h)
theorem at_int' {ns : List Int} {j : Nat} {z : Int} (e : z = (j : Int)) (h : j < ns.length) : atI (ns.map V.int) z = some (.int (ns.getD j 0)) := by
  rw [e]
  exact at_int h
def spTrimmed (K : PySem.W.Frag) : Sp := fun vs H Q _ => ∃ (a : Addr) (ns : List Int), vs = [.ref a] ∧ SqL K H a (ns.map V.int) ∧ ns.length ≤ 1000 ∧ New H Q (L (FF.trim ns))
def spCoef (K : PySem.W.Frag) : Sp := fun vs H Q _ => ∃ (a : Addr) (ns : List Int) (k : Nat), vs = [.ref a, .int k] ∧ SqL K H a (ns.map V.int) ∧ ns.length ≤ 1000 ∧ Q (.int (ns.getD k 0)) H
def spAdd (K : PySem.W.Frag) : Sp := fun vs H Q _ => ∃ (a b : Addr) (xs ys : List Int), vs = [.ref a, .ref b] ∧ SqL K H a (xs.map V.int) ∧ SqL K H b (ys.map V.int) ∧ xs.length ≤ 900 ∧ ys.length ≤ 900 ∧ New H Q (L (FF.pAdd xs ys))
def spScale (K : PySem.W.Frag) : Sp := fun vs H Q _ => ∃ (a : Addr) (xs : List Int) (c : Int), vs = [.ref a, .int c] ∧ SqL K H a (xs.map V.int) ∧ xs.length ≤ 900 ∧ (∀ x ∈ xs, IntMulOk x c) ∧ New H Q (L (FF.pScale xs c))
def spSubtract (K : PySem.W.Frag) : Sp := fun vs H Q _ => ∃ (a b : Addr) (xs ys : List Int), vs = [.ref a, .ref b] ∧ SqL K H a (xs.map V.int) ∧ SqL K H b (ys.map V.int) ∧ xs.length ≤ 900 ∧ ys.length ≤ 900 ∧ (∀ y ∈ ys, IntMulOk y (-1)) ∧ New H Q (L (FF.pSub xs ys))
def spContent (K : PySem.W.Frag) : Sp := fun vs H Q _ => ∃ (a : Addr) (xs : List Int), vs = [.ref a] ∧ SqL K H a (xs.map V.int) ∧ Q (.int (FF.pCon xs)) H
/-- a * b, any ints whose product has a size -/
theorem op_mulX {X : Cx} : OpR X (binaryOp .Mult) (rI IntMulOk fun i j => .int (i * j)) := opI fun _ _ _ _ _ _ _ hc q => mul_int q hc
section
variable {P : Program} {w : World} {K : PySem.W.Frag} {mg : Str → Option Value} {base : Heap}
theorem ok_trimmed (d : Df K mg "trimmed" sTrimmed ["coefficients"]) (ml : mg "len" = none) {k : Nat} : Ok P w base d (k + 1) (spTrimmed K) := by
  refine d.F.ok scTrimmed (fun vs H Q E h => ?_) (fun cdv A outer s H vs Q E hr h => ?_)
  · obtain ⟨a, b, rfl, _⟩ := h
    rfl
  · obtain ⟨a, ns, rfl, hS, hl, q⟩ := h
    refine ⟨_, pss_cons (ps_set (i := 1) scTrimmed.nd rfl (.inl rfl) (pe_callB call_len_seq (by rfl) ml PySem.boot_len (pa_cons (pv 0) pa_nil)))
      (pss_cons (ps_while PassesOwn.never (PW.pt (pw_and (pt_cmpR op_gt (pv 1) pe_int (nomark _)) (pw_and1 (pt_cmpR op_eq (pe_ix ix_list (pv 0) (pe_op op_sub (pv 1) pe_int) (fun _ _ => rfl)) pe_int (nomark _)))))
        (pss_one (ps_aug (i := 1) scTrimmed.nd rfl (.inl rfl) pe_int ip_sub)))
      (pss_one (ps_ret (pe_slice sl_list (pv 0) po_none (po_some (pv 1)))))), ?_⟩
    refine ⟨.ref a, rfl, a, _, rfl, .inl hS, ?_⟩
    refine ⟨fun m σ H' => H' = H ∧ σ = [some (.ref a), some (.int (m : Nat))] ∧ m ≤ ns.length ∧ ∀ n, m ≤ n → ns.getD n 0 = 0, ⟨ns.length, rfl, by rw [List.length_map]; rfl, Nat.le_refl _, fun n h => FF.getD_out h⟩, ?_⟩
    rintro m σ H' ⟨rfl, rfl, hm, hz⟩
    -- the loop's end: many is m
    have fin : (∀ n, m = n + 1 → ns.getD n 0 ≠ 0) → New H' Q (HO.lst (cutV (ns.map V.int) none (some (m : Int)))) := fun hn => by
      have e : cutV (ns.map V.int) none (some (m : Int)) = (FF.trim ns).map V.int := by
        rw [cut_take _ (by rw [List.length_map]; exact hm), ← List.map_take, FF.trim_take hm hz hn]
      rw [e]
      exact q
    refine ⟨_, rfl, _, _, rfl, rfl, _, rfl, ?_⟩
    by_cases h0 : m = 0
    · subst h0
      rw [decide_eq_false (by decide)]
      refine iteF ?_
      exact iteF ⟨.ref a, rfl, _, rfl, _, rfl, a, _, rfl, hS, fun p hp => (fin (fun n h => by omega)).upd hp⟩
    · rw [decide_eq_true (show ((m : Nat) : Int) > 0 by omega)]
      refine iteT ?_
      refine ⟨.ref a, rfl, _, rfl, _, _, rfl, rfl, a, _, _, .int (ns.getD (m - 1) 0), rfl, rfl, hS, at_int' (j := m - 1) (by omega) (by omega), rfl, _, rfl, ?_⟩
      by_cases hx : ns.getD (m - 1) 0 = 0
      · rw [hx, decide_eq_true rfl]
        refine iteT ?_
        refine ⟨fun σ' H'' => H'' = H' ∧ σ' = [some (.ref a), some (.int ((m - 1 : Nat) : Int))], fun σ' H'' ⟨e1, e2⟩ => ⟨m - 1, by omega, e1, e2, by omega, fun n h => ?_⟩, ?_⟩
        · rcases Nat.lt_or_ge n m with z | z
          · rw [show n = m - 1 by omega]
            exact hx
          · exact hz n z
        · refine ⟨_, rfl, _, _, rfl, rfl, rfl, ?_⟩
          show [some (V.ref a), some (V.int ((m : Int) - 1))] = _
          rw [show ((m - 1 : Nat) : Int) = (m : Int) - 1 by omega]
      · rw [decide_eq_false (fun z : V.int (ns.getD (m - 1) 0) = V.int 0 => hx (V.int.inj z))]
        exact iteF ⟨.ref a, rfl, _, rfl, _, rfl, a, _, rfl, hS, fun p hp => (fin (fun n h => by rw [show n = m - 1 by omega]; exact hx)).upd hp⟩
theorem ok_coef (d : Df K mg "coefficient_of" sCoef ["a", "power"]) (ml : mg "len" = none) {k : Nat} : Ok P w base d (k + 1) (spCoef K) := by
  refine d.F.ok scCoef (fun vs H Q E h => ?_) (fun cdv A outer s H vs Q E hr h => ?_)
  · obtain ⟨a, b, c, rfl, _⟩ := h
    rfl
  · obtain ⟨a, ns, j, rfl, hS, hl, q⟩ := h
    refine ⟨_, pss_one (ps_ret (pe_ifExp (pt_cmpR op_lt (pv 1) (pe_callB call_len_seq (by rfl) ml PySem.boot_len (pa_cons (pv 0) pa_nil)) (nomark _)) (pe_ix ix_list (pv 0) (pv 1) (fun _ _ => rfl)) pe_int)), ?_⟩
    refine ⟨_, rfl, .ref a, rfl, a, _, rfl, .inl hS, _, _, rfl, rfl, _, rfl, ?_⟩
    rw [List.length_map]
    by_cases hj : j < ns.length
    · rw [decide_eq_true (show ((j : Nat) : Int) < ((ns.length : Nat) : Int) by omega)]
      exact iteT ⟨.ref a, rfl, _, rfl, a, _, _, _, rfl, rfl, hS, at_int hj, q⟩
    · rw [decide_eq_false (show ¬ ((j : Nat) : Int) < ((ns.length : Nat) : Int) by omega)]
      rw [FF.getD_out (by omega)] at q
      exact iteF q
theorem ok_add (d : Df K mg "add" sAdd ["a", "b"]) (dT : Df K mg "trimmed" sTrimmed ["coefficients"]) (dC : Df K mg "coefficient_of" sCoef ["a", "power"]) (ml : mg "len" = none) (mm : mg "max" = none) (mr : mg "range" = none) {k : Nat} : Ok P w base d (k + 2) (spAdd K) := by
  have GT : Ok P w base dT (k + 1) (spTrimmed K) := ok_trimmed dT ml
  have GC : Ok P w base dC (k + 1) (spCoef K) := ok_coef dC ml
  refine d.F.ok scAdd (fun vs H Q E h => ?_) (fun cdv A outer s H vs Q E hr h => ?_)
  · obtain ⟨a, b, c, e, rfl, _⟩ := h
    rfl
  · obtain ⟨a, b, xs, ys, rfl, hA, hB, la, lb, q⟩ := h
    refine ⟨_, pss_cons (ps_set (i := 2) scAdd.nd rfl (.inl rfl) (pe_callB (call_max2 rfl) (by rfl) mm boot_max (pa_cons (pe_callB call_len_seq (by rfl) ml PySem.boot_len (pa_cons (pv 0) pa_nil)) (pa_cons (pe_callB call_len_seq (by rfl) ml PySem.boot_len (pa_cons (pv 1) pa_nil)) pa_nil))))
      (pss_one (ps_ret (pe_call GT hr (by rfl) dT.g dT.F.kp dT.b .nil pass0 (pa_cons
        (pe_lc (own := [("k", 3)]) (g := gName 3) (tt := tYes) rfl scAdd.nd (pi_range1 rfl mr (pa_cons (pv 2) pa_nil))
          (blkOk_by (N := ["a", "b", "many", "k"]) (sc := defScope sAdd) (by decide +kernel)) (fun _ _ _ _ _ => pg_name (i := 3) scAdd.nd rfl (.inl rfl)) (fun _ _ _ _ _ => pts_nil)
          (fun _ _ _ _ _ => pe_op op_add (pe_call GC hr (by rfl) dC.g dC.F.kp dC.b .nil pass0 (pa_cons (pv 0) (pa_cons (pv 3) pa_nil))) (pe_call GC hr (by rfl) dC.g dC.F.kp dC.b .nil pass0 (pa_cons (pv 1) (pa_cons (pv 3) pa_nil)))))
        pa_nil)))), ?_⟩
    refine ⟨.ref a, rfl, a, _, rfl, .inl hA, .ref b, rfl, b, _, rfl, .inl hB, _, _, rfl, ?_⟩
    have em : (if (((ys.map V.int).length : Nat) : Int) > (((xs.map V.int).length : Nat) : Int) then (((ys.map V.int).length : Nat) : Int) else (((xs.map V.int).length : Nat) : Int)) = ((max xs.length ys.length : Nat) : Int) := by
      rw [List.length_map, List.length_map]
      split <;> omega
    rw [em]
    refine ⟨_, rfl, ((max xs.length ys.length : Nat) : Int), rfl, by omega, by omega, fun D hD => ?_⟩
    have sD : Same H (upd H D (.lst [])) := same_upd hD
    refine lc_range (n := max xs.length ys.length) (fun i H' => Same H H' ∧ H' D = some (L ((List.range i).map fun k => xs.getD k 0 + ys.getD k 0))) ⟨sD, upd_same⟩ (fun i H' hi ⟨s1, hD1⟩ => ?_) (fun H' ⟨s1, hD1⟩ => ?_)
    · refine ⟨rfl, .ref a, rfl, _, rfl, a, xs, i, by rw [Int.zero_add]; rfl, s1.seq hA, by omega, ?_⟩
      refine ⟨.ref b, rfl, _, rfl, b, ys, i, by rw [Int.zero_add]; rfl, s1.seq hB, by omega, ?_⟩
      refine ⟨_, _, rfl, rfl, _, hD1, ?_, fun c o e => ?_, ?_⟩
      · rw [List.length_map, List.length_map, List.length_range]
        exact small1000 (by omega)
      · have : c ≠ D := ne_of_none e hD
        rw [upd_ne this]
        exact s1 c o e
      · rw [upd_same, List.range_succ, List.map_append]
        show some (HO.lst (_ ++ [V.int (xs.getD i 0 + ys.getD i 0)])) = some (HO.lst ((_ ++ [xs.getD i 0 + ys.getD i 0]).map V.int))
        rw [List.map_append]
        rfl
    · refine ⟨D, _, rfl, seq_of hD1, by rw [List.length_map, List.length_range]; omega, q.back s1⟩
theorem ok_scale (d : Df K mg "scale" sScale ["a", "factor"]) (dT : Df K mg "trimmed" sTrimmed ["coefficients"]) (ml : mg "len" = none) {k : Nat} : Ok P w base d (k + 2) (spScale K) := by
  have GT : Ok P w base dT (k + 1) (spTrimmed K) := ok_trimmed dT ml
  refine d.F.ok scScale (fun vs H Q E h => ?_) (fun cdv A outer s H vs Q E hr h => ?_)
  · obtain ⟨a, b, c, rfl, _⟩ := h
    rfl
  · obtain ⟨a, xs, c, rfl, hA, la, hm, q⟩ := h
    refine ⟨_, pss_one (ps_ret (pe_call GT hr (by rfl) dT.g dT.F.kp dT.b .nil pass0 (pa_cons
        (pe_lc (own := [("coefficient", 2)]) (g := gName 2) (tt := tYes) rfl scScale.nd (pi_list (pv 0))
          (blkOk_by (N := ["a", "factor", "coefficient"]) (sc := defScope sScale) (by decide +kernel)) (fun _ _ _ _ _ => pg_name (i := 2) scScale.nd rfl (.inl rfl)) (fun _ _ _ _ _ => pts_nil)
          (fun _ _ _ _ _ => pe_op op_mulX (pv 2) (pv 1)))
        pa_nil))), ?_⟩
    refine ⟨.ref a, rfl, a, rfl, ⟨_, hA⟩, fun D hD => ?_⟩
    have sD : Same H (upd H D (.lst [])) := same_upd hD
    refine lc_list (K := K) (a := a) (xs := xs.map V.int) (fun i H' => Same H H' ∧ H' D = some (L ((xs.take i).map fun x => x * c))) ⟨sD, upd_same⟩ (fun i H' hi ⟨s1, _⟩ => s1.seq hA) (fun i x H' hx ⟨s1, hD1⟩ => ?_) (fun H' ⟨s1, hD1⟩ => ?_)
    · have hi : i < xs.length := by
        have := (List.getElem?_eq_some_iff.mp hx).1
        rwa [List.length_map] at this
      rw [get_int hi] at hx
      cases hx
      have hmem : xs.getD i 0 ∈ xs := by
        rw [List.getD_eq_getElem?_getD, List.getElem?_eq_getElem hi]
        exact List.getElem_mem hi
      refine ⟨rfl, _, rfl, _, rfl, _, _, rfl, rfl, hm _ hmem, _, hD1, ?_, fun c' o e => ?_, ?_⟩
      · rw [List.length_map, List.length_map, List.length_take]
        exact small1000 (by omega)
      · have : c' ≠ D := ne_of_none e hD
        rw [upd_ne this]
        exact s1 c' o e
      · rw [upd_same, List.take_add_one, List.getElem?_eq_getElem hi, List.map_append]
        show some (HO.lst (_ ++ [V.int (xs.getD i 0 * c)])) = some (HO.lst ((_ ++ [xs[i] * c]).map V.int))
        rw [List.map_append, List.getD_eq_getElem?_getD, List.getElem?_eq_getElem hi]
        rfl
    · rw [List.length_map, List.take_length] at hD1
      refine ⟨D, _, rfl, seq_of hD1, by rw [List.length_map]; omega, q.back s1⟩
theorem ok_subtract (d : Df K mg "subtract" sSubtract ["a", "b"]) (dA : Df K mg "add" sAdd ["a", "b"]) (dS : Df K mg "scale" sScale ["a", "factor"]) (dT : Df K mg "trimmed" sTrimmed ["coefficients"]) (dC : Df K mg "coefficient_of" sCoef ["a", "power"]) (ml : mg "len" = none) (mm : mg "max" = none) (mr : mg "range" = none) {k : Nat} : Ok P w base d (k + 3) (spSubtract K) := by
  have GA : Ok P w base dA (k + 2) (spAdd K) := ok_add dA dT dC ml mm mr
  have GS : Ok P w base dS (k + 2) (spScale K) := ok_scale dS dT ml
  refine d.F.ok scSubtract (fun vs H Q E h => ?_) (fun cdv A outer s H vs Q E hr h => ?_)
  · obtain ⟨a, b, c, e, rfl, _⟩ := h
    rfl
  · obtain ⟨a, b, xs, ys, rfl, hA, hB, la, lb, hm, q⟩ := h
    refine ⟨_, pss_one (ps_ret (pe_call GA hr (by rfl) dA.g dA.F.kp dA.b .nil pass0 (pa_cons (pv 0) (pa_cons (pe_call GS hr (by rfl) dS.g dS.F.kp dS.b .nil pass0 (pa_cons (pv 1) (pa_cons (pe_un un_neg pe_int) pa_nil))) pa_nil)))), ?_⟩
    refine ⟨.ref a, rfl, .ref b, rfl, 1, rfl, b, ys, -1, rfl, hB, lb, hm, fun H1 p s1 hp h1 => ?_⟩
    exact ⟨a, p, xs, FF.pScale ys (-1), rfl, s1.seq hA, seq_of h1, la, Nat.le_trans (FF.pScale_len _ _) lb, New.back q s1⟩
theorem ok_content (d : Df K mg "content" sContent ["a"]) (mgc : mg "gcd" = some (.builtin "math.gcd")) {k : Nat} : Ok P w base d (k + 1) (spContent K) := by
  refine d.F.ok scContent (fun vs H Q E h => ?_) (fun cdv A outer s H vs Q E hr h => ?_)
  · obtain ⟨a, b, rfl, _⟩ := h
    rfl
  · obtain ⟨a, xs, rfl, hA, q⟩ := h
    refine ⟨_, pss_cons (ps_set (i := 1) scContent.nd rfl (.inl rfl) pe_int)
      (pss_cons (ps_for PassesOwn.never rfl (pi_list (pv 0)) (pg_name (i := 2) scContent.nd rfl (.inl rfl))
        (pss_one (ps_set (i := 1) scContent.nd rfl (.inl rfl) (pe_callBfun cr_gcd (by rfl) mgc (pa_cons (pv 1) (pa_cons (pv 2) pa_nil))))))
      (pss_one (ps_ret (pv 1)))), ?_⟩
    refine ⟨_, rfl, a, rfl, ⟨_, hA⟩, for_list (K := K) (a := a) (xs := xs.map V.int) (fun i σ H' => H' = H ∧ ∃ v, σ = [some (.ref a), some (.int ((xs.take i).foldl (fun g x => Nat.gcd g x.natAbs) 0 : Nat)), v]) ⟨rfl, none, rfl⟩ (fun i σ H' _ ⟨e, _⟩ => by rw [e]; exact hA) ?_ ?_⟩
    · rintro i x σ H' hx ⟨rfl, v, rfl⟩
      have hi : i < xs.length := by
        have := (List.getElem?_eq_some_iff.mp hx).1
        rwa [List.length_map] at this
      rw [get_int hi] at hx
      cases hx
      refine ⟨_, rfl, _, rfl, _, _, rfl, rfl, some (.int (xs.getD i 0)), ?_⟩
      rw [List.take_add_one, List.getElem?_eq_getElem hi, List.foldl_append]
      rw [List.getD_eq_getElem?_getD, List.getElem?_eq_getElem hi]
      rfl
    · rintro σ H' ⟨rfl, v, rfl⟩
      rw [List.length_map, List.take_length]
      exact ⟨_, rfl, q⟩
end
end Wt

/-! Wc: multiply. -/
namespace L2
open PySem PySem.Spec PyProof.Rows
/-- for i, x in enumerate(xs): T is the place of the pair -/
theorem for_enum {K : PySem.W.Frag} {a : Addr} {xs : List V} {g : TG} {tb : TS} {D : Ends} {σ : St} {H : Hp} (Now : Nat → St → Hp → Prop) (first : Now 0 σ H) (stands : ∀ j τ J, j ≤ xs.length → Now j τ J → SqL K J a xs)
    (turn : ∀ j y τ J T, xs[j]? = some y → Now j τ J → J T = none → g (.ref T) τ (upd J T (.tup [.int (j : Nat), y])) fun τ2 J2 => tb { D with nx := Now (j + 1), ct := Now (j + 1), bk := D.nx } τ2 J2) (last : ∀ τ J, Now xs.length τ J → D.nx τ J) :
    ∃ R : Nat → Nat → St → Hp → Prop, (∃ k, R 0 k σ H) ∧ ∀ j k τ J, R j k τ J → ((Ite K a).stop j J ∧ D.nx τ J) ∨
      ((Ite K a).go j J ∧ ∃ N : St → Hp → Prop, (∀ τ' J', N τ' J' → ∃ k', k' < k ∧ R (j + 1) k' τ' J') ∧ ∀ y J', (Ite K a).yld j J y J' → g y τ J' fun τ2 J2 => tb { D with nx := N, ct := N, bk := D.nx } τ2 J2) := by
  refine ⟨fun j k τ J => j + k = xs.length ∧ Now j τ J, ⟨xs.length, Nat.zero_add _, first⟩, fun j k τ J hR => ?_⟩
  obtain ⟨hk, now⟩ := hR
  have here := stands j τ J (by omega) now
  cases k with
  | zero =>
    have full : j = xs.length := hk
    subst full
    exact .inl ⟨⟨xs, here, Nat.le_refl _⟩, last τ J now⟩
  | succ k =>
    have some_y : xs[j]? = some (xs[j]'(by omega)) := List.getElem?_eq_getElem _
    refine .inr ⟨⟨xs, _, here, some_y⟩, Now (j + 1), fun τ' J' now' => ⟨k, by omega, by omega, now'⟩, fun y J' got => ?_⟩
    obtain ⟨T, z, rfl, newT, rfl, items⟩ := got
    exact turn j z τ J T (items xs here) now newT
def tGetL (K : PySem.W.Frag) : V → V → Hp → VK → Prop := fun o i H Q => ∃ p xs k v, o = .ref p ∧ i = .int k ∧ SqL K H p xs ∧ 0 ≤ k ∧ xs[k.toNat]? = some v ∧ Q v H
theorem get_list {X : Cx} : PGet X (tGetL X.K) := by
  intro pins s σ H o i ov iv Q I ro ri h
  obtain ⟨p, xs, k, v, rfl, rfl, hq, h0, hv, q⟩ := h
  cases ro
  obtain ⟨t, rfl⟩ := ri
  obtain ⟨its, r, pl, hz⟩ := I.list hq
  obtain ⟨u, eu, ru⟩ := r.get hv
  have hlt := (List.getElem?_eq_some_iff.mp hv).1
  have hn := line63
  exact wpAny_getItem_list pl.isList h0 (by omega) (by simpa using eu) ⟨v, H, I, ru, q⟩
end L2
namespace Wt
open PySem PySem.Spec PyProof.Rows L2
abbrev sMultiply : Stmt := topS 11
theorem scMultiply : FnScope ["a", "b", "found", "i", "x", "j", "y"] ["a", "b"] (defScope sMultiply) := ⟨rfl, rfl, rfl, by decide +kernel, rfl, by decide +kernel, by decide +kernel⟩
def spMultiply (K : PySem.W.Frag) : Sp := fun vs H Q _ => ∃ (a b : Addr) (xs ys : List Int), vs = [.ref a, .ref b] ∧ SqL K H a (xs.map V.int) ∧ SqL K H b (ys.map V.int) ∧ xs.length ≤ 400 ∧ ys.length ≤ 400 ∧ (∀ x ∈ xs, ∀ y ∈ ys, IntMulOk x y) ∧ New H Q (L (FF.pMul xs ys))
theorem rep_flat (n : Nat) (v : V) : (List.replicate n [v]).flatten = List.replicate n v := by
  induction n with
  | zero => rfl
  | succ n ih => rw [List.replicate_succ, List.flatten_cons, ih]; rfl
theorem getD_mem {xs : List Int} {i : Nat} (h : i < xs.length) : xs.getD i 0 ∈ xs := by
  rw [List.getD_eq_getElem?_getD, List.getElem?_eq_getElem h]
  exact List.getElem_mem h
theorem lt_of_get {xs : List Int} {i : Nat} {x : V} (h : (xs.map V.int)[i]? = some x) : i < xs.length := by
  have := (List.getElem?_eq_some_iff.mp h).1
  rwa [List.length_map] at this
/-- a tracked list at an address that was free before -/
theorem same_set {H H' : Hp} {F : Addr} {o : HO} (s : Same H H') (hF : H F = none) : Same H (upd H' F o) := fun b x e => by
  rw [upd_ne (ne_of_none e hF)]
  exact s b x e
section
variable {P : Program} {w : World} {K : PySem.W.Frag} {mg : Str → Option Value} {base : Heap}
theorem ok_multiply (d : Df K mg "multiply" sMultiply ["a", "b"]) (ml : mg "len" = none) (me : mg "enumerate" = none) {k : Nat} : Ok P w base d (k + 1) (spMultiply K) := by
  refine d.F.ok scMultiply (fun vs H Q E h => ?_) (fun cdv A outer s H vs Q E hr h => ?_)
  · obtain ⟨a, b, c, e, rfl, _⟩ := h
    rfl
  · obtain ⟨a, b, xs, ys, rfl, hA, hB, la, lb, hm, q⟩ := h
    refine ⟨_, pss_cons (ps_if (PW.pt (pw_or (pt_not (pt_truth (pv 0) (by intro _; rfl))) (pw_or1 (pt_not (pt_truth (pv 1) (by intro _; rfl))))))
        (pss_one (ps_ret (pe_lst pa_nil))) pss_nil)
      (pss_cons (ps_set (i := 2) scMultiply.nd rfl (.inl rfl) (pe_op op_rep (pe_lst (pa_cons pe_int pa_nil))
          (pe_op op_sub (pe_op op_add (pe_callB call_len_seq (by rfl) ml PySem.boot_len (pa_cons (pv 0) pa_nil)) (pe_callB call_len_seq (by rfl) ml PySem.boot_len (pa_cons (pv 1) pa_nil))) pe_int)))
      (pss_cons (ps_for PassesOwn.never rfl (pi_enum (by rfl) me (pa_cons (pv 0) pa_nil)) (pg_tup rfl (pgs_cons (pg_name (i := 3) scMultiply.nd rfl (.inl rfl)) (pgs_cons (pg_name (i := 4) scMultiply.nd rfl (.inl rfl)) pgs_nil)))
        (pss_one (ps_for PassesOwn.never rfl (pi_enum (by rfl) me (pa_cons (pv 1) pa_nil)) (pg_tup rfl (pgs_cons (pg_name (i := 5) scMultiply.nd rfl (.inl rfl)) (pgs_cons (pg_name (i := 6) scMultiply.nd rfl (.inl rfl)) pgs_nil)))
          (pss_one (ps_augS (pv 2) (pe_op op_add (pv 3) (pv 5)) get_list (pe_op op_mulX (pv 4) (pv 6)) ip_add set_list)))))
      (pss_one (ps_ret (pv 2))))), ?_⟩
    by_cases hx : xs = []
    · subst hx
      refine ⟨.ref a, rfl, true && false, .inl ⟨_, hA, rfl⟩, ?_⟩
      refine iteT ?_
      refine iteT ?_
      exact ⟨Nat.zero_le _, fun p hp => q.upd hp⟩
    have ex : (xs.map V.int).isEmpty = false := by
      cases xs with
      | nil => exact absurd rfl hx
      | cons _ _ => rfl
    refine ⟨.ref a, rfl, true, .inl ⟨_, hA, by rw [ex]; rfl⟩, ?_⟩
    refine iteF ?_
    by_cases hy : ys = []
    · subst hy
      refine ⟨.ref b, rfl, false, .inl ⟨_, hB, rfl⟩, ?_⟩
      refine iteT ?_
      have e0 : FF.pMul xs [] = [] := if_pos (.inr rfl)
      rw [e0] at q
      exact ⟨Nat.zero_le _, fun p hp => q.upd hp⟩
    have ey : (ys.map V.int).isEmpty = false := by
      cases ys with
      | nil => exact absurd rfl hy
      | cons _ _ => rfl
    refine ⟨.ref b, rfl, true, .inl ⟨_, hB, by rw [ey]; rfl⟩, ?_⟩
    refine iteF ?_
    have lx := FF.len_pos hx
    have ly := FF.len_pos hy
    refine ⟨by decide, fun z hz => ?_⟩
    have sz : Same H (upd H z (.lst [.int 0])) := same_upd hz
    refine ⟨.ref a, rfl, a, _, rfl, .inl (sz.seq hA), .ref b, rfl, b, _, rfl, .inl (sz.seq hB), _, _, rfl, rfl, _, _, rfl, rfl, ?_⟩
    rw [List.length_map, List.length_map]
    have en : (((xs.length : Nat) : Int) + ((ys.length : Nat) : Int) - 1).toNat = xs.length + ys.length - 1 := by omega
    refine ⟨z, _, _, rfl, rfl, upd_same, by omega, by omega, ?_, fun F hF => ?_⟩
    · rw [en]
      show 1 * (xs.length + ys.length - 1) ≤ sizeLine
      have := small1000 (n := xs.length + ys.length) (by omega)
      omega
    have hF0 : H F = none := sz.free hF
    rw [en, rep_flat]
    refine ⟨.ref a, rfl, a, _, rfl, (same_set sz hF0).seq hA, ?_⟩
    refine for_enum (K := K) (a := a) (xs := xs.map V.int) (fun i σ H' => Same H H' ∧ ∃ f v3 v4 v5 v6, σ = [some (.ref a), some (.ref b), some (.ref F), v3, v4, v5, v6] ∧ FF.MulInv xs ys i 0 f ∧ H' F = some (L f))
      ⟨same_set sz hF0, _, none, none, none, none, rfl, FF.MulInv.start xs ys _ rfl, ?_⟩ (fun i σ H' _ h => h.1.seq hA) ?_ ?_
    · rw [upd_same]
      show some (HO.lst _) = some (HO.lst _)
      rw [List.map_replicate]
    · rintro i x σ H1 T hi ⟨s1, f, v3, v4, v5, v6, rfl, inv, hf⟩ nT
      have hil := lt_of_get hi
      rw [get_int hil] at hi
      cases hi
      have sT : Same H1 (upd H1 T (.tup [.int (i : Nat), .int (xs.getD i 0)])) := same_upd nT
      refine ⟨T, _, rfl, .inl (.inl upd_same), rfl, _, _, rfl, _, _, rfl, rfl, ?_⟩
      refine ⟨.ref b, rfl, b, _, rfl, (s1.trans sT).seq hB, ?_⟩
      refine for_enum (K := K) (a := b) (xs := ys.map V.int) (fun j σ H' => Same H H' ∧ ∃ f v5 v6, σ = [some (.ref a), some (.ref b), some (.ref F), some (.int (i : Nat)), some (.int (xs.getD i 0)), v5, v6] ∧ FF.MulInv xs ys i j f ∧ H' F = some (L f))
        ⟨s1.trans sT, f, v5, v6, rfl, inv, sT _ _ hf⟩ (fun i σ H' _ h => h.1.seq hB) ?_ ?_
      · rintro j y σ H2 U hj ⟨s2, g, v5, v6, rfl, inv2, hg⟩ nU
        have hjl := lt_of_get hj
        rw [get_int hjl] at hj
        cases hj
        have sU : Same H2 (upd H2 U (.tup [.int (j : Nat), .int (ys.getD j 0)])) := same_upd nU
        refine ⟨U, _, rfl, .inl (.inl upd_same), rfl, _, _, rfl, _, _, rfl, rfl, ?_⟩
        have lg : i + j < g.length := by rw [inv2.len]; omega
        have eij : (((i : Nat) : Int) + ((j : Nat) : Int)).toNat = i + j := by omega
        refine ⟨.ref F, rfl, _, rfl, _, rfl, _, _, rfl, rfl, ?_⟩
        refine ⟨F, _, _, .int (g.getD (i + j) 0), rfl, rfl, seq_of (sU _ _ hg), by omega, by rw [eij]; exact get_int lg, ?_⟩
        refine ⟨_, rfl, _, rfl, _, _, rfl, rfl, hm _ (getD_mem hil) _ (getD_mem hjl), ?_⟩
        refine ⟨_, _, rfl, rfl, ?_⟩
        refine ⟨F, _, _, i + j, rfl, rfl, sU _ _ hg, ?_, ?_⟩
        · unfold ixN
          rw [if_pos (by omega), if_pos (by rw [List.length_map]; omega), eij]
        · refine ⟨same_set (s2.trans sU) hF0, _, _, _, rfl, inv2.step hil hjl, ?_⟩
          rw [upd_same]
          show some (HO.lst _) = some (HO.lst _)
          rw [List.map_set]
      · rintro σ H2 ⟨s2, g, v5, v6, rfl, inv2, hg⟩
        rw [List.length_map] at inv2
        exact ⟨s2, g, _, _, _, _, rfl, inv2.row, hg⟩
    · rintro σ H1 ⟨s1, f, v3, v4, v5, v6, rfl, inv, hf⟩
      rw [List.length_map] at inv
      rw [inv.done hx hy] at hf
      exact ⟨_, rfl, q _ F s1 hF0 hf⟩
end
end Wt

/-! Wd: // of any ints, plain, shifted, false_rest, common_divisor. -/
namespace L2
open PySem PySem.Spec PyProof.Rows
/-- what // of great ints leans on: nobody has changed what the division by _pylong would import, and there is room for its frames -/
structure Seer (X : Cx) : Prop where
  base : X.base.NoSeer
  tree : X.prog.given.tree = none
  stk : ∃ env l, X.stack = env :: l ∧ env.scope.isGenerator = false ∧ env.scope.isCoroutine = false ∧ env.builtins = builtinsNs ∧ env.globals = mainGlobals
  dep : X.A.depth + Builtin.pylongFrames < recursionLimit
theorem op_fdivP {X : Cx} (z : Seer X) : OpR X (binaryOp .FloorDiv) (rI (fun _ j => j ≠ 0) fun i j => .int (i.fdiv j)) := by
  intro pins s σ H x y v u Q I rx ry h
  obtain ⟨i, j, rfl, rfl, hc, q⟩ := h
  obtain ⟨t, rfl⟩ := rx
  obtain ⟨t', rfl⟩ := ry
  obtain ⟨env, l, e, e1, e2, e3, e4⟩ := z.stk
  exact floordiv_int hc ⟨.int (i.fdiv j), H, I.tok _, ⟨_, rfl⟩, q⟩ (.inr (PySem.PylongRoom.of I.nolimit z.dep (PySem.SeerAt.of (z.base.keeps I.bk) z.tree (I.ok.frames.trans (congrArg some e)) e1 e2 e3 e4)))
end L2
namespace Wt
open PySem PySem.Spec PyProof.Rows L2
theorem pow_lt_bits {x : Int} {n : Nat} (h : x.natAbs < 2 ^ n) : Builtin.Int.intBits x ≤ n := PyProof.Rows.intBits_le h
theorem mul_ok {x y : Int} {m n : Nat} (hx : x.natAbs < 2 ^ m) (hy : y.natAbs < 2 ^ n) (h : m + n ≤ 134000000) : IntMulOk x y := by
  have h1 := pow_lt_bits hx
  have h2 := pow_lt_bits hy
  have most : bitsLine = 134217728 := rfl
  intro big
  have over : ((Builtin.Int.intBits x + Builtin.Int.intBits y : Nat) : Int) > ((bitsLine : Nat) : Int) := of_decide_eq_true (Bool.and_eq_true_iff.mp big).2
  rw [most] at over
  omega
theorem mul_neg1 (x : Int) : IntMulOk x (-1) := IntMulOk.of_right (by decide +kernel)
abbrev sPlain : Stmt := topS 13
abbrev sShifted : Stmt := topS 14
abbrev sRest : Stmt := topS 15
abbrev sCommon : Stmt := topS 16
theorem scPlain : FnScope ["a", "common", "coefficient"] ["a"] (defScope sPlain) := ⟨rfl, rfl, rfl, by decide +kernel, rfl, by decide +kernel, by decide +kernel⟩
theorem scShifted : FnScope ["a", "by"] ["a", "by"] (defScope sShifted) := ⟨rfl, rfl, rfl, by decide +kernel, rfl, by decide +kernel, by decide +kernel⟩
theorem scRest : FnScope ["a", "b", "rest", "lead", "step", "by", "top"] ["a", "b"] (defScope sRest) := ⟨rfl, rfl, rfl, by decide +kernel, rfl, by decide +kernel, by decide +kernel⟩
theorem scCommon : FnScope ["a", "b", "first", "second"] ["a", "b"] (defScope sCommon) := ⟨rfl, rfl, rfl, by decide +kernel, rfl, by decide +kernel, by decide +kernel⟩
def spPlain (K : PySem.W.Frag) : Sp := fun vs H Q _ => ∃ (a : Addr) (xs : List Int), vs = [.ref a] ∧ SqL K H a (xs.map V.int) ∧ xs.length ≤ 900 ∧ FF.Trm xs ∧ New H Q (L (FF.pPlain xs))
def spShifted : Sp := fun vs H Q _ => ∃ (a : Addr) (xs : List Int) (k : Nat), vs = [.ref a, .int k] ∧ H a = some (L xs) ∧ xs.length ≤ 400 ∧ k ≤ 400 ∧ New H Q (L (FF.pShift xs k))
def spRest (K : PySem.W.Frag) : Sp := fun vs H Q _ => ∃ (a b : Addr) (xs ys : List Int) (W B : Nat), vs = [.ref a, .ref b] ∧ SqL K H a (xs.map V.int) ∧ SqL K H b (ys.map V.int) ∧ xs.length ≤ 400 ∧ ys.length ≤ 400 ∧ ys ≠ [] ∧ FF.Trm xs ∧ FF.Trm ys ∧ FF.Bd W xs ∧ FF.Bd B ys ∧ W + (xs.length - ys.length + 1) * (B + 1) + B ≤ 100000000 ∧ New H Q (L (FF.pRest xs ys))
def spCommon (K : PySem.W.Frag) : Sp := fun vs H Q _ => ∃ (a b : Addr) (xs ys : List Int), vs = [.ref a, .ref b] ∧ SqL K H a (xs.map V.int) ∧ SqL K H b (ys.map V.int) ∧ xs.length ≤ 9 ∧ ys.length ≤ 9 ∧ (xs ≠ [] ∨ ys ≠ []) ∧ FF.Trm xs ∧ FF.Trm ys ∧ FF.Bd 500 xs ∧ FF.Bd 500 ys ∧ New H Q (L (FF.pGcd xs ys))
theorem at_lead {ns : List Int} (h : ns ≠ []) : atI (ns.map V.int) (-1) = some (.int (FF.lead ns)) := by
  have hp := FF.len_pos h
  unfold atI ixN
  rw [if_neg (by decide), if_pos (by rw [List.length_map]; omega), List.length_map]
  show (ns.map V.int)[(-1 + ((ns.length : Nat) : Int)).toNat]? = _
  rw [show (-1 + ((ns.length : Nat) : Int)).toNat = ns.length - 1 by omega]
  exact get_int (by omega)
theorem isE {xs : List Int} (h : xs ≠ []) : (xs.map V.int).isEmpty = false := by
  cases xs with
  | nil => exact absurd rfl h
  | cons _ _ => rfl
section
variable {P : Program} {w : World} {K : PySem.W.Frag} {mg : Str → Option Value} {base : Heap}
theorem ok_plain (hb : base.NoSeer) (ht : P.given.tree = none) (d : Df K mg "plain" sPlain ["a"]) (dC : Df K mg "content" sContent ["a"]) (mgc : mg "gcd" = some (.builtin "math.gcd")) {k : Nat} : Ok P w base d (k + 41) (spPlain K) := by
  have GC : Ok P w base dC (k + 40) (spContent K) := ok_content dC mgc
  refine d.F.ok scPlain (fun vs H Q E h => ?_) (fun cdv A outer s H vs Q E hr h => ?_)
  · obtain ⟨a, b, rfl, _⟩ := h
    rfl
  · obtain ⟨a, xs, rfl, hA, la, tx, q⟩ := h
    have hd : (A.deeper (envOfC "plain" (defScope sPlain) s.heap.objs.size d.f cdv)).depth + Builtin.pylongFrames < recursionLimit := by
      have := hr.dp
      have e : Builtin.pylongFrames = 100 := rfl
      omega
    refine ⟨_, pss_cons (ps_if (pt_not (pt_truth (pv 0) (by intro _; rfl))) (pss_one (ps_ret (pe_lst pa_nil))) pss_nil)
      (pss_cons (ps_set (i := 1) scPlain.nd rfl (.inr rfl) (pe_call GC hr (by rfl) dC.g dC.F.kp dC.b .nil pass0 (pa_cons (pv 0) pa_nil)))
      (pss_cons (ps_if (pt_cmpR op_lt (pe_ix ix_list (pv 0) (pe_un un_neg pe_int) (fun _ _ => rfl)) pe_int (nomark _)) (pss_one (ps_set (i := 1) scPlain.nd rfl (.inr rfl) (pe_un un_neg (pv 1)))) pss_nil)
      (pss_one (ps_ret (pe_lc (own := [("coefficient", 2)]) (g := gName 2) (tt := tYes) rfl scPlain.nd (pi_list (pv 0))
          (blkOk_by (N := ["a", "common", "coefficient"]) (sc := defScope sPlain) (by decide +kernel)) (fun _ _ _ _ _ => pg_name (i := 2) scPlain.nd rfl (.inl rfl)) (fun _ _ _ _ _ => pts_nil)
          (fun _ _ _ _ _ => pe_op (op_fdivP ⟨hb, ht, ⟨_, _, rfl, rfl, rfl, rfl, rfl⟩, hd⟩) (pv 2) (pv 1))))))), ?_⟩
    by_cases hx : xs = []
    · subst hx
      refine ⟨.ref a, rfl, false, .inl ⟨_, hA, rfl⟩, ?_⟩
      refine iteT ?_
      exact ⟨Nat.zero_le _, fun p hp => q.upd hp⟩
    refine ⟨.ref a, rfl, true, .inl ⟨_, hA, by rw [isE hx]; rfl⟩, ?_⟩
    refine iteF ?_
    refine ⟨.ref a, rfl, a, xs, rfl, hA, ?_⟩
    -- behind the sign's test common is sc xs
    have rest : ∀ c : Int, c = FF.sc xs → ∀ D, H D = none → ∃ W : Nat → Nat → Hp → Prop, (∃ m, W 0 m (upd H D (.lst []))) ∧ ∀ i m H, W i m H →
        ((Itl K a).stop i H ∧ Q (.ref D) H) ∨ ((Itl K a).go i H ∧ ∃ Nx : Hp → Prop, (∀ H', Nx H' → ∃ m', m' < m ∧ W (i + 1) m' H') ∧ ∀ x H', (Itl K a).yld i H x H' → gName 2 x (wipe [some (.ref a), some (.int c), none] [2]) H' fun σ2 H2 => wipe σ2 [2] = wipe [some (.ref a), some (.int c), none] [2] ∧ tYes σ2 H2 fun b H3 =>
          if b = true then tOp (rI (fun _ j => j ≠ 0) fun i j => .int (i.fdiv j)) (tVar 2) (tVar 1) σ2 H3 fun y H4 => ∃ acc, H4 D = some (.lst acc) ∧ acc.length < sizeLine ∧ Nx (upd H4 D (.lst (acc ++ [y]))) else Nx H3) := fun c hc D hD => by
      have sD : Same H (upd H D (.lst [])) := same_upd hD
      refine lc_list (K := K) (a := a) (xs := xs.map V.int) (fun i H' => Same H H' ∧ H' D = some (L ((xs.take i).map fun x => x.fdiv c))) ⟨sD, upd_same⟩ (fun i H' hi ⟨s1, _⟩ => s1.seq hA) (fun i x H' hx ⟨s1, hD1⟩ => ?_) (fun H' ⟨s1, hD1⟩ => ?_)
      · have hi := lt_of_get hx
        rw [get_int hi] at hx
        cases hx
        refine ⟨rfl, _, rfl, _, rfl, _, _, rfl, rfl, ?_, _, hD1, ?_, same_set s1 hD, ?_⟩
        · rw [hc]
          exact FF.sc_ne tx (by assumption)
        · rw [List.length_map, List.length_map, List.length_take]
          exact small1000 (by omega)
        · rw [upd_same, List.take_add_one, List.getElem?_eq_getElem hi, List.map_append]
          show some (HO.lst (_ ++ [V.int ((xs.getD i 0).fdiv c)])) = some (HO.lst ((_ ++ [xs[i].fdiv c]).map V.int))
          rw [List.map_append, List.getD_eq_getElem?_getD, List.getElem?_eq_getElem hi]
          rfl
      · rw [List.length_map, List.take_length, hc] at hD1
        have e : FF.pPlain xs = xs.map fun x => x.fdiv (FF.sc xs) := if_neg (by assumption)
        rw [← e] at hD1
        exact q H' D s1 hD hD1
    refine ⟨.ref a, rfl, 1, rfl, a, _, -1, _, rfl, rfl, hA, at_lead hx, _, _, rfl, rfl, _, rfl, ite2 (fun e => ?_) (fun e => ?_)⟩
    · have e' : FF.lead xs < 0 := of_decide_eq_true e
      refine ⟨_, rfl, _, rfl, ?_⟩
      exact ⟨.ref a, rfl, a, rfl, ⟨_, hA⟩, rest _ (by unfold FF.sc; rw [if_pos e'])⟩
    · have e' : ¬ FF.lead xs < 0 := fun z => e (decide_eq_true z)
      exact ⟨.ref a, rfl, a, rfl, ⟨_, hA⟩, rest _ (by unfold FF.sc; rw [if_neg e'])⟩
end
end Wt

/-! We: shifted, false_rest, common_divisor. -/
namespace Wt
open PySem PySem.Spec PyProof.Rows L2
/-- the facts that all of the polynomials' defs lean on -/
structure Pol (K : PySem.W.Frag) (mg : Str → Option Value) where
  trimmed : Df K mg "trimmed" sTrimmed ["coefficients"]
  coef : Df K mg "coefficient_of" sCoef ["a", "power"]
  add : Df K mg "add" sAdd ["a", "b"]
  scale : Df K mg "scale" sScale ["a", "factor"]
  subtract : Df K mg "subtract" sSubtract ["a", "b"]
  multiply : Df K mg "multiply" sMultiply ["a", "b"]
  content : Df K mg "content" sContent ["a"]
  plain : Df K mg "plain" sPlain ["a"]
  shifted : Df K mg "shifted" sShifted ["a", "by"]
  rest : Df K mg "false_rest" sRest ["a", "b"]
  common : Df K mg "common_divisor" sCommon ["a", "b"]
  len : mg "len" = none
  max : mg "max" = none
  range : mg "range" = none
  enum : mg "enumerate" = none
  list : mg "list" = none
  gcd : mg "gcd" = some (.builtin "math.gcd")
section
variable {P : Program} {w : World} {K : PySem.W.Frag} {mg : Str → Option Value} {base : Heap}
theorem ok_shifted (T : Pol K mg) {k : Nat} : Ok P w base T.shifted (k + 1) spShifted := by
  refine T.shifted.F.ok scShifted (fun vs H Q E h => ?_) (fun cdv A outer s H vs Q E hr h => ?_)
  · obtain ⟨a, b, c, rfl, _⟩ := h
    rfl
  · obtain ⟨a, xs, j, rfl, hA, la, lj, q⟩ := h
    refine ⟨_, pss_one (ps_ret (pe_ifExp (pt_truth (pv 0) (by intro _; rfl)) (pe_op op_cat (pe_op op_rep (pe_lst (pa_cons pe_int pa_nil)) (pv 1)) (pv 0)) (pe_lst pa_nil))), ?_⟩
    by_cases hx : xs = []
    · subst hx
      refine ⟨.ref a, rfl, false, .inl ⟨_, seq_of hA, rfl⟩, ?_⟩
      refine iteF ?_
      exact ⟨Nat.zero_le _, fun p hp => q.upd hp⟩
    refine ⟨.ref a, rfl, true, .inl ⟨_, seq_of hA, by rw [isE hx]; rfl⟩, ?_⟩
    refine iteT ?_
    refine ⟨by decide, fun z hz => ?_⟩
    have sz : Same H (upd H z (.lst [.int 0])) := same_upd hz
    refine ⟨_, rfl, z, _, _, rfl, rfl, upd_same, by omega, by omega, ?_, fun F hF => ?_⟩
    · show 1 * (((j : Nat) : Int)).toNat ≤ sizeLine
      have := small1000 (n := j) (by omega)
      omega
    have hF0 : H F = none := sz.free hF
    have sF : Same H (upd (upd H z (.lst [.int 0])) F (.lst (List.replicate (((j : Nat) : Int)).toNat [V.int 0]).flatten)) := same_set sz hF0
    refine ⟨.ref a, rfl, F, a, _, _, rfl, rfl, upd_same, sF _ _ hA, ?_, fun p hp => ?_⟩
    · rw [rep_flat, List.length_replicate, List.length_map]
      have := small1000 (n := j + xs.length) (by omega)
      omega
    · refine q _ p (same_set sF (sF.free hp)) (sF.free hp) ?_
      rw [upd_same, rep_flat]
      have e : FF.pShift xs j = List.replicate j 0 ++ xs := if_neg hx
      rw [e]
      show some (HO.lst _) = some (HO.lst _)
      rw [List.map_append, List.map_replicate]
      rfl
theorem ok_rest (T : Pol K mg) {k : Nat} : Ok P w base T.rest (k + 4) (spRest K) := by
  have GC : Ok P w base T.coef (k + 3) (spCoef K) := ok_coef T.coef T.len
  have GS : Ok P w base T.scale (k + 3) (spScale K) := ok_scale T.scale T.trimmed T.len
  have GH : Ok P w base T.shifted (k + 3) spShifted := ok_shifted T
  have GU : Ok P w base T.subtract (k + 3) (spSubtract K) := ok_subtract T.subtract T.add T.scale T.trimmed T.coef T.len T.max T.range
  refine T.rest.F.ok scRest (fun vs H Q E h => ?_) (fun cdv A outer s H vs Q E hr h => ?_)
  · obtain ⟨a, b, _, _, _, _, rfl, _⟩ := h
    rfl
  · obtain ⟨a, b, xs, ys, W, B, rfl, hA, hB, la, lb, hy, tx, ty, bx, bY, hw, q⟩ := h
    have ml := T.len
    refine ⟨_, pss_cons (ps_if (pt_cmpR op_lt (pe_callB call_len_seq (by rfl) ml PySem.boot_len (pa_cons (pv 0) pa_nil)) (pe_callB call_len_seq (by rfl) ml PySem.boot_len (pa_cons (pv 1) pa_nil)) (nomark _))
        (pss_one (ps_ret (pe_callTy call_list_of (by rfl) T.list (by decide +kernel) (pa_cons (pv 0) pa_nil)))) pss_nil)
      (pss_cons (ps_set (i := 2) scRest.nd rfl (.inl rfl) (pe_callTy call_list_of (by rfl) T.list (by decide +kernel) (pa_cons (pv 0) pa_nil)))
      (pss_cons (ps_set (i := 3) scRest.nd rfl (.inl rfl) (pe_ix ix_list (pv 1) (pe_un un_neg pe_int) (fun _ _ => rfl)))
      (pss_cons (ps_for PassesOwn.never rfl (pi_range1 rfl T.range (pa_cons (pe_op op_add (pe_op op_sub (pe_callB call_len_seq (by rfl) ml PySem.boot_len (pa_cons (pv 0) pa_nil)) (pe_callB call_len_seq (by rfl) ml PySem.boot_len (pa_cons (pv 1) pa_nil))) pe_int) pa_nil)) (pg_name (i := 4) scRest.nd rfl (.inl rfl))
        (pss_cons (ps_set (i := 5) scRest.nd rfl (.inl rfl) (pe_op op_sub (pe_op op_sub (pe_callB call_len_seq (by rfl) ml PySem.boot_len (pa_cons (pv 0) pa_nil)) (pe_callB call_len_seq (by rfl) ml PySem.boot_len (pa_cons (pv 1) pa_nil))) (pv 4)))
        (pss_cons (ps_set (i := 6) scRest.nd rfl (.inl rfl) (pe_call GC hr (by rfl) T.coef.g T.coef.F.kp T.coef.b .nil pass0 (pa_cons (pv 2) (pa_cons (pe_op op_sub (pe_op op_add (pv 5) (pe_callB call_len_seq (by rfl) ml PySem.boot_len (pa_cons (pv 1) pa_nil))) pe_int) pa_nil))))
        (pss_one (ps_set (i := 2) scRest.nd rfl (.inl rfl) (pe_call GU hr (by rfl) T.subtract.g T.subtract.F.kp T.subtract.b .nil pass0
          (pa_cons (pe_call GS hr (by rfl) T.scale.g T.scale.F.kp T.scale.b .nil pass0 (pa_cons (pv 2) (pa_cons (pv 3) pa_nil)))
          (pa_cons (pe_call GH hr (by rfl) T.shifted.g T.shifted.F.kp T.shifted.b .nil pass0 (pa_cons (pe_call GS hr (by rfl) T.scale.g T.scale.F.kp T.scale.b .nil pass0 (pa_cons (pv 1) (pa_cons (pv 6) pa_nil))) (pa_cons (pv 5) pa_nil))) pa_nil))))))))
      (pss_one (ps_ret (pv 2)))))), ?_⟩
    have ly := FF.len_pos hy
    refine ⟨.ref a, rfl, a, _, rfl, .inl hA, .ref b, rfl, b, _, rfl, .inl hB, _, _, rfl, rfl, _, rfl, ite2 (fun e => ?_) (fun e => ?_)⟩
    · have e' := of_decide_eq_true e
      rw [List.length_map, List.length_map] at e'
      have er : FF.pRest xs ys = xs := if_pos (by omega)
      rw [er] at q
      exact ⟨.ref a, rfl, a, _, rfl, .inl hA, fun p hp => q.upd hp⟩
    · have e' : ys.length ≤ xs.length := by
        have this : ¬ (((xs.map V.int).length : Nat) : Int) < (((ys.map V.int).length : Nat) : Int) := fun z => e (decide_eq_true z)
        rw [List.length_map, List.length_map] at this
        omega
      have er : FF.pRest xs ys = FF.restGo ys (xs.length - ys.length + 1) xs := if_neg (by omega)
      rw [er] at q
      refine ⟨.ref a, rfl, a, _, rfl, .inl hA, fun R hR => ?_⟩
      have sR : Same H (upd H R (.lst (xs.map V.int))) := same_upd hR
      refine ⟨.ref b, rfl, 1, rfl, b, _, -1, _, rfl, rfl, sR.seq hB, at_lead hy, ?_⟩
      refine ⟨.ref a, rfl, a, _, rfl, .inl (sR.seq hA), .ref b, rfl, b, _, rfl, .inl (sR.seq hB), _, _, rfl, rfl, _, _, rfl, rfl, ?_⟩
      rw [List.length_map, List.length_map]
      have en : ((xs.length : Nat) : Int) - ((ys.length : Nat) : Int) + 1 = ((xs.length - ys.length + 1 : Nat) : Int) := by omega
      refine ⟨_, congrArg (fun z => [V.int z]) en, by omega, by omega, ?_⟩
      refine for_range (lo := 0) (n := xs.length - ys.length + 1) (fun i σ H' => Same H H' ∧ ∃ p r v4 v5 v6, σ = [some (.ref a), some (.ref b), some (.ref p), some (.int (FF.lead ys)), v4, v5, v6] ∧ H' p = some (L r) ∧ FF.Trm r ∧ r.length ≤ xs.length ∧ FF.Bd (W + i * (B + 1)) r ∧
          FF.restGo ys (xs.length - ys.length + 1 - i) r = FF.restGo ys (xs.length - ys.length + 1) xs ∧ (i = xs.length - ys.length + 1 → H p = none))
        ⟨sR, R, xs, none, none, none, rfl, upd_same, tx, Nat.le_refl _, bx.mono (by omega), rfl, by omega⟩ ?_ ?_
      · rintro i σ H1 hi ⟨s1, p, r, v4, v5, v6, rfl, hp, tr, lr, br, eg, _⟩
        refine ⟨.ref a, rfl, a, _, rfl, .inl (s1.seq hA), .ref b, rfl, b, _, rfl, .inl (s1.seq hB), _, _, rfl, rfl, _, rfl, _, _, rfl, rfl, ?_⟩
        rw [List.length_map, List.length_map]
        obtain ⟨m, hm⟩ : ∃ m, m = xs.length - ys.length - i := ⟨_, rfl⟩
        have em : ((xs.length : Nat) : Int) - ((ys.length : Nat) : Int) - (0 + ((i : Nat) : Int)) = ((m : Nat) : Int) := by omega
        refine ⟨.ref p, rfl, _, rfl, .ref b, rfl, b, _, rfl, .inl (s1.seq hB), _, _, rfl, rfl, _, _, rfl, rfl, ?_⟩
        have et : ((xs.length : Nat) : Int) - ((ys.length : Nat) : Int) - (0 + ((i : Nat) : Int)) + (((ys.map V.int).length : Nat) : Int) - 1 = ((m + ys.length - 1 : Nat) : Int) := by
          rw [List.length_map]
          omega
        refine ⟨p, r, _, congrArg (fun z => [V.ref p, V.int z]) et, seq_of hp, by omega, ?_⟩
        -- scale(rest, lead)
        have bl : (FF.lead ys).natAbs < 2 ^ B := bY _
        have hiB : i * (B + 1) ≤ (xs.length - ys.length) * (B + 1) := Nat.mul_le_mul_right _ (by omega)
        have hw2 : (xs.length - ys.length + 1) * (B + 1) = (xs.length - ys.length) * (B + 1) + (B + 1) := Nat.succ_mul _ _
        refine ⟨.ref p, rfl, _, rfl, p, r, _, rfl, seq_of hp, by omega, fun x hx => mul_ok (br.mem hx) bl (by omega), fun H2 p2 s2 hp2 h2 => ?_⟩
        have s12 := s1.trans s2
        refine ⟨.ref b, rfl, _, rfl, b, ys, r.getD (m + ys.length - 1) 0, rfl, s12.seq hB, by omega, fun y hy => mul_ok (bY.mem hy) (br _) (by omega), fun H3 p3 s3 hp3 h3 => ?_⟩
        refine ⟨_, rfl, p3, _, m, congrArg (fun z => [V.ref p3, V.int z]) em, h3, Nat.le_trans (FF.pScale_len _ _) lb, by omega, fun H4 p4 s4 hp4 h4 => ?_⟩
        have s24 := s3.trans s4
        have lsh := FF.pShift_len (FF.pScale ys (r.getD (m + ys.length - 1) 0)) m
        have lsc := FF.pScale_len ys (r.getD (m + ys.length - 1) 0)
        have lsr := FF.pScale_len r (FF.lead ys)
        refine ⟨p2, p4, _, _, rfl, seq_of (s24 _ _ h2), seq_of h4, by omega, by omega, fun y _ => mul_neg1 y, fun H5 p5 s5 hp5 h5 => ?_⟩
        have sAll := (s12.trans s24).trans s5
        have lsub := FF.pSub_len (FF.pScale r (FF.lead ys)) (FF.pShift (FF.pScale ys (r.getD (m + ys.length - 1) 0)) m)
        refine ⟨sAll, p5, _, _, _, _, rfl, h5, FF.pSub_trm _ _, by omega, ?_, ?_, fun _ => (s12.trans s24).free hp5⟩
        · have h1 : FF.Bd (W + i * (B + 1) + B + 1) (FF.pSub (FF.pScale r (FF.lead ys)) (FF.pShift (FF.pScale ys (r.getD (m + ys.length - 1) 0)) m)) :=
            (FF.Bd.pSub (br.pScale bl) ((bY.pScale (br _)).pShift m)).mono (by omega)
          exact h1.mono (by rw [Nat.succ_mul]; omega)
        · rw [← eg, show xs.length - ys.length + 1 - i = m + 1 by omega, show xs.length - ys.length + 1 - (i + 1) = m by omega]
          rfl
      · rintro σ H1 ⟨s1, p, r, v4, v5, v6, rfl, hp, tr, lr, br, eg, hn⟩
        rw [Nat.sub_self] at eg
        have eg' : r = FF.restGo ys (xs.length - ys.length + 1) xs := eg
        rw [eg'] at hp
        exact ⟨_, rfl, q _ p s1 (hn rfl) hp⟩
end
end Wt

/-! Wf: common_divisor. -/
namespace Wt
open PySem PySem.Spec PyProof.Rows L2
/-- one place of the greatest common divisor's loop -/
structure GcdInv (xs ys : List Int) (n : Nat) (x y : List Int) : Prop where
  px : FF.Pn x
  py : FF.Pn y
  ne : x ≠ [] ∨ y ≠ []
  eq : FF.gcdL n x y = FF.pGcd xs ys
  lt : y.length < n
  lx : x.length ≤ 9
  ly : y.length ≤ 9
  bd : ∃ W, FF.Bd W x ∧ FF.Bd W y ∧ FF.pot W x.length y.length ≤ 20000000
theorem GcdInv.start {xs ys : List Int} (lx : xs.length ≤ 9) (ly : ys.length ≤ 9) (tx : FF.Trm xs) (ty : FF.Trm ys) (ne : xs ≠ [] ∨ ys ≠ []) (bx : FF.Bd 500 xs) (bY : FF.Bd 500 ys) : GcdInv xs ys (ys.length + 1) (FF.pPlain xs) (FF.pPlain ys) :=
  ⟨FF.pPlain_pn tx, FF.pPlain_pn ty, ne.imp (fun h z => h (FF.pPlain_eq_nil.mp z)) (fun h z => h (FF.pPlain_eq_nil.mp z)), rfl, by rw [FF.pPlain_len]; omega, by rw [FF.pPlain_len]; exact lx, by rw [FF.pPlain_len]; exact ly,
    500, FF.Bd.pPlain tx bx, FF.Bd.pPlain ty bY, FF.pot_start (by omega) (by rw [FF.pPlain_len]; exact lx) (by rw [FF.pPlain_len]; exact ly)⟩
theorem GcdInv.step {xs ys x y : List Int} {n : Nat} (g : GcdInv xs ys n x y) (hy : y ≠ []) : ∃ m, n = m + 1 ∧ GcdInv xs ys m y (FF.pPlain (FF.pRest x y)) := by
  obtain ⟨m, rfl⟩ : ∃ m, n = m + 1 := ⟨n - 1, by have := g.lt; omega⟩
  obtain ⟨r1, r2, _⟩ := FF.pRest_spec g.px.trm g.py.trm hy
  obtain ⟨W, b1, b2, hW⟩ := g.bd
  have hp := FF.len_pos hy
  have e : FF.gcdL (m + 1) x y = FF.gcdL m y (FF.pPlain (FF.pRest x y)) := if_neg hy
  have lt := g.lt
  have ly := g.ly
  refine ⟨m, rfl, g.py, FF.pPlain_pn r1, .inl hy, e.symm.trans g.eq, by rw [FF.pPlain_len]; omega, g.ly, by rw [FF.pPlain_len]; omega, W + (x.length - y.length + 1) * (W + 1), b2.mono (by omega), FF.Bd.pPlain r1 (FF.pRest_bd b1 b2), ?_⟩
  exact Nat.le_trans (FF.pot_step (by rw [FF.pPlain_len]; omega)) hW
section
variable {P : Program} {w : World} {K : PySem.W.Frag} {mg : Str → Option Value} {base : Heap}
theorem ok_common (hb : base.NoSeer) (ht : P.given.tree = none) (T : Pol K mg) {k : Nat} : Ok P w base T.common (k + 42) (spCommon K) := by
  have GP : Ok P w base T.plain (k + 41) (spPlain K) := ok_plain hb ht T.plain T.content T.gcd
  have GR : Ok P w base T.rest (k + 37 + 4) (spRest K) := ok_rest T
  refine T.common.F.ok scCommon (fun vs H Q E h => ?_) (fun cdv A outer s H vs Q E hr h => ?_)
  · obtain ⟨a, b, _, _, rfl, _⟩ := h
    rfl
  · obtain ⟨a, b, xs, ys, rfl, hA, hB, la, lb, ne, tx, ty, bx, bY, q⟩ := h
    refine ⟨_, pss_cons (ps_par (i := 2) (j := 3) (by rfl) scCommon.nd rfl rfl (by decide) rfl rfl (pa_cons (pe_call GP hr (by rfl) T.plain.g T.plain.F.kp T.plain.b .nil pass0 (pa_cons (pv 0) pa_nil)) (pa_cons (pe_call GP hr (by rfl) T.plain.g T.plain.F.kp T.plain.b .nil pass0 (pa_cons (pv 1) pa_nil)) pa_nil)) (by rfl))
      (pss_cons (ps_while PassesOwn.never (pt_truth (pv 3) (by intro _; rfl))
        (pss_one (ps_par (i := 2) (j := 3) (by rfl) scCommon.nd rfl rfl (by decide) rfl rfl (pa_cons (pv 3) (pa_cons (pe_call GP hr (by rfl) T.plain.g T.plain.F.kp T.plain.b .nil pass0 (pa_cons (pe_call GR hr (by rfl) T.rest.g T.rest.F.kp T.rest.b .nil pass0 (pa_cons (pv 2) (pa_cons (pv 3) pa_nil))) pa_nil)) pa_nil)) (by rfl))))
      (pss_one (ps_ret (pv 2)))), ?_⟩
    refine ⟨.ref a, rfl, a, xs, rfl, hA, by omega, tx, fun H1 p s1 hp h1 => ?_⟩
    refine ⟨.ref b, rfl, b, ys, rfl, s1.seq hB, by omega, ty, fun H2 r s2 hr2 h2 => ?_⟩
    refine ⟨_, _, rfl, ?_⟩
    refine ⟨fun n σ H' => Same H H' ∧ ∃ p r x y, σ = [some (.ref a), some (.ref b), some (.ref p), some (.ref r)] ∧ H' p = some (L x) ∧ H' r = some (L y) ∧ H p = none ∧ H r = none ∧ GcdInv xs ys n x y, ⟨_, s1.trans s2, p, r, _, _, rfl, s2 _ _ h1, h2, hp, s1.free hr2, GcdInv.start la lb tx ty ne bx bY⟩, ?_⟩
    rintro n σ H3 ⟨s3, p, r, x, y, rfl, hpx, hry, fp, fr, g⟩
    by_cases hy : y = []
    · subst hy
      refine ⟨.ref r, rfl, false, .inl ⟨_, seq_of hry, rfl⟩, ?_⟩
      refine iteF ?_
      have hn := g.lt
      have e : x = FF.pGcd xs ys := by
        obtain ⟨m, rfl⟩ : ∃ m, n = m + 1 := ⟨n - 1, by simp at hn; omega⟩
        have e1 : FF.gcdL (m + 1) x [] = x := if_pos rfl
        exact e1.symm.trans g.eq
      rw [e] at hpx
      exact ⟨_, rfl, q _ p s3 fp hpx⟩
    · obtain ⟨m, rfl, g'⟩ := g.step hy
      refine ⟨.ref r, rfl, true, .inl ⟨_, seq_of hry, by rw [isE hy]; rfl⟩, ?_⟩
      refine iteT ?_
      refine ⟨fun σ' H' => Same H H' ∧ ∃ p r x y, σ' = [some (.ref a), some (.ref b), some (.ref p), some (.ref r)] ∧ H' p = some (L x) ∧ H' r = some (L y) ∧ H p = none ∧ H r = none ∧ GcdInv xs ys m x y, fun σ' H' h => ⟨m, Nat.lt_succ_self m, h⟩, ?_⟩
      obtain ⟨W, b1, b2, hW⟩ := g.bd
      have hlen := FF.len_pos hy
      have hge := FF.pot_ge (W := W) (la := x.length) hlen
      have e1 : (W + 1) * (x.length - y.length + 2) = W + (x.length - y.length + 1) * (W + 1) + 1 := by
        rw [Nat.mul_comm, Nat.add_mul, Nat.add_mul]
        omega
      have lx := g.lx
      have ly := g.ly
      refine ⟨.ref r, rfl, .ref p, rfl, .ref r, rfl, p, r, x, y, W, W, rfl, seq_of hpx, seq_of hry, by omega, by omega, hy, g.px.trm, g.py.trm, b1, b2, by omega, fun H4 t s4 ht4 h4 => ?_⟩
      obtain ⟨r1, r2, _⟩ := FF.pRest_spec g.px.trm g.py.trm hy
      refine ⟨t, _, rfl, seq_of h4, by omega, r1, fun H5 u s5 hu5 h5 => ?_⟩
      have s35 := s4.trans s5
      exact ⟨_, _, rfl, s3.trans s35, r, u, _, _, rfl, s35 _ _ hry, h5, fr, s3.free (s4.free hu5), g'⟩
end
end Wt

/-! Wg: plus, times, quotient. -/
namespace Wt
open PySem PySem.Spec PyProof.Rows L2
abbrev sQuotient : Stmt := topS 17
theorem scQuotient : FnScope ["a", "b", "coefficient", "rest", "found", "by", "factor", "k", "measure", "top", "under"] ["a", "b"] (defScope sQuotient) := ⟨rfl, rfl, rfl, by decide +kernel, rfl, by decide +kernel, by decide +kernel⟩
/-- numbers whose parts are below 2 ^ 1000 -/
def Sm (x : Int × Int) : Prop := x.1.natAbs < 2 ^ 1000 ∧ x.2.natAbs < 2 ^ 1000 ∧ x.2 ≠ 0
def spTimes : Sp := fun vs H Q _ => ∃ (a b : Addr) (x y : Int × Int), vs = [.ref a, .ref b] ∧ H a = some (Pr2 x) ∧ H b = some (Pr2 y) ∧ Sm x ∧ Sm y ∧ New H Q (Pr2 (FF.numN (x.1 * y.1) (x.2 * y.2)))
def spPlus : Sp := fun vs H Q _ => ∃ (a b : Addr) (x y : Int × Int), vs = [.ref a, .ref b] ∧ H a = some (Pr2 x) ∧ H b = some (Pr2 y) ∧ Sm x ∧ Sm y ∧ New H Q (Pr2 (FF.numN (x.1 * y.2 + y.1 * x.2) (x.2 * y.2)))
theorem tup_of {K : PySem.W.Frag} {H : Hp} {a : Addr} {x : Int × Int} (h : H a = some (Pr2 x)) : SqT K H a [V.int x.1, V.int x.2] := .inl (.inl h)
theorem at_0 {α : Type} {x y : α} : atI [x, y] 0 = some x := atI_nat (j := 0) rfl
theorem at_1 {α : Type} {x y : α} : atI [x, y] 1 = some y := atI_nat (j := 1) rfl
theorem lt_mono {x : Nat} {m n : Nat} (h : x < 2 ^ m) (l : m ≤ n) : x < 2 ^ n := Nat.lt_of_lt_of_le h (Nat.pow_le_pow_right (by decide) l)
/-- a list of pairs (v, 1) -/
def TupsAt (H : Hp) (l : List V) (vs : List Int) : Prop := l.length = vs.length ∧ ∀ i, i < vs.length → ∃ r, l[i]? = some (.ref r) ∧ H r = some (Pr2 (vs.getD i 0, 1))
theorem TupsAt.nil {H : Hp} : TupsAt H [] [] := ⟨rfl, fun i h => by simp at h⟩
theorem TupsAt.same {H H' : Hp} {l : List V} {vs : List Int} (t : TupsAt H l vs) (s : Same H H') : TupsAt H' l vs := ⟨t.1, fun i h => let ⟨r, a, b⟩ := t.2 i h; ⟨r, a, s _ _ b⟩⟩
theorem TupsAt.upd {H : Hp} {l xs : List V} {vs : List Int} {D : Addr} {o : HO} (t : TupsAt H l vs) (h : H D = some (.lst xs)) : TupsAt (upd H D o) l vs := ⟨t.1, fun i hi => by
  obtain ⟨r, a, b⟩ := t.2 i hi
  refine ⟨r, a, ?_⟩
  rw [upd_ne (ne_of b h (fun z => by cases z))]
  exact b⟩
theorem getD_append {vs : List Int} {v : Int} {i : Nat} : (vs ++ [v]).getD i 0 = if i < vs.length then vs.getD i 0 else if i = vs.length then v else 0 := by
  rw [List.getD_eq_getElem?_getD, List.getElem?_append]
  split
  · rw [List.getD_eq_getElem?_getD]
  · rename_i h
    by_cases e : i = vs.length
    · rw [if_pos e, e, Nat.sub_self]
      rfl
    · rw [if_neg e, List.getElem?_eq_none (by simp; omega)]
      rfl
theorem TupsAt.app {H : Hp} {l : List V} {vs : List Int} {p : Addr} {v : Int} (t : TupsAt H l vs) (h : H p = some (Pr2 (v, 1))) : TupsAt H (l ++ [.ref p]) (vs ++ [v]) := by
  refine ⟨by rw [List.length_append, List.length_append, t.1]; rfl, fun i hi => ?_⟩
  rw [List.length_append, List.length_singleton] at hi
  rw [getD_append, List.getElem?_append, t.1]
  by_cases e : i < vs.length
  · rw [if_pos e, if_pos e]
    exact t.2 i e
  · rw [if_neg e, if_neg e, if_pos (by omega), show i - vs.length = 0 by omega]
    exact ⟨p, rfl, h⟩
theorem TupsAt.set {H : Hp} {l : List V} {vs : List Int} {p : Addr} {v : Int} {j : Nat} (t : TupsAt H l vs) (h : H p = some (Pr2 (v, 1))) (hj : j < vs.length) : TupsAt H (l.set j (.ref p)) (vs.set j v) := by
  refine ⟨by rw [List.length_set, List.length_set]; exact t.1, fun i hi => ?_⟩
  rw [List.length_set] at hi
  rw [FF.getD_set _ _ _ _ hj, List.getElem?_set]
  by_cases e : i = j
  · subst e
    rw [if_pos rfl, if_pos (by rw [t.1]; exact hi), if_pos rfl]
    exact ⟨p, rfl, h⟩
  · rw [if_neg (fun z => e z.symm), if_neg e]
    exact t.2 i hi
theorem TupsAt.rev {H : Hp} {l : List V} {vs : List Int} (t : TupsAt H l vs) : TupsAt H l.reverse vs.reverse := by
  refine ⟨by rw [List.length_reverse, List.length_reverse]; exact t.1, fun i hi => ?_⟩
  rw [List.length_reverse] at hi
  obtain ⟨r, a, b⟩ := t.2 (vs.length - 1 - i) (by omega)
  refine ⟨r, ?_, ?_⟩
  · rw [List.getElem?_reverse (by rw [t.1]; exact hi), t.1]
    exact a
  · have e : vs.reverse.getD i 0 = vs.getD (vs.length - 1 - i) 0 := by
      rw [List.getD_eq_getElem?_getD, List.getElem?_reverse hi, List.getD_eq_getElem?_getD]
    rw [e]
    exact b
section
variable {P : Program} {w : World} {K : PySem.W.Frag} {mg : Str → Option Value} {base : Heap}
theorem ok_times (d : Df K mg "times" sTimes ["a", "b"]) (dN : Df K mg "number" sNumber ["n", "d"]) (mgc : mg "gcd" = some (.builtin "math.gcd")) {k : Nat} : Ok P w base d (k + 2) spTimes := by
  have GN : Ok P w base dN (k + 1) spNumber := ok_number dN mgc
  refine d.F.ok scTimes (fun vs H Q E h => ?_) (fun cdv A outer s H vs Q E hr h => ?_)
  · obtain ⟨a, b, _, _, rfl, _⟩ := h
    rfl
  · obtain ⟨a, b, x, y, rfl, hA, hB, sx, sy, q⟩ := h
    refine ⟨_, pss_one (ps_ret (pe_call GN hr (by rfl) dN.g dN.F.kp dN.b .nil pass0
      (pa_cons (pe_op op_mulX (pe_ix ix_tup (pv 0) pe_int (fun _ _ => rfl)) (pe_ix ix_tup (pv 1) pe_int (fun _ _ => rfl)))
      (pa_cons (pe_op op_mulX (pe_ix ix_tup (pv 0) pe_int (fun _ _ => rfl)) (pe_ix ix_tup (pv 1) pe_int (fun _ _ => rfl))) pa_nil)))), ?_⟩
    refine ⟨.ref a, rfl, a, _, 0, _, rfl, rfl, tup_of hA, at_0, .ref b, rfl, b, _, 0, _, rfl, rfl, tup_of hB, at_0, _, _, rfl, rfl, mul_ok sx.1 sy.1 (by decide), ?_⟩
    refine ⟨.ref a, rfl, a, _, 1, _, rfl, rfl, tup_of hA, at_1, .ref b, rfl, b, _, 1, _, rfl, rfl, tup_of hB, at_1, _, _, rfl, rfl, mul_ok sx.2.1 sy.2.1 (by decide), ?_⟩
    exact ⟨_, _, rfl, Int.mul_ne_zero sx.2.2 sy.2.2, lt_mono (FF.bd_mul sx.2.1 sy.2.1) (by decide), q⟩
theorem ok_plus (d : Df K mg "plus" sPlus ["a", "b"]) (dN : Df K mg "number" sNumber ["n", "d"]) (mgc : mg "gcd" = some (.builtin "math.gcd")) {k : Nat} : Ok P w base d (k + 2) spPlus := by
  have GN : Ok P w base dN (k + 1) spNumber := ok_number dN mgc
  refine d.F.ok scPlus (fun vs H Q E h => ?_) (fun cdv A outer s H vs Q E hr h => ?_)
  · obtain ⟨a, b, _, _, rfl, _⟩ := h
    rfl
  · obtain ⟨a, b, x, y, rfl, hA, hB, sx, sy, q⟩ := h
    refine ⟨_, pss_one (ps_ret (pe_call GN hr (by rfl) dN.g dN.F.kp dN.b .nil pass0
      (pa_cons (pe_op op_add (pe_op op_mulX (pe_ix ix_tup (pv 0) pe_int (fun _ _ => rfl)) (pe_ix ix_tup (pv 1) pe_int (fun _ _ => rfl))) (pe_op op_mulX (pe_ix ix_tup (pv 1) pe_int (fun _ _ => rfl)) (pe_ix ix_tup (pv 0) pe_int (fun _ _ => rfl))))
      (pa_cons (pe_op op_mulX (pe_ix ix_tup (pv 0) pe_int (fun _ _ => rfl)) (pe_ix ix_tup (pv 1) pe_int (fun _ _ => rfl))) pa_nil)))), ?_⟩
    refine ⟨.ref a, rfl, a, _, 0, _, rfl, rfl, tup_of hA, at_0, .ref b, rfl, b, _, 1, _, rfl, rfl, tup_of hB, at_1, _, _, rfl, rfl, mul_ok sx.1 sy.2.1 (by decide), ?_⟩
    refine ⟨.ref b, rfl, b, _, 0, _, rfl, rfl, tup_of hB, at_0, .ref a, rfl, a, _, 1, _, rfl, rfl, tup_of hA, at_1, _, _, rfl, rfl, mul_ok sy.1 sx.2.1 (by decide), _, _, rfl, rfl, ?_⟩
    refine ⟨.ref a, rfl, a, _, 1, _, rfl, rfl, tup_of hA, at_1, .ref b, rfl, b, _, 1, _, rfl, rfl, tup_of hB, at_1, _, _, rfl, rfl, mul_ok sx.2.1 sy.2.1 (by decide), ?_⟩
    exact ⟨_, _, rfl, Int.mul_ne_zero sx.2.2 sy.2.2, lt_mono (FF.bd_mul sx.2.1 sy.2.1) (by decide), q⟩
end
end Wt

/-! Wh: quotient. -/
namespace Wt
open PySem PySem.Spec PyProof.Rows L2
structure Quo (K : PySem.W.Frag) (mg : Str → Option Value) extends Pol K mg where
  number : Df K mg "number" sNumber ["n", "d"]
  plus : Df K mg "plus" sPlus ["a", "b"]
  times : Df K mg "times" sTimes ["a", "b"]
  quotient : Df K mg "quotient" sQuotient ["a", "b"]
def spQuotient (K : PySem.W.Frag) : Sp := fun vs H Q _ => ∃ (a b : Addr) (xs ys ks : List Int), vs = [.ref a, .ref b] ∧ SqL K H a (xs.map V.int) ∧ SqL K H b (ys.map V.int) ∧ xs.length ≤ 9 ∧ ys.length ≤ 9 ∧ ys ≠ [] ∧ 0 < FF.lead ys ∧ FF.Trm ks ∧ xs.length + 1 = ys.length + ks.length ∧ ks ≠ [] ∧
  FF.S xs = FF.S ys * FF.S ks ∧ FF.Bd 300 ys ∧ FF.Bd 300 ks ∧ FF.Bd 300 xs ∧ New H Q (L (FF.pPlain ks))
theorem rev_drop {ks : List Int} {t : Nat} (h : t < ks.length) : (ks.drop t).reverse = (ks.drop (t + 1)).reverse ++ [ks.getD t 0] := by
  rw [List.drop_eq_getElem_cons h, List.reverse_cons, List.getD_eq_getElem?_getD, List.getElem?_eq_getElem h]
  rfl
theorem upd_other {H : Hp} {D E : Addr} {o u x : HO} (h : H D = some u) (hE : H E = some x) (hne : E ≠ D) : upd H D o E = some x := by
  rw [upd_ne hne]
  exact hE
section
variable {P : Program} {w : World} {K : PySem.W.Frag} {mg : Str → Option Value} {base : Heap}
set_option maxHeartbeats 1000000 in
theorem ok_quotient (hb : base.NoSeer) (ht : P.given.tree = none) (T : Quo K mg) {k : Nat} : Ok P w base T.quotient (k + 42) (spQuotient K) := by
  have GP : Ok P w base T.plain (k + 41) (spPlain K) := ok_plain hb ht T.plain T.content T.gcd
  have GN : Ok P w base T.number (k + 40 + 1) spNumber := ok_number T.number T.gcd
  have GM : Ok P w base T.times (k + 39 + 2) spTimes := ok_times T.times T.number T.gcd
  have GA : Ok P w base T.plus (k + 39 + 2) spPlus := ok_plus T.plus T.number T.gcd
  refine T.quotient.F.ok scQuotient (fun vs H Q E h => ?_) (fun cdv A outer s H vs Q E hr h => ?_)
  · obtain ⟨a, b, _, _, _, rfl, _⟩ := h
    rfl
  · obtain ⟨a, b, xs, ys, ks, rfl, hA, hB, la, lb, hy, ly, tk, el, hk, es, by_, bk, bx, q⟩ := h
    have ml := T.len
    refine ⟨_, pss_cons (ps_setLc (i := 3) (own := [("coefficient", 2)]) (g := gName 2) (tt := tYes) rfl scQuotient.nd rfl rfl (sw_true rfl rfl rfl (by decide +kernel)) (pi_list (pv 0))
          (blkOk_by (N := ["a", "b", "coefficient", "rest", "found", "by", "factor", "k", "measure", "top", "under"]) (sc := defScope sQuotient) (by decide +kernel)) (fun _ _ _ _ _ => pg_name (i := 2) scQuotient.nd rfl (.inl rfl)) (fun _ _ _ _ _ => pts_nil)
          (fun _ _ _ _ _ => pe_call GN hr (by rfl) T.number.g T.number.F.kp T.number.b .nil pass0 (pa_cons (pv 2) (pa_cons pe_int pa_nil))))
      (pss_cons (ps_set (i := 4) scQuotient.nd rfl (.inl rfl) (pe_lst pa_nil))
      (pss_cons (ps_for PassesOwn.never rfl (pi_range3 rfl T.range (pa_cons (pe_op op_sub (pe_callB call_len_seq (by rfl) ml PySem.boot_len (pa_cons (pv 0) pa_nil)) (pe_callB call_len_seq (by rfl) ml PySem.boot_len (pa_cons (pv 1) pa_nil))) (pa_cons (pe_un un_neg pe_int) (pa_cons (pe_un un_neg pe_int) pa_nil)))) (pg_name (i := 5) scQuotient.nd rfl (.inl rfl))
        (pss_cons (ps_set (i := 6) scQuotient.nd rfl (.inl rfl) (pe_call GM hr (by rfl) T.times.g T.times.F.kp T.times.b .nil pass0
            (pa_cons (pe_ix ix_list (pv 3) (pe_op op_sub (pe_op op_add (pv 5) (pe_callB call_len_seq (by rfl) ml PySem.boot_len (pa_cons (pv 1) pa_nil))) pe_int) (fun _ _ => rfl))
            (pa_cons (pe_call GN hr (by rfl) T.number.g T.number.F.kp T.number.b .nil pass0 (pa_cons pe_int (pa_cons (pe_ix ix_list (pv 1) (pe_un un_neg pe_int) (fun _ _ => rfl)) pa_nil))) pa_nil))))
        (pss_cons (ps_expr (pe_bm PySem.F.plainAttrs_list PySem.F.slot_list_append PySem.F.type_list_append mt_append (pv 4) (pa_cons (pv 6) pa_nil)))
        (pss_one (ps_for PassesOwn.never rfl (pi_enum (by rfl) T.enum (pa_cons (pv 1) pa_nil)) (pg_tup rfl (pgs_cons (pg_name (i := 7) scQuotient.nd rfl (.inl rfl)) (pgs_cons (pg_name (i := 2) scQuotient.nd rfl (.inl rfl)) pgs_nil)))
          (pss_one (ps_asg (pe_call GA hr (by rfl) T.plus.g T.plus.F.kp T.plus.b .nil pass0
              (pa_cons (pe_ix ix_list (pv 3) (pe_op op_add (pv 5) (pv 7)) (fun _ _ => rfl))
              (pa_cons (pe_call GM hr (by rfl) T.times.g T.times.F.kp T.times.b .nil pass0 (pa_cons (pv 6) (pa_cons (pe_tup (pa_cons (pe_un un_neg (pv 2)) (pa_cons pe_int pa_nil))) pa_nil))) pa_nil)))
            (pg_sub (pv 3) (pe_op op_add (pv 5) (pv 7)) set_list))))))))
      (pss_cons (ps_set (i := 8) scQuotient.nd rfl (.inr rfl) pe_int)
      (pss_cons (ps_for PassesOwn.never rfl (pi_list (pv 4)) (pg_tup rfl (pgs_cons (pg_name (i := 9) scQuotient.nd rfl (.inl rfl)) (pgs_cons (pg_name (i := 10) scQuotient.nd rfl (.inl rfl)) pgs_nil)))
        (pss_one (ps_set (i := 8) scQuotient.nd rfl (.inr rfl) (pe_op op_fdivW (pe_op op_mulX (pv 8) (pv 10)) (pe_callBfun cr_gcd (by rfl) T.gcd (pa_cons (pv 8) (pa_cons (pv 10) pa_nil)))))))
      (pss_one (ps_ret (pe_call GP hr (by rfl) T.plain.g T.plain.F.kp T.plain.b .nil pass0 (pa_cons
        (pe_lc (own := [("top", 9), ("under", 10)]) (g := gTup K 2 (gCons (gName 9) (gCons (gName 10) gNil))) (tt := tYes) rfl scQuotient.nd (pi_list (pe_revL (pv 4)))
          (blkOk_by (N := ["a", "b", "coefficient", "rest", "found", "by", "factor", "k", "measure", "top", "under"]) (sc := defScope sQuotient) (by decide +kernel))
          (fun _ _ _ _ _ => pg_tup rfl (pgs_cons (pg_name (i := 9) scQuotient.nd rfl (.inl rfl)) (pgs_cons (pg_name (i := 10) scQuotient.nd rfl (.inl rfl)) pgs_nil))) (fun _ _ _ _ _ => pts_nil)
          (fun _ _ _ _ _ => pe_op op_mulX (pv 9) (pe_op op_fdivW (pv 8) (pv 10)))) pa_nil)))))))), ?_⟩
    have lys := FF.len_pos hy
    have lks := FF.len_pos hk
    -- rest = [number(c, 1) for c in a]
    refine ⟨.ref a, rfl, a, rfl, ⟨_, hA⟩, fun R hR => ?_⟩
    refine lc_list (K := K) (a := a) (xs := xs.map V.int) (fun i H' => Same H H' ∧ ∃ l, H' R = some (.lst l) ∧ TupsAt H' l (xs.take i)) ⟨same_upd hR, [], upd_same, TupsAt.nil⟩ (fun i H' hi ⟨s1, _⟩ => s1.seq hA) (fun i x H' hx ⟨s1, l, hl, tl⟩ => ?_) (fun H1 ⟨s1, l, hl, tl⟩ => ?_)
    · have hi := lt_of_get hx
      rw [get_int hi] at hx
      cases hx
      refine ⟨rfl, _, rfl, _, _, rfl, by decide, by decide +kernel, fun H2 p s2 hp h2 => ?_⟩
      rw [FF.numN_one] at h2
      refine ⟨l, s2 _ _ hl, ?_, same_set (s1.trans s2) hR, _, upd_same, ?_⟩
      · rw [tl.1, List.length_take]
        exact small1000 (by omega)
      · rw [List.take_add_one, List.getElem?_eq_getElem hi]
        have e : xs[i] = xs.getD i 0 := by
          rw [List.getD_eq_getElem?_getD, List.getElem?_eq_getElem hi]
          rfl
        rw [e]
        exact ((tl.same s2).app h2).upd (s2 _ _ hl)
    rw [List.length_map, List.take_length] at tl
    -- found = []
    refine ⟨Nat.zero_le _, fun F hF => ?_⟩
    have hF0 : H F = none := s1.free hF
    have nFR : R ≠ F := ne_of_none hl hF
    have sF : Same H1 (upd H1 F (.lst [])) := same_upd hF
    have s1F := s1.trans sF
    refine ⟨.ref a, rfl, a, _, rfl, .inl (s1F.seq hA), .ref b, rfl, b, _, rfl, .inl (s1F.seq hB), _, _, rfl, rfl, 1, rfl, 1, rfl, ?_⟩
    rw [List.length_map, List.length_map]
    refine ⟨_, _, _, ks.length, rfl, ?_, ?_⟩
    · have e := RgC.neg (i := ((xs.length : Nat) : Int) - ((ys.length : Nat) : Int)) (j := -1) (by omega) (by omega) (by omega) (by omega)
      rw [show (((xs.length : Nat) : Int) - ((ys.length : Nat) : Int) - -1).toNat = ks.length by omega] at e
      exact e
    refine for_rangeC (n := ks.length) (fun i σ H' => Same H H' ∧ ∃ v2 v5 v6 v7 l vs fl, σ = [some (.ref a), some (.ref b), v2, some (.ref R), some (.ref F), v5, v6, v7, none, none, none] ∧
        H' R = some (.lst l) ∧ TupsAt H' l vs ∧ FF.QuoInv ys ks xs.length (ks.length - i) 0 vs ∧ H' F = some (.lst fl) ∧ TupsAt H' fl (ks.drop (ks.length - i)).reverse)
      ⟨s1F, none, none, none, none, l, xs, [], rfl, sF _ _ hl, tl.same sF, FF.QuoInv.start es, upd_same, ?_⟩ ?_ ?_
    · rw [Nat.sub_zero, List.drop_length]
      exact TupsAt.nil
    · rintro i σ H2 hi ⟨s2, v2, v5, v6, v7, l, vs, fl, rfl, hR2, tl, qi, hF2, tf⟩
      obtain ⟨t, ht⟩ : ∃ t, ks.length - i = t + 1 := ⟨ks.length - i - 1, by omega⟩
      have ht' : ks.length - (i + 1) = t := by omega
      rw [ht] at qi tf
      have htl : t < ks.length := by omega
      have eby : ((xs.length : Nat) : Int) - ((ys.length : Nat) : Int) + ((i : Nat) : Int) * -1 = ((t : Nat) : Int) := by omega
      have lvs := qi.len
      -- factor = times(rest[by + len(b) - 1], number(1, b[-1]))
      obtain ⟨r0, hr0, hr0'⟩ := tl.2 (t + ys.length - 1) (by rw [lvs]; omega)
      rw [qi.head hy] at hr0'
      refine ⟨.ref R, rfl, _, rfl, .ref b, rfl, b, _, rfl, .inl (s2.seq hB), _, _, rfl, rfl, _, _, rfl, rfl, R, _, _, .ref r0, rfl, rfl, .inl (.inl hR2), ?_, ?_⟩
      · rw [List.length_map]
        refine at_of (j := t + ys.length - 1) ?_ hr0
        omega
      refine ⟨.ref b, rfl, 1, rfl, b, _, -1, _, rfl, rfl, s2.seq hB, at_lead hy, _, _, rfl, by omega, lt_mono (by_ _) (show 300 ≤ 8000 by decide), fun H3 p3 s3 hp3 h3 => ?_⟩
      rw [FF.numN_inv ly] at h3
      have s23 := s2.trans s3
      have bT : (ks.getD t 0).natAbs < 2 ^ 300 := bk t
      have bL : (FF.lead ys).natAbs < 2 ^ 300 := by_ _
      refine ⟨r0, p3, _, _, rfl, s3 _ _ hr0', h3, ⟨lt_mono (FF.bd_mul bL bT) (show 300 + 300 ≤ 1000 by decide), by show (1 : Int).natAbs < 2 ^ 1000; exact lt_mono (m := 1) (by decide) (by decide), by show (1 : Int) ≠ 0; decide⟩,
        ⟨by show (1 : Int).natAbs < 2 ^ 1000; exact lt_mono (m := 1) (by decide) (by decide), lt_mono bL (show 300 ≤ 1000 by decide), by show FF.lead ys ≠ 0; omega⟩, fun H4 p4 s4 hp4 h4 => ?_⟩
      have e4 : FF.numN (FF.lead ys * ks.getD t 0 * 1) (1 * FF.lead ys) = (ks.getD t 0, 1) := by rw [Int.mul_one, Int.one_mul, FF.numN_mul ly]
      rw [show (FF.numN ((FF.lead ys * ks.getD t 0, (1 : Int)).1 * ((1 : Int), FF.lead ys).1) ((FF.lead ys * ks.getD t 0, (1 : Int)).2 * ((1 : Int), FF.lead ys).2)) = _ from e4] at h4
      have s34 := s3.trans s4
      have s24 := s2.trans s34
      -- found.append(factor)
      refine ⟨.ref F, rfl, .inl ⟨rfl, _, SqL.of (s34 _ _ hF2)⟩, _, rfl, F, _, _, rfl, rfl, s34 _ _ hF2, ?_, ?_⟩
      · rw [tf.1, List.length_reverse, List.length_drop]
        exact small1000 (by omega)
      have sA : Same H (upd H4 F (.lst (fl ++ [.ref p4]))) := same_set s24 hF0
      have hRA : (upd H4 F (.lst (fl ++ [.ref p4]))) R = some (.lst l) := upd_other (s34 _ _ hF2) (s34 _ _ hR2) nFR
      have tlA : TupsAt (upd H4 F (.lst (fl ++ [.ref p4]))) l vs := (tl.same s34).upd (s34 _ _ hF2)
      have tfA : TupsAt (upd H4 F (.lst (fl ++ [.ref p4]))) (fl ++ [.ref p4]) (ks.drop t).reverse := by
        rw [rev_drop htl]
        exact ((tf.same s34).app h4).upd (s34 _ _ hF2)
      have hpA : (upd H4 F (.lst (fl ++ [.ref p4]))) p4 = some (Pr2 (ks.getD t 0, 1)) := upd_other (s34 _ _ hF2) h4 (ne_of h4 (s34 _ _ hF2) (fun z => by cases z))
      refine ⟨.ref b, rfl, b, _, rfl, sA.seq hB, ?_⟩
      refine for_enum (K := K) (a := b) (xs := ys.map V.int) (fun j σ H' => Same H H' ∧ ∃ v2 v7 l vs, σ = [some (.ref a), some (.ref b), v2, some (.ref R), some (.ref F), some (.int (((xs.length : Nat) : Int) - ((ys.length : Nat) : Int) + ((i : Nat) : Int) * -1)), some (.ref p4), v7, none, none, none] ∧
          H' R = some (.lst l) ∧ TupsAt H' l vs ∧ FF.QuoInv ys ks xs.length (t + 1) j vs ∧ H' F = some (.lst (fl ++ [.ref p4])) ∧ TupsAt H' (fl ++ [.ref p4]) (ks.drop t).reverse ∧ H' p4 = some (Pr2 (ks.getD t 0, 1)))
        ⟨sA, v2, v7, l, vs, rfl, hRA, tlA, qi, upd_same, tfA, hpA⟩ (fun j σ H' _ h => h.1.seq hB) ?_ ?_
      · rintro j y σ H5 U hj ⟨s5, v2, v7, l5, vs5, rfl, hR5, tl5, q5, hF5, tf5, hp5⟩ nU
        have hjl := lt_of_get hj
        rw [get_int hjl] at hj
        cases hj
        have sU : Same H5 (upd H5 U (.tup [.int (j : Nat), .int (ys.getD j 0)])) := same_upd nU
        refine ⟨U, _, rfl, .inl (.inl upd_same), rfl, _, _, rfl, _, _, rfl, rfl, ?_⟩
        have eij : ((xs.length : Nat) : Int) - ((ys.length : Nat) : Int) + ((i : Nat) : Int) * -1 + ((j : Nat) : Int) = ((t + j : Nat) : Int) := by omega
        have lvs5 := q5.len
        have htj : t + j < vs5.length := by rw [lvs5]; omega
        obtain ⟨r5, hr5, hr5'⟩ := (tl5.same sU).2 (t + j) htj
        refine ⟨.ref R, rfl, _, rfl, _, rfl, _, _, rfl, rfl, R, _, _, .ref r5, rfl, rfl, .inl (.inl (sU _ _ hR5)), at_of eij hr5, ?_⟩
        -- times(factor, (-coefficient, 1))
        refine ⟨_, rfl, _, rfl, _, rfl, by show 2 ≤ sizeLine; decide, fun W hW => ?_⟩
        have sW : Same (upd H5 U (.tup [.int (j : Nat), .int (ys.getD j 0)])) (upd (upd H5 U (.tup [.int (j : Nat), .int (ys.getD j 0)])) W (.tup [.int (-(ys.getD j 0)), .int 1])) := same_upd hW
        have sUW := sU.trans sW
        have bY : (-(ys.getD j 0)).natAbs < 2 ^ 300 := by rw [Int.natAbs_neg]; exact by_ j
        have one1 : ((1 : Int)).natAbs < 2 ^ 1000 := lt_mono (m := 1) (by decide) (by decide)
        refine ⟨p4, W, (ks.getD t 0, 1), (-(ys.getD j 0), 1), rfl, sUW _ _ hp5, upd_same, ⟨lt_mono bT (show 300 ≤ 1000 by decide), one1, by show (1 : Int) ≠ 0; decide⟩, ⟨lt_mono bY (show 300 ≤ 1000 by decide), one1, by show (1 : Int) ≠ 0; decide⟩, fun H6 p6 s6 hp6 h6 => ?_⟩
        rw [show (FF.numN ((ks.getD t 0, (1 : Int)).1 * (-(ys.getD j 0), (1 : Int)).1) ((ks.getD t 0, (1 : Int)).2 * (-(ys.getD j 0), (1 : Int)).2)) = (ks.getD t 0 * -(ys.getD j 0), 1) from FF.numN_one _] at h6
        have s56 := sUW.trans s6
        -- plus
        have bV : (vs5.getD (t + j) 0).natAbs < 2 ^ 605 := q5.bd by_ bk (by omega) _
        refine ⟨r5, p6, (vs5.getD (t + j) 0, 1), (ks.getD t 0 * -(ys.getD j 0), 1), rfl, s6 _ _ (sW _ _ hr5'), h6, ⟨lt_mono bV (show 605 ≤ 1000 by decide), one1, by show (1 : Int) ≠ 0; decide⟩, ⟨lt_mono (FF.bd_mul bT bY) (show 300 + 300 ≤ 1000 by decide), one1, by show (1 : Int) ≠ 0; decide⟩, fun H7 p7 s7 hp7 h7 => ?_⟩
        have e7 : FF.numN (vs5.getD (t + j) 0 * 1 + ks.getD t 0 * -(ys.getD j 0) * 1) (1 * 1) = (vs5.getD (t + j) 0 + ks.getD t 0 * -(ys.getD j 0), 1) := by
          rw [Int.mul_one, Int.mul_one]
          exact FF.numN_one _
        rw [show (FF.numN ((vs5.getD (t + j) 0, (1 : Int)).1 * (ks.getD t 0 * -(ys.getD j 0), (1 : Int)).2 + (ks.getD t 0 * -(ys.getD j 0), (1 : Int)).1 * (vs5.getD (t + j) 0, (1 : Int)).2) ((vs5.getD (t + j) 0, (1 : Int)).2 * (ks.getD t 0 * -(ys.getD j 0), (1 : Int)).2)) = _ from e7] at h7
        have s57 := s56.trans s7
        -- rest[by + k] = ..
        refine ⟨.ref R, rfl, _, rfl, _, rfl, _, _, rfl, rfl, R, l5, _, t + j, rfl, rfl, s57 _ _ hR5, ?_, ?_⟩
        · unfold ixN
          rw [eij, if_pos (by omega), if_pos (by rw [tl5.1]; omega), Int.toNat_natCast]
        · have hRn : H R = none := hR
          refine ⟨same_set (s5.trans s57) hRn, _, _, l5.set (t + j) (.ref p7), vs5.set (t + j) (vs5.getD (t + j) 0 + ks.getD t 0 * -(ys.getD j 0)), rfl, upd_same, ?_, q5.step hjl (by omega), ?_, ?_, ?_⟩
          · exact ((tl5.same s57).set h7 htj).upd (s57 _ _ hR5)
          · exact upd_other (s57 _ _ hR5) (s57 _ _ hF5) nFR.symm
          · exact (tf5.same s57).upd (s57 _ _ hR5)
          · exact upd_other (s57 _ _ hR5) (s57 _ _ hp5) (ne_of (s57 _ _ hp5) (s57 _ _ hR5) (fun z => by cases z))
      · rintro σ H5 ⟨s5, v2, v7, l5, vs5, rfl, hR5, tl5, q5, hF5, tf5, hp5⟩
        rw [List.length_map] at q5
        rw [ht']
        exact ⟨s5, v2, _, _, v7, l5, vs5, _, rfl, hR5, tl5, q5.row, hF5, tf5⟩
    · rintro σ H2 ⟨s2, v2, v5, v6, v7, l, vs, fl, rfl, hR2, tl, qi, hF2, tf⟩
      rw [Nat.sub_self, List.drop_zero] at tf
      -- measure = 1
      have one1 : ((1 : Int)).natAbs < 2 ^ 1000 := lt_mono (m := 1) (by decide) (by decide)
      have cdv1 : CDivW 1 ((Nat.gcd (1 : Int).natAbs (1 : Int).natAbs : Nat) : Int) := wide_div (b := 1) (by decide) (by decide) (by decide) (by decide)
      have edv1 : (1 * 1 : Int) / ((Nat.gcd (1 : Int).natAbs (1 : Int).natAbs : Nat) : Int) = 1 := by decide
      have cdv2 : CDivW 1 1 := wide_div (b := 1) (by decide) (by decide) (by decide) (by decide)
      refine ⟨.ref F, rfl, F, rfl, ⟨_, .inl (.inl hF2)⟩, for_list (K := K) (a := F) (xs := fl) (fun i σ H' => H' = H2 ∧ ∃ v9 v10, σ = [some (.ref a), some (.ref b), v2, some (.ref R), some (.ref F), v5, v6, v7, some (.int 1), v9, v10]) ⟨rfl, none, none, rfl⟩ (fun i σ H' _ ⟨e, _⟩ => by rw [e]; exact .inl (.inl hF2)) ?_ ?_⟩
      · rintro i x σ H3 hx ⟨rfl, v9, v10, rfl⟩
        have hil : i < ks.reverse.length := by
          rw [← tf.1]
          exact (List.getElem?_eq_some_iff.mp hx).1
        obtain ⟨r, hr1, hr2⟩ := tf.2 i hil
        rw [hr1] at hx
        cases hx
        refine ⟨r, _, rfl, tup_of hr2, rfl, _, _, rfl, _, _, rfl, rfl, ?_⟩
        refine ⟨_, rfl, _, rfl, _, _, rfl, rfl, mul_ok one1 one1 (by decide), ?_⟩
        exact ⟨_, rfl, _, rfl, _, _, rfl, _, _, rfl, rfl, cdv1, rfl, some (.int (ks.reverse.getD i 0)), some (.int 1), congrArg (fun z : Int => ([some (V.ref a), some (V.ref b), v2, some (V.ref R), some (V.ref F), v5, v6, v7, some (V.int z), some (V.int (ks.reverse.getD i 0)), some (V.int 1)] : List (Option V))) edv1⟩
      · rintro σ H3 ⟨rfl, v9, v10, rfl⟩
        refine ⟨.ref F, rfl, F, fl, rfl, .inl (.inl hF2), fun G hG => ?_⟩
        have sG : Same H3 (upd H3 G (.lst fl.reverse)) := same_upd hG
        have tr := tf.rev.same sG
        rw [List.reverse_reverse] at tr
        refine ⟨G, rfl, ⟨_, .inl (.inl upd_same)⟩, fun D hD => ?_⟩
        have sD : Same (upd H3 G (.lst fl.reverse)) (upd (upd H3 G (.lst fl.reverse)) D (.lst [])) := same_upd hD
        refine lc_list (K := K) (a := G) (xs := fl.reverse) (fun i H' => Same (upd H3 G (.lst fl.reverse)) H' ∧ H' D = some (L (ks.take i))) ⟨sD, upd_same⟩ (fun i H' hi ⟨s1, _⟩ => .inl (.inl (s1 _ _ upd_same))) (fun i x H' hx ⟨s4, hD4⟩ => ?_) (fun H' ⟨s4, hD4⟩ => ?_)
        · have hil : i < ks.length := by
            rw [← tr.1]
            exact (List.getElem?_eq_some_iff.mp hx).1
          obtain ⟨r, hr1, hr2⟩ := tr.2 i hil
          rw [hr1] at hx
          cases hx
          refine ⟨r, _, rfl, tup_of (s4 _ _ hr2), rfl, _, _, rfl, _, _, rfl, rfl, ?_⟩
          refine ⟨rfl, _, rfl, _, rfl, _, rfl, _, _, rfl, rfl, cdv2, _, _, rfl, rfl, mul_ok (lt_mono (bk i) (show 300 ≤ 1000 by decide)) one1 (by decide), _, hD4, ?_, same_set s4 hD, ?_⟩
          · rw [List.length_map, List.length_take]
            exact small1000 (by omega)
          · rw [upd_same, List.take_add_one, List.getElem?_eq_getElem hil]
            show some (HO.lst (_ ++ [V.int (ks.getD i 0 * (1 / 1))])) = some (HO.lst ((_ ++ [ks[i]]).map V.int))
            rw [List.map_append, List.getD_eq_getElem?_getD, List.getElem?_eq_getElem hil]
            show some (HO.lst (_ ++ [V.int (ks[i] * 1)])) = _
            rw [Int.mul_one]
            rfl
        · have elen : fl.reverse.length = ks.length := tr.1
          rw [elen, List.take_length] at hD4
          have sAll : Same H H' := (s2.trans sG).trans s4
          exact ⟨D, ks, rfl, seq_of hD4, by omega, tk, q.back sAll⟩
end
end Wt

/-! Wi: signed_content, fraction, sum_of, difference_of, product_of, quotient_of. -/
namespace Wt
open PySem PySem.Spec PyProof.Rows L2
abbrev sSigned : Stmt := topS 19
abbrev sFraction : Stmt := topS 20
abbrev sSum : Stmt := topS 21
abbrev sDiff : Stmt := topS 22
abbrev sProd : Stmt := topS 23
abbrev sQuot : Stmt := topS 24
theorem scSigned : FnScope ["a"] ["a"] (defScope sSigned) := ⟨rfl, rfl, rfl, by decide +kernel, rfl, by decide +kernel, by decide +kernel⟩
theorem scFraction : FnScope ["p", "q", "common", "top", "under"] ["p", "q"] (defScope sFraction) := ⟨rfl, rfl, rfl, by decide +kernel, rfl, by decide +kernel, by decide +kernel⟩
theorem scSum : FnScope ["f", "g"] ["f", "g"] (defScope sSum) := ⟨rfl, rfl, rfl, by decide +kernel, rfl, by decide +kernel, by decide +kernel⟩
theorem scDiff : FnScope ["f", "g"] ["f", "g"] (defScope sDiff) := ⟨rfl, rfl, rfl, by decide +kernel, rfl, by decide +kernel, by decide +kernel⟩
theorem scProd : FnScope ["f", "g"] ["f", "g"] (defScope sProd) := ⟨rfl, rfl, rfl, by decide +kernel, rfl, by decide +kernel, by decide +kernel⟩
theorem scQuot : FnScope ["f", "g"] ["f", "g"] (defScope sQuot) := ⟨rfl, rfl, rfl, by decide +kernel, rfl, by decide +kernel, by decide +kernel⟩
def spSigned (K : PySem.W.Frag) : Sp := fun vs H Q _ => ∃ (a : Addr) (xs : List Int), vs = [.ref a] ∧ SqL K H a (xs.map V.int) ∧ FF.Trm xs ∧ xs ≠ [] ∧ Q (.int (FF.sc xs)) H
/-- a fraction at an address -/
def FrAt (H : Hp) (r : Addr) (P Q : List Int) : Prop := ∃ a b, H r = some (.tup [.ref a, .ref b]) ∧ H a = some (L P) ∧ H b = some (L Q)
theorem FrAt.same {H H' : Hp} {r : Addr} {P Q : List Int} (f : FrAt H r P Q) (s : Same H H') : FrAt H' r P Q := let ⟨a, b, h1, h2, h3⟩ := f; ⟨a, b, s _ _ h1, s _ _ h2, s _ _ h3⟩
/-- .. whose lists are new -/
def FrNew (H H' : Hp) (r : Addr) (P Q : List Int) : Prop := ∃ a b, H' r = some (.tup [.ref a, .ref b]) ∧ H' a = some (L P) ∧ H' b = some (L Q) ∧ H a = none ∧ H b = none
theorem FrNew.at {H H' : Hp} {r : Addr} {P Q : List Int} (f : FrNew H H' r P Q) : FrAt H' r P Q := let ⟨a, b, h1, h2, h3, _⟩ := f; ⟨a, b, h1, h2, h3⟩
theorem FrNew.back {H H1 H' : Hp} {r : Addr} {P Q : List Int} (f : FrNew H1 H' r P Q) (s : Same H H1) : FrNew H H' r P Q := let ⟨a, b, h1, h2, h3, h4, h5⟩ := f; ⟨a, b, h1, h2, h3, s.free h4, s.free h5⟩
/-- a new fraction: what n by d is, in canonical form, at most l coefficients, each below 2 ^ m -/
def NewF (H : Hp) (Q : VK) (n d : FF.Ser) (l m : Nat) : Prop := ∀ H' r A B, Same H H' → FrNew H H' r A B → FF.Rep A B n d → A.length ≤ l → B.length ≤ l → FF.Bd m A → FF.Bd m B → Q (.ref r) H'
def spFraction (K : PySem.W.Frag) : Sp := fun vs H Q _ => ∃ (a b : Addr) (xs ys : List Int) (n W c : Nat), vs = [.ref a, .ref b] ∧ SqL K H a (xs.map V.int) ∧ SqL K H b (ys.map V.int) ∧ FF.Trm xs ∧ FF.Trm ys ∧ ys ≠ [] ∧ n ≤ 8 ∧ W ≤ 240 ∧ xs.length ≤ n + 1 ∧ ys.length ≤ n + 1 ∧ FF.Bd W xs ∧ FF.Bd W ys ∧
  FF.fac n (n + 1) * FF.geo n (n + 1) ≤ 2 ^ c ∧ NewF H Q (FF.S xs) (FF.S ys) (n + 1) (W + c)
structure Frs (K : PySem.W.Frag) (mg : Str → Option Value) extends Quo K mg where
  signed : Df K mg "signed_content" sSigned ["a"]
  fraction : Df K mg "fraction" sFraction ["p", "q"]
theorem pPlain_mem_bd {m : Nat} {xs : List Int} (t : FF.Trm xs) (b : FF.Bd m xs) : ∀ x ∈ FF.pPlain xs, x.natAbs < 2 ^ m := fun x hx => (FF.Bd.pPlain t b).mem hx
section
variable {P : Program} {w : World} {K : PySem.W.Frag} {mg : Str → Option Value} {base : Heap}
theorem ok_signed (d : Df K mg "signed_content" sSigned ["a"]) (dC : Df K mg "content" sContent ["a"]) (mgc : mg "gcd" = some (.builtin "math.gcd")) {k : Nat} : Ok P w base d (k + 2) (spSigned K) := by
  have GC : Ok P w base dC (k + 1) (spContent K) := ok_content dC mgc
  refine d.F.ok scSigned (fun vs H Q E h => ?_) (fun cdv A outer s H vs Q E hr h => ?_)
  · obtain ⟨a, _, rfl, _⟩ := h
    rfl
  · obtain ⟨a, xs, rfl, hA, tx, nx, q⟩ := h
    refine ⟨_, pss_one (ps_ret (pe_ifExp (pt_cmpR op_gt (pe_ix ix_list (pv 0) (pe_un un_neg pe_int) (fun _ _ => rfl)) pe_int (nomark _))
      (pe_call GC hr (by rfl) dC.g dC.F.kp dC.b .nil pass0 (pa_cons (pv 0) pa_nil)) (pe_un un_neg (pe_call GC hr (by rfl) dC.g dC.F.kp dC.b .nil pass0 (pa_cons (pv 0) pa_nil))))), ?_⟩
    have l0 := FF.lead_ne tx nx
    refine ⟨.ref a, rfl, 1, rfl, a, _, -1, _, rfl, rfl, hA, at_lead nx, _, _, rfl, rfl, _, rfl, ?_⟩
    by_cases e : FF.lead xs > 0
    · rw [decide_eq_true e]
      have es : FF.sc xs = (FF.pCon xs : Int) := by
        unfold FF.sc
        rw [if_neg (by omega)]
      rw [es] at q
      exact iteT ⟨.ref a, rfl, a, xs, rfl, hA, q⟩
    · rw [decide_eq_false e]
      have es : FF.sc xs = -(FF.pCon xs : Int) := by
        unfold FF.sc
        rw [if_pos (by omega)]
      rw [es] at q
      exact iteF ⟨.ref a, rfl, a, xs, rfl, hA, _, rfl, q⟩
theorem ok_fraction (hb : base.NoSeer) (ht : P.given.tree = none) (T : Frs K mg) {k : Nat} : Ok P w base T.fraction (k + 43) (spFraction K) := by
  have GC : Ok P w base T.common (k + 42) (spCommon K) := ok_common hb ht T.toPol
  have GQ : Ok P w base T.quotient (k + 42) (spQuotient K) := ok_quotient hb ht T.toQuo
  have GN : Ok P w base T.number (k + 41 + 1) spNumber := ok_number T.number T.gcd
  have GG : Ok P w base T.signed (k + 40 + 2) (spSigned K) := ok_signed T.signed T.content T.gcd
  have GS : Ok P w base T.scale (k + 40 + 2) (spScale K) := ok_scale T.scale T.trimmed T.len
  refine T.fraction.F.ok scFraction (fun vs H Q E h => ?_) (fun cdv A outer s H vs Q E hr h => ?_)
  · obtain ⟨a, b, _, _, _, _, _, rfl, _⟩ := h
    rfl
  · obtain ⟨a, b, xs, ys, n, W, c, rfl, hA, hB, tx, ty, ny, hn, hW, lx, ly, bx, bY, hc, q⟩ := h
    refine ⟨_, pss_cons (ps_if (pt_not (pt_truth (pv 0) (by intro _; rfl))) (pss_one (ps_ret (pe_tup (pa_cons (pe_lst pa_nil) (pa_cons (pe_lst (pa_cons pe_int pa_nil)) pa_nil))))) pss_nil)
      (pss_cons (ps_set (i := 2) scFraction.nd rfl (.inl rfl) (pe_call GC hr (by rfl) T.common.g T.common.F.kp T.common.b .nil pass0 (pa_cons (pv 0) (pa_cons (pv 1) pa_nil))))
      (pss_cons (ps_asg (pe_call GN hr (by rfl) T.number.g T.number.F.kp T.number.b .nil pass0 (pa_cons (pe_call GG hr (by rfl) T.signed.g T.signed.F.kp T.signed.b .nil pass0 (pa_cons (pv 0) pa_nil)) (pa_cons (pe_call GG hr (by rfl) T.signed.g T.signed.F.kp T.signed.b .nil pass0 (pa_cons (pv 1) pa_nil)) pa_nil)))
          (pg_tup rfl (pgs_cons (pg_name (i := 3) scFraction.nd rfl (.inl rfl)) (pgs_cons (pg_name (i := 4) scFraction.nd rfl (.inl rfl)) pgs_nil))))
      (pss_one (ps_ret (pe_tup
        (pa_cons (pe_call GS hr (by rfl) T.scale.g T.scale.F.kp T.scale.b .nil pass0 (pa_cons (pe_call GQ hr (by rfl) T.quotient.g T.quotient.F.kp T.quotient.b .nil pass0 (pa_cons (pv 0) (pa_cons (pv 2) pa_nil))) (pa_cons (pv 3) pa_nil)))
        (pa_cons (pe_call GS hr (by rfl) T.scale.g T.scale.F.kp T.scale.b .nil pass0 (pa_cons (pe_call GQ hr (by rfl) T.quotient.g T.quotient.F.kp T.quotient.b .nil pass0 (pa_cons (pv 1) (pa_cons (pv 2) pa_nil))) (pa_cons (pv 4) pa_nil))) pa_nil))))))), ?_⟩
    by_cases hx : xs = []
    · subst hx
      refine ⟨.ref a, rfl, false, .inl ⟨_, hA, rfl⟩, ?_⟩
      refine iteT ?_
      refine ⟨Nat.zero_le _, fun p hp => ?_⟩
      have s1 : Same H (upd H p (.lst [])) := same_upd hp
      refine ⟨by decide, fun r hr2 => ?_⟩
      have s2 := same_upd (o := .lst [.int 1]) hr2
      refine ⟨by show 2 ≤ sizeLine; decide, fun t ht => ?_⟩
      have s3 := same_upd (o := .tup [.ref p, .ref r]) ht
      have rep : FF.Rep [] [1] (FF.S []) (FF.S ys) := FF.rep_zero (ty.ne ny) FF.S_nil
      have hb := rep.bounds FF.Trm.nil ty ny (by omega) ly FF.Bd.nil bY hc
      exact q _ t _ _ ((s1.trans s2).trans s3) ⟨p, r, upd_same, s3 _ _ (s2 _ _ upd_same), s3 _ _ upd_same, hp, s1.free hr2⟩ rep hb.1 hb.2.1 hb.2.2.1 hb.2.2.2
    refine ⟨.ref a, rfl, true, .inl ⟨_, hA, by rw [isE hx]; rfl⟩, ?_⟩
    refine iteF ?_
    obtain ⟨pg, ⟨kp, tkp, nkp, ep⟩, ⟨kq, tkq, nkq, eq⟩, bz⟩ := FF.pGcd_ok tx ty hx ny
    have b8 : ∀ {u v : List Int} {g : FF.Ser}, FF.Trm u → u ≠ [] → u.length ≤ n + 1 → FF.Bd W u → FF.Pol g → FF.S u = g * FF.S v → FF.Bd 300 v := fun {u v g} tu nu lu bu pg e =>
      (FF.factor_bd (n := 8) (c := 58) (by omega) tu nu bu pg e FF.fac_ok8).mono (by omega)
    have lenp := FF.len_mul tx pg.trm tkp pg.ne nkp ep
    have lenq := FF.len_mul ty pg.trm tkq pg.ne nkq eq
    have bg : FF.Bd 300 (FF.pGcd xs ys) := b8 tx hx lx bx (FF.S_pol kp) (by rw [ep, FF.Ser.mul_comm])
    have bkp : FF.Bd 300 kp := b8 tx hx lx bx (FF.S_pol _) ep
    have bkq : FF.Bd 300 kq := b8 ty ny ly bY (FF.S_pol _) eq
    have lkp := FF.len_pos nkp
    have lkq := FF.len_pos nkq
    refine ⟨.ref a, rfl, .ref b, rfl, a, b, xs, ys, rfl, hA, hB, by omega, by omega, .inl hx, tx, ty, bx.mono (by omega), bY.mono (by omega), fun H1 g s1 hg0 hg => ?_⟩
    refine ⟨.ref a, rfl, a, xs, rfl, s1.seq hA, tx, hx, ?_⟩
    refine ⟨.ref b, rfl, b, ys, rfl, s1.seq hB, ty, ny, ?_⟩
    have sy0 := FF.sc_ne ty ny
    refine ⟨_, _, rfl, sy0, lt_mono (FF.sc_lt ty ny bY) (show W ≤ 8000 by omega), fun H2 t s2 ht0 ht2 => ?_⟩
    have nle := FF.numN_le (x := FF.sc xs) sy0
    have b1 : (FF.numN (FF.sc xs) (FF.sc ys)).1.natAbs < 2 ^ 300 := Nat.lt_of_le_of_lt nle.1 (lt_mono (FF.sc_lt tx hx bx) (by omega))
    have b2 : (FF.numN (FF.sc xs) (FF.sc ys)).2.natAbs < 2 ^ 300 := Nat.lt_of_le_of_lt nle.2 (lt_mono (FF.sc_lt ty ny bY) (by omega))
    refine ⟨t, _, rfl, tup_of ht2, rfl, _, _, rfl, _, _, rfl, rfl, ?_⟩
    have s12 := s1.trans s2
    -- quotient(p, common), scaled
    refine ⟨.ref a, rfl, .ref g, rfl, a, g, xs, FF.pGcd xs ys, kp, rfl, s12.seq hA, seq_of (s2 _ _ hg), by omega, by omega, pg.ne, pg.pos, tkp, by omega, nkp, ep, bg, bkp, bx.mono (by omega), fun H3 u s3 hu0 hu => ?_⟩
    refine ⟨_, rfl, u, _, _, rfl, seq_of hu, by rw [FF.pPlain_len]; omega, fun x hx' => mul_ok (pPlain_mem_bd tkp bkp x hx') b1 (by decide), fun H4 v s4 hv0 hv => ?_⟩
    have s14 := s12.trans (s3.trans s4)
    refine ⟨.ref b, rfl, .ref g, rfl, b, g, ys, FF.pGcd xs ys, kq, rfl, s14.seq hB, seq_of ((s2.trans (s3.trans s4)) _ _ hg), by omega, by omega, pg.ne, pg.pos, tkq, by omega, nkq, eq, bg, bkq, bY.mono (by omega), fun H5 u' s5 hu0' hu' => ?_⟩
    refine ⟨_, rfl, u', _, _, rfl, seq_of hu', by rw [FF.pPlain_len]; omega, fun x hx' => mul_ok (pPlain_mem_bd tkq bkq x hx') b2 (by decide), fun H6 v' s6 hv0' hv' => ?_⟩
    have s16 := s14.trans (s5.trans s6)
    refine ⟨by show 2 ≤ sizeLine; decide, fun z hz => ?_⟩
    have s7 := same_upd (o := .tup [.ref v, .ref v']) hz
    have rep := FF.frac_ok tx ty hx ny pg tkp tkq ep eq bz
    have hbd := rep.bounds tx ty ny lx ly bx bY hc
    exact q _ z _ _ (s16.trans s7) ⟨v, v', upd_same, s7 _ _ ((s5.trans s6) _ _ hv), s7 _ _ hv', (s12.trans s3).free hv0, (s14.trans s5).free hv0'⟩ rep hbd.1 hbd.2.1 hbd.2.2.1 hbd.2.2.2
/-- two fractions handed in -/
structure Two (H : Hp) (f g : Addr) (P1 Q1 P2 Q2 : List Int) (l1 m1 l2 m2 : Nat) : Prop where
  f : FrAt H f P1 Q1
  g : FrAt H g P2 Q2
  cf : FF.Canon P1 Q1
  cg : FF.Canon P2 Q2
  lp1 : P1.length ≤ l1
  lq1 : Q1.length ≤ l1
  lp2 : P2.length ≤ l2
  lq2 : Q2.length ≤ l2
  bp1 : FF.Bd m1 P1
  bq1 : FF.Bd m1 Q1
  bp2 : FF.Bd m2 P2
  bq2 : FF.Bd m2 Q2
/-- how two fractions are put together: sum, difference, product, quotient -/
def spTwo (num den : List Int → List Int → List Int → List Int → FF.Ser) (ask : List Int → Prop) : Sp := fun vs H Q _ => ∃ (f g : Addr) (P1 Q1 P2 Q2 : List Int) (l1 m1 l2 m2 n c : Nat), vs = [.ref f, .ref g] ∧ Two H f g P1 Q1 P2 Q2 l1 m1 l2 m2 ∧ ask P2 ∧
  l1 + l2 ≤ n + 2 ∧ l1 ≤ 8 ∧ n ≤ 8 ∧ m1 + m2 + 4 ≤ 240 ∧ FF.fac n (n + 1) * FF.geo n (n + 1) ≤ 2 ^ c ∧ NewF H Q (num P1 Q1 P2 Q2) (den P1 Q1 P2 Q2) (n + 1) (m1 + m2 + 4 + c)
def spSum : Sp := spTwo (fun P1 Q1 P2 Q2 => FF.S P1 * FF.S Q2 + FF.S P2 * FF.S Q1) (fun _ Q1 _ Q2 => FF.S Q1 * FF.S Q2) fun _ => True
def spDiff : Sp := spTwo (fun P1 Q1 P2 Q2 => FF.S P1 * FF.S Q2 - FF.S P2 * FF.S Q1) (fun _ Q1 _ Q2 => FF.S Q1 * FF.S Q2) fun _ => True
def spProd : Sp := spTwo (fun P1 Q1 P2 Q2 => FF.S P1 * FF.S P2) (fun _ Q1 _ Q2 => FF.S Q1 * FF.S Q2) fun _ => True
def spQuot : Sp := spTwo (fun P1 Q1 P2 Q2 => FF.S P1 * FF.S Q2) (fun _ Q1 P2 _ => FF.S Q1 * FF.S P2) fun P2 => P2 ≠ []
/-- one product of two of the four lists -/
theorem two_mul {x y : List Int} {l1 l2 m1 m2 n : Nat} (lx : x.length ≤ l1) (ly : y.length ≤ l2) (bx : FF.Bd m1 x) (by_ : FF.Bd m2 y) (hl : l1 + l2 ≤ n + 2) (h8 : l1 ≤ 8) : (FF.pMul x y).length ≤ n + 1 ∧ FF.Bd (m1 + m2 + 3) (FF.pMul x y) := by
  have := FF.pMul_len x y
  exact ⟨by omega, FF.Bd.pMul bx by_ (by omega)⟩
theorem two_ok {x y : List Int} {m1 m2 : Nat} (bx : FF.Bd m1 x) (by_ : FF.Bd m2 y) (h : m1 + m2 ≤ 240) : ∀ a ∈ x, ∀ b ∈ y, IntMulOk a b := fun a ha b hb => mul_ok (bx.mem ha) (by_.mem hb) (by omega)
theorem ok_sum (hb : base.NoSeer) (ht : P.given.tree = none) (T : Frs K mg) (d : Df K mg "sum_of" sSum ["f", "g"]) {k : Nat} : Ok P w base d (k + 44) spSum := by
  have GF : Ok P w base T.fraction (k + 43) (spFraction K) := ok_fraction hb ht T
  have GA : Ok P w base T.add (k + 41 + 2) (spAdd K) := ok_add T.add T.trimmed T.coef T.len T.max T.range
  have GM : Ok P w base T.multiply (k + 42 + 1) (spMultiply K) := ok_multiply T.multiply T.len T.enum
  refine d.F.ok scSum (fun vs H Q E h => ?_) (fun cdv A outer s H vs Q E hr h => ?_)
  · obtain ⟨f, g, _, _, _, _, _, _, _, _, _, _, rfl, _⟩ := h
    rfl
  · obtain ⟨f, g, P1, Q1, P2, Q2, l1, m1, l2, m2, n, c, rfl, t, _, hl, h8, hn, hm, hc, q⟩ := h
    obtain ⟨a1, b1, f1, f2, f3⟩ := t.f
    obtain ⟨a2, b2, g1, g2, g3⟩ := t.g
    refine ⟨_, pss_one (ps_ret (pe_call GF hr (by rfl) T.fraction.g T.fraction.F.kp T.fraction.b .nil pass0
      (pa_cons (pe_call GA hr (by rfl) T.add.g T.add.F.kp T.add.b .nil pass0
        (pa_cons (pe_call GM hr (by rfl) T.multiply.g T.multiply.F.kp T.multiply.b .nil pass0 (pa_cons (pe_ix ix_tup (pv 0) pe_int (fun _ _ => rfl)) (pa_cons (pe_ix ix_tup (pv 1) pe_int (fun _ _ => rfl)) pa_nil)))
        (pa_cons (pe_call GM hr (by rfl) T.multiply.g T.multiply.F.kp T.multiply.b .nil pass0 (pa_cons (pe_ix ix_tup (pv 1) pe_int (fun _ _ => rfl)) (pa_cons (pe_ix ix_tup (pv 0) pe_int (fun _ _ => rfl)) pa_nil))) pa_nil)))
      (pa_cons (pe_call GM hr (by rfl) T.multiply.g T.multiply.F.kp T.multiply.b .nil pass0 (pa_cons (pe_ix ix_tup (pv 0) pe_int (fun _ _ => rfl)) (pa_cons (pe_ix ix_tup (pv 1) pe_int (fun _ _ => rfl)) pa_nil))) pa_nil)))), ?_⟩
    have x1 := two_mul t.lp1 t.lq2 t.bp1 t.bq2 hl h8
    have x2 : (FF.pMul P2 Q1).length ≤ n + 1 ∧ FF.Bd (m1 + m2 + 3) (FF.pMul P2 Q1) := by
      have e : FF.pMul P2 Q1 = FF.pMul Q1 P2 := (FF.pMul_trm t.cg.tp t.cf.tq).ext (FF.pMul_trm t.cf.tq t.cg.tp) (by rw [FF.S_pMul, FF.S_pMul, FF.Ser.mul_comm])
      rw [e]
      exact two_mul t.lq1 t.lp2 t.bq1 t.bp2 hl h8
    have x3 := two_mul t.lq1 t.lq2 t.bq1 t.bq2 hl h8
    have lp1 := t.lp1
    have lq1 := t.lq1
    have lp2 := t.lp2
    have lq2 := t.lq2
    refine ⟨.ref f, rfl, f, _, 0, _, rfl, rfl, .inl (.inl f1), at_0, .ref g, rfl, g, _, 1, _, rfl, rfl, .inl (.inl g1), at_1, a1, b2, P1, Q2, rfl, seq_of f2, seq_of g3, by omega, by omega, two_ok t.bp1 t.bq2 (by omega), fun H1 p s1 hp h1 => ?_⟩
    refine ⟨.ref g, rfl, g, _, 0, _, rfl, rfl, .inl (.inl (s1 _ _ g1)), at_0, .ref f, rfl, f, _, 1, _, rfl, rfl, .inl (.inl (s1 _ _ f1)), at_1, a2, b1, P2, Q1, rfl, seq_of (s1 _ _ g2), seq_of (s1 _ _ f3), by omega, by omega, two_ok t.bp2 t.bq1 (by omega), fun H2 r s2 hr2 h2 => ?_⟩
    refine ⟨p, r, _, _, rfl, seq_of (s2 _ _ h1), seq_of h2, by omega, by omega, fun H3 u s3 hu h3 => ?_⟩
    have s13 := (s1.trans s2).trans s3
    refine ⟨.ref f, rfl, f, _, 1, _, rfl, rfl, .inl (.inl (s13 _ _ f1)), at_1, .ref g, rfl, g, _, 1, _, rfl, rfl, .inl (.inl (s13 _ _ g1)), at_1, b1, b2, Q1, Q2, rfl, seq_of (s13 _ _ f3), seq_of (s13 _ _ g3), by omega, by omega, two_ok t.bq1 t.bq2 (by omega), fun H4 v s4 hv h4 => ?_⟩
    have s14 := s13.trans s4
    have la := FF.pAdd_len (FF.pMul P1 Q2) (FF.pMul P2 Q1)
    refine ⟨u, v, _, _, n, m1 + m2 + 4, c, rfl, seq_of (s4 _ _ h3), seq_of h4, FF.pAdd_trm _ _, FF.pMul_trm t.cf.tq t.cg.tq, FF.pMul_ne t.cf.nq t.cg.nq, hn, hm, by omega, x3.1, (FF.Bd.pAdd x1.2 x2.2).mono (by omega), x3.2.mono (by omega), hc, fun H5 z A B s5 fz rep w1 w2 w3 w4 => ?_⟩
    refine q H5 z A B (s14.trans s5) (fz.back s14) ?_ w1 w2 w3 w4
    rw [FF.S_pAdd, FF.S_pMul, FF.S_pMul, FF.S_pMul] at rep
    exact rep
theorem ok_diff (hb : base.NoSeer) (ht : P.given.tree = none) (T : Frs K mg) (d : Df K mg "difference_of" sDiff ["f", "g"]) {k : Nat} : Ok P w base d (k + 44) spDiff := by
  have GF : Ok P w base T.fraction (k + 43) (spFraction K) := ok_fraction hb ht T
  have GA : Ok P w base T.subtract (k + 40 + 3) (spSubtract K) := ok_subtract T.subtract T.add T.scale T.trimmed T.coef T.len T.max T.range
  have GM : Ok P w base T.multiply (k + 42 + 1) (spMultiply K) := ok_multiply T.multiply T.len T.enum
  refine d.F.ok scDiff (fun vs H Q E h => ?_) (fun cdv A outer s H vs Q E hr h => ?_)
  · obtain ⟨f, g, _, _, _, _, _, _, _, _, _, _, rfl, _⟩ := h
    rfl
  · obtain ⟨f, g, P1, Q1, P2, Q2, l1, m1, l2, m2, n, c, rfl, t, _, hl, h8, hn, hm, hc, q⟩ := h
    obtain ⟨a1, b1, f1, f2, f3⟩ := t.f
    obtain ⟨a2, b2, g1, g2, g3⟩ := t.g
    refine ⟨_, pss_one (ps_ret (pe_call GF hr (by rfl) T.fraction.g T.fraction.F.kp T.fraction.b .nil pass0
      (pa_cons (pe_call GA hr (by rfl) T.subtract.g T.subtract.F.kp T.subtract.b .nil pass0
        (pa_cons (pe_call GM hr (by rfl) T.multiply.g T.multiply.F.kp T.multiply.b .nil pass0 (pa_cons (pe_ix ix_tup (pv 0) pe_int (fun _ _ => rfl)) (pa_cons (pe_ix ix_tup (pv 1) pe_int (fun _ _ => rfl)) pa_nil)))
        (pa_cons (pe_call GM hr (by rfl) T.multiply.g T.multiply.F.kp T.multiply.b .nil pass0 (pa_cons (pe_ix ix_tup (pv 1) pe_int (fun _ _ => rfl)) (pa_cons (pe_ix ix_tup (pv 0) pe_int (fun _ _ => rfl)) pa_nil))) pa_nil)))
      (pa_cons (pe_call GM hr (by rfl) T.multiply.g T.multiply.F.kp T.multiply.b .nil pass0 (pa_cons (pe_ix ix_tup (pv 0) pe_int (fun _ _ => rfl)) (pa_cons (pe_ix ix_tup (pv 1) pe_int (fun _ _ => rfl)) pa_nil))) pa_nil)))), ?_⟩
    have x1 := two_mul t.lp1 t.lq2 t.bp1 t.bq2 hl h8
    have x2 : (FF.pMul P2 Q1).length ≤ n + 1 ∧ FF.Bd (m1 + m2 + 3) (FF.pMul P2 Q1) := by
      have e : FF.pMul P2 Q1 = FF.pMul Q1 P2 := (FF.pMul_trm t.cg.tp t.cf.tq).ext (FF.pMul_trm t.cf.tq t.cg.tp) (by rw [FF.S_pMul, FF.S_pMul, FF.Ser.mul_comm])
      rw [e]
      exact two_mul t.lq1 t.lp2 t.bq1 t.bp2 hl h8
    have x3 := two_mul t.lq1 t.lq2 t.bq1 t.bq2 hl h8
    have lp1 := t.lp1
    have lq1 := t.lq1
    have lp2 := t.lp2
    have lq2 := t.lq2
    refine ⟨.ref f, rfl, f, _, 0, _, rfl, rfl, .inl (.inl f1), at_0, .ref g, rfl, g, _, 1, _, rfl, rfl, .inl (.inl g1), at_1, a1, b2, P1, Q2, rfl, seq_of f2, seq_of g3, by omega, by omega, two_ok t.bp1 t.bq2 (by omega), fun H1 p s1 hp h1 => ?_⟩
    refine ⟨.ref g, rfl, g, _, 0, _, rfl, rfl, .inl (.inl (s1 _ _ g1)), at_0, .ref f, rfl, f, _, 1, _, rfl, rfl, .inl (.inl (s1 _ _ f1)), at_1, a2, b1, P2, Q1, rfl, seq_of (s1 _ _ g2), seq_of (s1 _ _ f3), by omega, by omega, two_ok t.bp2 t.bq1 (by omega), fun H2 r s2 hr2 h2 => ?_⟩
    refine ⟨p, r, _, _, rfl, seq_of (s2 _ _ h1), seq_of h2, by omega, by omega, fun y _ => mul_neg1 y, fun H3 u s3 hu h3 => ?_⟩
    have s13 := (s1.trans s2).trans s3
    refine ⟨.ref f, rfl, f, _, 1, _, rfl, rfl, .inl (.inl (s13 _ _ f1)), at_1, .ref g, rfl, g, _, 1, _, rfl, rfl, .inl (.inl (s13 _ _ g1)), at_1, b1, b2, Q1, Q2, rfl, seq_of (s13 _ _ f3), seq_of (s13 _ _ g3), by omega, by omega, two_ok t.bq1 t.bq2 (by omega), fun H4 v s4 hv h4 => ?_⟩
    have s14 := s13.trans s4
    have la := FF.pSub_len (FF.pMul P1 Q2) (FF.pMul P2 Q1)
    refine ⟨u, v, _, _, n, m1 + m2 + 4, c, rfl, seq_of (s4 _ _ h3), seq_of h4, FF.pSub_trm _ _, FF.pMul_trm t.cf.tq t.cg.tq, FF.pMul_ne t.cf.nq t.cg.nq, hn, hm, by omega, x3.1, (FF.Bd.pSub x1.2 x2.2).mono (by omega), x3.2.mono (by omega), hc, fun H5 z A B s5 fz rep w1 w2 w3 w4 => ?_⟩
    refine q H5 z A B (s14.trans s5) (fz.back s14) ?_ w1 w2 w3 w4
    rw [FF.S_pSub, FF.S_pMul, FF.S_pMul, FF.S_pMul] at rep
    exact rep
theorem ok_prod (hb : base.NoSeer) (ht : P.given.tree = none) (T : Frs K mg) (d : Df K mg "product_of" sProd ["f", "g"]) {k : Nat} : Ok P w base d (k + 44) spProd := by
  have GF : Ok P w base T.fraction (k + 43) (spFraction K) := ok_fraction hb ht T
  have GM : Ok P w base T.multiply (k + 42 + 1) (spMultiply K) := ok_multiply T.multiply T.len T.enum
  refine d.F.ok scProd (fun vs H Q E h => ?_) (fun cdv A outer s H vs Q E hr h => ?_)
  · obtain ⟨f, g, _, _, _, _, _, _, _, _, _, _, rfl, _⟩ := h
    rfl
  · obtain ⟨f, g, P1, Q1, P2, Q2, l1, m1, l2, m2, n, c, rfl, t, _, hl, h8, hn, hm, hc, q⟩ := h
    obtain ⟨a1, b1, f1, f2, f3⟩ := t.f
    obtain ⟨a2, b2, g1, g2, g3⟩ := t.g
    refine ⟨_, pss_one (ps_ret (pe_call GF hr (by rfl) T.fraction.g T.fraction.F.kp T.fraction.b .nil pass0
      (pa_cons (pe_call GM hr (by rfl) T.multiply.g T.multiply.F.kp T.multiply.b .nil pass0 (pa_cons (pe_ix ix_tup (pv 0) pe_int (fun _ _ => rfl)) (pa_cons (pe_ix ix_tup (pv 1) pe_int (fun _ _ => rfl)) pa_nil)))
      (pa_cons (pe_call GM hr (by rfl) T.multiply.g T.multiply.F.kp T.multiply.b .nil pass0 (pa_cons (pe_ix ix_tup (pv 0) pe_int (fun _ _ => rfl)) (pa_cons (pe_ix ix_tup (pv 1) pe_int (fun _ _ => rfl)) pa_nil))) pa_nil)))), ?_⟩
    have x1 := two_mul t.lp1 t.lp2 t.bp1 t.bp2 hl h8
    have x3 := two_mul t.lq1 t.lq2 t.bq1 t.bq2 hl h8
    have lp1 := t.lp1
    have lq1 := t.lq1
    have lp2 := t.lp2
    have lq2 := t.lq2
    refine ⟨.ref f, rfl, f, _, 0, _, rfl, rfl, .inl (.inl f1), at_0, .ref g, rfl, g, _, 0, _, rfl, rfl, .inl (.inl g1), at_0, a1, a2, P1, P2, rfl, seq_of f2, seq_of g2, by omega, by omega, two_ok t.bp1 t.bp2 (by omega), fun H1 p s1 hp h1 => ?_⟩
    refine ⟨.ref f, rfl, f, _, 1, _, rfl, rfl, .inl (.inl (s1 _ _ f1)), at_1, .ref g, rfl, g, _, 1, _, rfl, rfl, .inl (.inl (s1 _ _ g1)), at_1, b1, b2, Q1, Q2, rfl, seq_of (s1 _ _ f3), seq_of (s1 _ _ g3), by omega, by omega, two_ok t.bq1 t.bq2 (by omega), fun H4 v s4 hv h4 => ?_⟩
    refine ⟨p, v, _, _, n, m1 + m2 + 4, c, rfl, seq_of (s4 _ _ h1), seq_of h4, FF.pMul_trm t.cf.tp t.cg.tp, FF.pMul_trm t.cf.tq t.cg.tq, FF.pMul_ne t.cf.nq t.cg.nq, hn, hm, x1.1, x3.1, x1.2.mono (by omega), x3.2.mono (by omega), hc, fun H5 z A B s5 fz rep w1 w2 w3 w4 => ?_⟩
    refine q H5 z A B ((s1.trans s4).trans s5) (fz.back (s1.trans s4)) ?_ w1 w2 w3 w4
    rw [FF.S_pMul, FF.S_pMul] at rep
    exact rep
theorem ok_quot (hb : base.NoSeer) (ht : P.given.tree = none) (T : Frs K mg) (d : Df K mg "quotient_of" sQuot ["f", "g"]) {k : Nat} : Ok P w base d (k + 44) spQuot := by
  have GF : Ok P w base T.fraction (k + 43) (spFraction K) := ok_fraction hb ht T
  have GM : Ok P w base T.multiply (k + 42 + 1) (spMultiply K) := ok_multiply T.multiply T.len T.enum
  refine d.F.ok scQuot (fun vs H Q E h => ?_) (fun cdv A outer s H vs Q E hr h => ?_)
  · obtain ⟨f, g, _, _, _, _, _, _, _, _, _, _, rfl, _⟩ := h
    rfl
  · obtain ⟨f, g, P1, Q1, P2, Q2, l1, m1, l2, m2, n, c, rfl, t, n2, hl, h8, hn, hm, hc, q⟩ := h
    obtain ⟨a1, b1, f1, f2, f3⟩ := t.f
    obtain ⟨a2, b2, g1, g2, g3⟩ := t.g
    refine ⟨_, pss_one (ps_ret (pe_call GF hr (by rfl) T.fraction.g T.fraction.F.kp T.fraction.b .nil pass0
      (pa_cons (pe_call GM hr (by rfl) T.multiply.g T.multiply.F.kp T.multiply.b .nil pass0 (pa_cons (pe_ix ix_tup (pv 0) pe_int (fun _ _ => rfl)) (pa_cons (pe_ix ix_tup (pv 1) pe_int (fun _ _ => rfl)) pa_nil)))
      (pa_cons (pe_call GM hr (by rfl) T.multiply.g T.multiply.F.kp T.multiply.b .nil pass0 (pa_cons (pe_ix ix_tup (pv 0) pe_int (fun _ _ => rfl)) (pa_cons (pe_ix ix_tup (pv 1) pe_int (fun _ _ => rfl)) pa_nil))) pa_nil)))), ?_⟩
    have x1 := two_mul t.lp1 t.lq2 t.bp1 t.bq2 hl h8
    have x3 := two_mul t.lq1 t.lp2 t.bq1 t.bp2 hl h8
    have lp1 := t.lp1
    have lq1 := t.lq1
    have lp2 := t.lp2
    have lq2 := t.lq2
    refine ⟨.ref f, rfl, f, _, 0, _, rfl, rfl, .inl (.inl f1), at_0, .ref g, rfl, g, _, 1, _, rfl, rfl, .inl (.inl g1), at_1, a1, b2, P1, Q2, rfl, seq_of f2, seq_of g3, by omega, by omega, two_ok t.bp1 t.bq2 (by omega), fun H1 p s1 hp h1 => ?_⟩
    refine ⟨.ref f, rfl, f, _, 1, _, rfl, rfl, .inl (.inl (s1 _ _ f1)), at_1, .ref g, rfl, g, _, 0, _, rfl, rfl, .inl (.inl (s1 _ _ g1)), at_0, b1, a2, Q1, P2, rfl, seq_of (s1 _ _ f3), seq_of (s1 _ _ g2), by omega, by omega, two_ok t.bq1 t.bp2 (by omega), fun H4 v s4 hv h4 => ?_⟩
    refine ⟨p, v, _, _, n, m1 + m2 + 4, c, rfl, seq_of (s4 _ _ h1), seq_of h4, FF.pMul_trm t.cf.tp t.cg.tq, FF.pMul_trm t.cf.tq t.cg.tp, FF.pMul_ne t.cf.nq n2, hn, hm, x1.1, x3.1, x1.2.mono (by omega), x3.2.mono (by omega), hc, fun H5 z A B s5 fz rep w1 w2 w3 w4 => ?_⟩
    refine q H5 z A B ((s1.trans s4).trans s5) (fz.back (s1.trans s4)) ?_ w1 w2 w3 w4
    rw [FF.S_pMul, FF.S_pMul] at rep
    exact rep
end
end Wt

/-! Wj: the law's draws. -/
namespace Wt
open PySem PySem.Spec PyProof.Rows L2
abbrev sDraw : Stmt := topS 26
abbrev sLTrim : Stmt := topS 34
abbrev sSmall : Stmt := topS 45
theorem scDraw : FnScope ["_law_stream", "_law_many", "_law_cell", "_law_mixed", "_law_other", "_law_value"] ["_law_stream", "_law_many"] (defScope sDraw) := ⟨rfl, rfl, rfl, by decide +kernel, rfl, by decide +kernel, by decide +kernel⟩
theorem scLTrim : FnScope ["_law_row"] ["_law_row"] (defScope sLTrim) := ⟨rfl, rfl, rfl, by decide +kernel, rfl, by decide +kernel, by decide +kernel⟩
theorem scSmall : FnScope ["_law_stream"] ["_law_stream"] (defScope sSmall) := ⟨rfl, rfl, rfl, by decide +kernel, rfl, by decide +kernel, by decide +kernel⟩
/-- all but S stands as it stood -/
def Bt (S : Addr) (H H' : Hp) : Prop := ∀ b o, b ≠ S → H b = some o → H' b = some o
theorem Bt.refl (S : Addr) (H : Hp) : Bt S H H := fun _ _ _ h => h
theorem Bt.trans {S : Addr} {H H1 H2 : Hp} (a : Bt S H H1) (b : Bt S H1 H2) : Bt S H H2 := fun c o n h => b c o n (a c o n h)
theorem Bt.of {S : Addr} {H H' : Hp} (s : Same H H') : Bt S H H' := fun b o _ h => s b o h
theorem Bt.upd {S : Addr} {H H' : Hp} {o : HO} (a : Bt S H H') : Bt S H (upd H' S o) := fun b x n h => by
  rw [upd_ne n]
  exact a b x n h
/-- the stream's own list: the script's numbers, how many are read, what is left of the last one -/
def St3 (H : Hp) (S c : Addr) : Prop := ∃ (i : Nat) (v : Int), H S = some (.lst [.ref c, .int i, .int v])
theorem Bt.seq {K : PySem.W.Frag} {S a : Addr} {H H' : Hp} {xs : List V} (b : Bt S H H') (n : a ≠ S) (h : SqL K H a xs) : SqL K H' a xs := by
  rcases h with (h | ⟨o, h⟩) | h
  · exact .inl (.inl (b _ _ n h))
  · exact .inl (.inr ⟨o, b _ _ n h⟩)
  · exact .inr h
structure Stm (K : PySem.W.Frag) (H : Hp) (S c : Addr) (ns : List Int) : Prop where
  ne : c ≠ S
  seq : SqL K H c (ns.map V.int)
  len : ns.length ≤ 100
  st : St3 H S c
theorem Stm.on {K : PySem.W.Frag} {H H' : Hp} {S c : Addr} {ns : List Int} (t : Stm K H S c ns) (b : Bt S H H') (h : St3 H' S c) : Stm K H' S c ns := ⟨t.ne, b.seq t.ne t.seq, t.len, h⟩
theorem St3.same {H H' : Hp} {S c : Addr} (t : St3 H S c) (s : Same H H') : St3 H' S c := let ⟨i, v, e⟩ := t; ⟨i, v, s _ _ e⟩
theorem St3.upd {H : Hp} {S c D : Addr} {o : HO} (t : St3 H S c) (n : S ≠ D) : St3 (upd H D o) S c := let ⟨i, v, e⟩ := t; ⟨i, v, by rw [upd_ne n]; exact e⟩
theorem St3.some {H : Hp} {S c : Addr} (t : St3 H S c) : ∃ o, H S = some o := let ⟨_, _, e⟩ := t; ⟨_, e⟩
theorem Stm.same {K : PySem.W.Frag} {H H' : Hp} {S c : Addr} {ns : List Int} (t : Stm K H S c ns) (s : Same H H') : Stm K H' S c ns := t.on (Bt.of s) (t.st.same s)
/-- what was free behind is free before -/
theorem Bt.free {S : Addr} {H H' : Hp} (b : Bt S H H') (t : ∃ o, H' S = some o) {p : Addr} (h : H' p = none) : H p = none := by
  obtain ⟨o, ho⟩ := t
  cases e : H p with
  | none => rfl
  | some u =>
    have n : p ≠ S := fun z => by
      rw [z, ho] at h
      cases h
    rw [b p u n e] at h
    cases h
/-- the statements under a test -/
def thenOf (s : Stmt) : List Stmt := match s with
  | .If _ b _ _ => b
  | _ => []
def spDraw (K : PySem.W.Frag) : Sp := fun vs H Q _ => ∃ (S c : Addr) (ns : List Int) (m : Int), vs = [.ref S, .int m] ∧ Stm K H S c ns ∧ 0 < m ∧ m < 1000 ∧ ∀ H' d, Bt S H H' → St3 H' S c → 0 ≤ d → d < m → Q (.int d) H'
def spSmall (K : PySem.W.Frag) : Sp := fun vs H Q _ => ∃ (S c : Addr) (ns : List Int), vs = [.ref S] ∧ Stm K H S c ns ∧ ∀ H' d, Bt S H H' → St3 H' S c → -5 ≤ d → d ≤ 5 → Q (.int d) H'
structure Drw (K : PySem.W.Frag) (mg : Str → Option Value) where
  draw : Df K mg "_law_draw" sDraw ["_law_stream", "_law_many"]
  small : Df K mg "_law_small" sSmall ["_law_stream"]
  ltrim : Df K mg "_law_trim" sLTrim ["_law_row"]
  len : mg "len" = none
  int : mg "int" = none
  list : mg "list" = none
  range : mg "range" = none
theorem get3 {α : Type} {x y z : α} : atI [x, y, z] 0 = some x ∧ atI [x, y, z] 1 = some y ∧ atI [x, y, z] 2 = some z := ⟨atI_nat (j := 0) rfl, atI_nat (j := 1) rfl, atI_nat (j := 2) rfl⟩
section
variable {P : Program} {w : World} {K : PySem.W.Frag} {mg : Str → Option Value} {base : Heap}
theorem ok_draw (T : Drw K mg) {k : Nat} : Ok P w base T.draw (k + 1) (spDraw K) := by
  refine T.draw.F.ok scDraw (fun vs H Q E h => ?_) (fun cdv A outer s H vs Q E hr h => ?_)
  · obtain ⟨S, _, _, m, rfl, _⟩ := h
    rfl
  · obtain ⟨S, c, ns, m, rfl, ⟨nc, hc, lns, i, v, hS⟩, m0, m1, q⟩ := h
    -- the rest of the body, behind the test
    have tail : ∃ t, PSs (cxOf CX0 P w K mg base ["_law_stream", "_law_many", "_law_cell", "_law_mixed", "_law_other", "_law_value"] "_law_draw" (defScope sDraw) T.draw.f cdv A outer s H E).nox ((defBody sDraw).drop 1) t ∧
        ∀ (a b e : Option V) (i : Nat) (v : Int) (H' : Hp), Bt S H H' → H' S = some (.lst [.ref c, .int i, .int v]) → t { nx := fun _ H' => Q .non H', rt := Q } [some (.ref S), some (.int m), a, b, e, none] H' := by
      refine ⟨_, pss_cons (ps_set (i := 5) scDraw.nd rfl (.inl rfl) (pe_op op_modN (pe_callTy call_int1 (by rfl) T.int (by decide +kernel) (pa_cons (pe_ix ix_list (pv 0) pe_int (fun _ _ => rfl)) pa_nil)) (pv 1)))
        (pss_cons (ps_asg (pe_op op_fdivW (pe_callTy call_int1 (by rfl) T.int (by decide +kernel) (pa_cons (pe_ix ix_list (pv 0) pe_int (fun _ _ => rfl)) pa_nil)) (pv 1)) (pg_sub (pv 0) pe_int set_list))
        (pss_one (ps_ret (pv 5)))), fun a b e i v H' hb hH => ?_⟩
      have lS : SqL K H' S [.ref c, .int i, .int v] := .inl (.inl hH)
      refine ⟨.ref S, rfl, S, _, 2, _, rfl, rfl, lS, get3.2.2, .inl ⟨v, rfl, _, rfl, _, _, rfl, rfl, by omega, ?_⟩⟩
      have cd : CDivW v m := wide_div (b := 10) m0 (show m.natAbs < 1024 by omega) (by decide) (by decide)
      refine ⟨.ref S, rfl, S, _, 2, _, rfl, rfl, lS, get3.2.2, .inl ⟨v, rfl, _, rfl, _, _, rfl, rfl, cd, ?_⟩⟩
      refine ⟨.ref S, rfl, S, _, 2, 2, rfl, rfl, hH, rfl, ?_⟩
      have hd0 : 0 ≤ v.fmod m := Int.fmod_nonneg_of_pos v (by omega)
      have hd1 : v.fmod m < m := Int.fmod_lt_of_pos v (by omega)
      exact ⟨_, rfl, q _ _ hb.upd ⟨i, v / m, upd_same⟩ hd0 hd1⟩
    obtain ⟨t, ht, hq⟩ := tail
    have mo : ∀ (x y : Int), Builtin.Int.intBits y ≤ 64 → IntMulOk x y := fun x y h => IntMulOk.of_right h
    -- a number z is taken
    have mid : ∃ t, PSs (cxOf CX0 P w K mg base ["_law_stream", "_law_many", "_law_cell", "_law_mixed", "_law_other", "_law_value"] "_law_draw" (defScope sDraw) T.draw.f cdv A outer s H E).nox ((thenOf ((defBody sDraw).getD 0 (.Pass ⟨0, 0, 0, 0⟩))).drop 2) t ∧
        ∀ (D : Ends) (z : Int), (∀ (a b e : Option V) (i : Nat) (v : Int) (H' : Hp), Bt S H H' → H' S = some (.lst [.ref c, .int i, .int v]) → D.nx [some (.ref S), some (.int m), a, b, e, none] H') → t D [some (.ref S), some (.int m), some (.int z), none, none, none] H := by
      refine ⟨_, pss_cons (ps_asg (pe_op op_add (pe_ix ix_list (pv 0) pe_int (fun _ _ => rfl)) pe_int) (pg_sub (pv 0) pe_int set_list))
        (pss_cons (ps_asg (pv 2) (pg_sub (pv 0) pe_int set_list))
        (pss_one (ps_if (pt_cmpR op_lt (pv 2) (pe_op op_pow pe_int pe_int) (nomark _))
          (pss_cons (ps_set (i := 3) scDraw.nd rfl (.inl rfl) (pe_op op_modN (pe_callTy call_int1 (by rfl) T.int (by decide +kernel) (pa_cons (pe_op op_add (pe_op op_mulX (pv 2) pe_int) (pe_op op_mulX (pe_ix ix_list (pv 0) pe_int (fun _ _ => rfl)) pe_int)) pa_nil)) pe_int))
          (pss_cons (ps_set (i := 4) scDraw.nd rfl (.inl rfl) (pe_op op_modN (pe_callTy call_int1 (by rfl) T.int (by decide +kernel) (pa_cons (pe_op op_add (pe_op op_add (pe_op op_mulX (pv 3) pe_int) (pe_op op_mulX (pv 2) pe_int)) pe_int) pa_nil)) pe_int))
          (pss_one (ps_asg (pe_op op_add (pe_op op_add (pe_op op_mulX (pv 4) pe_int) (pv 3)) (pe_op op_pow pe_int pe_int)) (pg_sub (pv 0) pe_int set_list))))) pss_nil))), fun D z hD => ?_⟩
      have lS : SqL K H S [.ref c, .int i, .int v] := .inl (.inl hS)
      refine ⟨.ref S, rfl, S, _, 1, _, rfl, rfl, lS, get3.2.1, _, _, rfl, rfl, ?_⟩
      refine ⟨.ref S, rfl, S, _, 1, 1, rfl, rfl, hS, rfl, ?_⟩
      have h1 : upd H S (.lst [.ref c, .int ((i : Int) + 1), .int v]) S = some (.lst [.ref c, .int ((i + 1 : Nat) : Int), .int v]) := upd_same
      refine ⟨_, rfl, .ref S, rfl, S, _, 2, 2, rfl, rfl, h1, rfl, ?_⟩
      have b2 : Bt S H (upd (upd H S (.lst [.ref c, .int ((i : Int) + 1), .int v])) S (.lst [.ref c, .int ((i + 1 : Nat) : Int), .int z])) := ((Bt.refl S H).upd).upd
      have h2 : upd (upd H S (.lst [.ref c, .int ((i : Int) + 1), .int v])) S (.lst [.ref c, .int ((i + 1 : Nat) : Int), .int z]) S = some (.lst [.ref c, .int ((i + 1 : Nat) : Int), .int z]) := upd_same
      refine ⟨_, rfl, _, _, rfl, rfl, ⟨by decide, by decide, by decide⟩, _, _, rfl, rfl, _, rfl, ite2 (fun e => ?_) (fun e => ?_)⟩
      · refine ⟨_, rfl, _, _, rfl, rfl, mo _ _ (by decide +kernel), .ref S, rfl, S, _, 1, _, rfl, rfl, .inl (.inl h2), get3.2.1, _, _, rfl, rfl, mo _ _ (by decide +kernel), _, _, rfl, rfl, .inl ⟨_, rfl, _, _, rfl, rfl, by show (2147483647 : Int) ≠ 0; decide, ?_⟩⟩
        refine ⟨_, rfl, _, _, rfl, rfl, mo _ _ (by decide +kernel), _, rfl, _, _, rfl, rfl, mo _ _ (by decide +kernel), _, _, rfl, rfl, _, _, rfl, rfl, .inl ⟨_, rfl, _, _, rfl, rfl, by show (2147483399 : Int) ≠ 0; decide, ?_⟩⟩
        refine ⟨_, rfl, _, _, rfl, rfl, mo _ _ (by decide +kernel), _, rfl, _, _, rfl, rfl, _, _, rfl, rfl, ⟨by decide, by decide, by decide⟩, _, _, rfl, rfl, .ref S, rfl, S, _, 2, 2, rfl, rfl, h2, rfl, ?_⟩
        exact hD _ _ _ (i + 1) _ _ b2.upd upd_same
      · exact hD _ _ _ (i + 1) z _ b2 h2
    obtain ⟨t2, ht2, hq2⟩ := mid
    refine ⟨_, pss_cons (ps_if (pt_cmpR op_lt (pe_ix ix_list (pv 0) pe_int (fun _ _ => rfl)) (pv 1) (nomark _))
        (pss_cons (ps_set (i := 2) scDraw.nd rfl (.inl rfl) pe_int)
        (pss_cons (ps_if (pt_cmpR op_lt (pe_ix ix_list (pv 0) pe_int (fun _ _ => rfl)) (pe_callB call_len_seq (by rfl) T.len PySem.boot_len (pa_cons (pe_ix ix_list (pv 0) pe_int (fun _ _ => rfl)) pa_nil)) (nomark _))
          (pss_one (ps_set (i := 2) scDraw.nd rfl (.inl rfl) (pe_ix ix_list (pe_ix ix_list (pv 0) pe_int (fun _ _ => rfl)) (pe_ix ix_list (pv 0) pe_int (fun _ _ => rfl)) (fun _ _ => rfl)))) pss_nil) ht2)) pss_nil) ht, ?_⟩
    have lS : SqL K H S [.ref c, .int i, .int v] := .inl (.inl hS)
    refine ⟨.ref S, rfl, S, _, 2, _, rfl, rfl, lS, get3.2.2, _, rfl, _, _, rfl, rfl, _, rfl, ite2 (fun e => ?_) (fun e => ?_)⟩
    · refine ⟨.ref S, rfl, S, _, 1, _, rfl, rfl, lS, get3.2.1, .ref S, rfl, S, _, 0, _, rfl, rfl, lS, get3.1, c, _, rfl, .inl hc, _, _, rfl, rfl, _, rfl, ite2 (fun e2 => ?_) (fun e2 => ?_)⟩
      · have hi := of_decide_eq_true e2
        rw [List.length_map] at hi
        refine ⟨.ref S, rfl, S, _, 0, _, rfl, rfl, lS, get3.1, .ref S, rfl, S, _, 1, _, rfl, rfl, lS, get3.2.1, c, _, _, _, rfl, rfl, hc, at_int (j := i) (by omega), ?_⟩
        exact hq2 _ _ fun a b e i v H' hb hH => hq a b e i v H' hb hH
      · exact hq2 _ _ fun a b e i v H' hb hH => hq a b e i v H' hb hH
    · exact hq none none none i v H (Bt.refl S H) hS
theorem ok_small (T : Drw K mg) {k : Nat} : Ok P w base T.small (k + 2) (spSmall K) := by
  have GD : Ok P w base T.draw (k + 1) (spDraw K) := ok_draw T
  refine T.small.F.ok scSmall (fun vs H Q E h => ?_) (fun cdv A outer s H vs Q E hr h => ?_)
  · obtain ⟨S, _, _, rfl, _⟩ := h
    rfl
  · obtain ⟨S, c, ns, rfl, hS, q⟩ := h
    refine ⟨_, pss_one (ps_ret (pe_op op_sub (pe_call GD hr (by rfl) T.draw.g T.draw.F.kp T.draw.b .nil pass0 (pa_cons (pv 0) (pa_cons pe_int pa_nil))) pe_int)), ?_⟩
    refine ⟨.ref S, rfl, S, c, ns, 11, rfl, hS, by decide, by decide, fun H' d b t h0 h1 => ⟨_, _, rfl, rfl, q _ _ b t (by omega) (by omega)⟩⟩
end
end Wt

/-! Wk: data of ints, _law_trim, _law_poly, _law_not_nought. -/
namespace Wt
open PySem PySem.Spec PyProof.Rows L2
/-! ### data -/
def dI (xs : List Int) : List PyData := xs.map PyData.int
theorem dp_ints {K : PySem.W.Frag} {H : Hp} : ∀ xs : List Int, DpAll K H (xs.map V.int) (dI xs)
  | [] => .nil
  | x :: xs => .cons (.int x) (dp_ints xs)
theorem eqv_ints : ∀ xs ys : List Int, PyData.eqvAll (dI xs) (dI ys) = decide (xs = ys)
  | [], [] => rfl
  | [], y :: ys => rfl
  | x :: xs, [] => rfl
  | x :: xs, y :: ys => by
    show (PyData.eqv (.int x) (.int y) && PyData.eqvAll (dI xs) (dI ys)) = _
    rw [eqv_ints xs ys]
    have e : PyData.eqv (.int x) (.int y) = (x == y) := by rw [PyData.eqv]
    rw [e]
    by_cases h : x = y
    · subst h
      by_cases h2 : xs = ys
      · subst h2
        simp
      · rw [decide_eq_false h2, Bool.and_false, decide_eq_false]
        intro z
        exact h2 (List.cons.inj z).2
    · have hf : (x == y) = false := by simpa using h
      rw [hf, Bool.false_and, decide_eq_false]
      intro z
      exact h (List.cons.inj z).1
theorem lay_ints : ∀ xs : List Int, PyData.canLayAll0 (dI xs) = true
  | [] => rfl
  | x :: xs => by
    show (PyData.canLay0 (.int x) && PyData.canLayAll0 (dI xs)) = true
    rw [lay_ints xs]
    rfl
theorem depth_ints : ∀ xs : List Int, PyData.depthAll (dI xs) = 0
  | [] => rfl
  | x :: xs => by
    show max (PyData.depth (.int x)) (PyData.depthAll (dI xs)) = 0
    rw [depth_ints xs]
    rfl
theorem shaped_list (xs : List Int) : SeqAt.shaped (.list (dI xs)) = true := by
  have h1 : PyData.canLay0 (.list (dI xs)) = true := lay_ints xs
  have h2 : PyData.depth (.list (dI xs)) = 1 := by
    show PyData.depthAll (dI xs) + 1 = 1
    rw [depth_ints]
  unfold SeqAt.shaped
  rw [h1, h2]
  rfl
theorem eqv_list (xs ys : List Int) : PyData.eqv (.list (dI xs)) (.list (dI ys)) = decide (xs = ys) := by
  rw [PyData.eqv]
  exact eqv_ints xs ys
theorem dp_list {K : PySem.W.Frag} {H : Hp} {a : Addr} {xs : List Int} (h : SqL K H a (xs.map V.int)) : Dp K H (.ref a) (.list (dI xs)) := .lst h (dp_ints xs)
/-! ### the law's defs -/
abbrev sLPoly : Stmt := topS 46
abbrev sNotN : Stmt := topS 47
theorem scLPoly : FnScope ["_law_stream", "_law_most", "_law_row", "_law_k"] ["_law_stream", "_law_most"] (defScope sLPoly) := ⟨rfl, rfl, rfl, by decide +kernel, rfl, by decide +kernel, by decide +kernel⟩
theorem scNotN : FnScope ["_law_stream", "_law_most", "_law_row"] ["_law_stream", "_law_most"] (defScope sNotN) := ⟨rfl, rfl, rfl, by decide +kernel, rfl, by decide +kernel, by decide +kernel⟩
def spLPoly (K : PySem.W.Frag) : Sp := fun vs H Q _ => ∃ (S c : Addr) (ns : List Int) (m : Nat), vs = [.ref S, .int m] ∧ Stm K H S c ns ∧ m ≤ 5 ∧ ∀ H' p xs, Bt S H H' → St3 H' S c → H p = none → H' p = some (L xs) → FF.Trm xs → xs.length ≤ m + 1 → FF.Bd 23 xs → Q (.ref p) H'
def spNotN (K : PySem.W.Frag) : Sp := fun vs H Q _ => ∃ (S c : Addr) (ns : List Int) (m : Nat), vs = [.ref S, .int m] ∧ Stm K H S c ns ∧ m ≤ 5 ∧ ∀ H' p xs, Bt S H H' → St3 H' S c → H p = none → H' p = some (L xs) → FF.Trm xs → xs ≠ [] → xs.length ≤ m + 1 → FF.Bd 23 xs → Q (.ref p) H'
structure Drw2 (K : PySem.W.Frag) (mg : Str → Option Value) extends Drw K mg where
  lpoly : Df K mg "_law_poly" sLPoly ["_law_stream", "_law_most"]
  notn : Df K mg "_law_not_nought" sNotN ["_law_stream", "_law_most"]
theorem dropLast_map (ns : List Int) (m : Nat) (h : m + 1 ≤ ns.length) : ((ns.take (m + 1)).map V.int).dropLast = (ns.take m).map V.int := by
  rw [List.dropLast_eq_take, List.length_map, List.length_take, List.map_take, List.take_take, List.map_take]
  congr 1
  omega
section
variable {P : Program} {w : World} {K : PySem.W.Frag} {mg : Str → Option Value} {base : Heap}
theorem ok_ltrim (d : Df K mg "_law_trim" sLTrim ["_law_row"]) (ml : mg "len" = none) (mL : mg "list" = none) {k : Nat} : Ok P w base d (k + 1) (spTrimmed K) := by
  refine d.F.ok scLTrim (fun vs H Q E h => ?_) (fun cdv A outer s H vs Q E hr h => ?_)
  · obtain ⟨a, b, rfl, _⟩ := h
    rfl
  · obtain ⟨a, ns, rfl, hS, hl, q⟩ := h
    refine ⟨_, pss_cons (ps_set (i := 0) scLTrim.nd rfl (.inl rfl) (pe_callTy call_list_of (by rfl) mL (by decide +kernel) (pa_cons (pv 0) pa_nil)))
      (pss_cons (ps_while PassesOwn.never (PW.pt (pw_and (pt_cmpR op_gt (pe_callB call_len_seq (by rfl) ml PySem.boot_len (pa_cons (pv 0) pa_nil)) pe_int (nomark _)) (pw_and1 (pt_cmpR op_eq (pe_ix ix_list (pv 0) (pe_op op_sub (pe_callB call_len_seq (by rfl) ml PySem.boot_len (pa_cons (pv 0) pa_nil)) pe_int) (fun _ _ => rfl)) pe_int (nomark _)))))
        (pss_one (ps_expr (pe_bm0 PySem.F.plainAttrs_list PySem.F.slot_list_pop PySem.F.type_list_pop mt_pop (pv 0)))))
      (pss_one (ps_ret (pv 0)))), ?_⟩
    refine ⟨.ref a, rfl, a, _, rfl, .inl hS, fun R hR => ?_⟩
    refine ⟨fun m σ H' => Same H H' ∧ σ = [some (.ref R)] ∧ H' R = some (L (ns.take m)) ∧ m ≤ ns.length ∧ ∀ n, m ≤ n → ns.getD n 0 = 0, ⟨ns.length, same_upd hR, rfl, ?_, Nat.le_refl _, fun n h => FF.getD_out h⟩, ?_⟩
    · rw [upd_same, List.take_length]
      rfl
    rintro m σ H' ⟨s1, rfl, hR1, hm, hz⟩
    have fin : (∀ n, m = n + 1 → ns.getD n 0 ≠ 0) → Q (.ref R) H' := fun hn => by
      rw [← FF.trim_take hm hz hn] at hR1
      exact q H' R s1 hR hR1
    have elen : (((ns.take m).map V.int).length : Int) = ((m : Nat) : Int) := by
      rw [List.length_map, List.length_take, Nat.min_eq_left hm]
    refine ⟨.ref R, rfl, R, _, rfl, .inl (seq_of hR1), _, _, rfl, rfl, _, rfl, ?_⟩
    rw [elen]
    by_cases h0 : m = 0
    · subst h0
      rw [decide_eq_false (by decide)]
      refine iteF ?_
      exact iteF ⟨_, rfl, fin (fun n h => by omega)⟩
    · rw [decide_eq_true (show ((m : Nat) : Int) > 0 by omega)]
      refine iteT ?_
      have hg : atI ((ns.take m).map V.int) (((((ns.take m).map V.int).length : Nat) : Int) - 1) = some (.int (ns.getD (m - 1) 0)) := by
        have h1 := at_int' (ns := ns.take m) (j := m - 1) (z := ((((ns.take m).map V.int).length : Nat) : Int) - 1) (by rw [elen]; omega) (by rw [List.length_take]; omega)
        rw [FF.getD_take, if_pos (by omega)] at h1
        exact h1
      refine ⟨.ref R, rfl, .ref R, rfl, R, _, rfl, .inl (seq_of hR1), _, _, rfl, rfl, R, _, _, .int (ns.getD (m - 1) 0), rfl, rfl, seq_of hR1, hg, rfl, _, rfl, ?_⟩
      by_cases hx : ns.getD (m - 1) 0 = 0
      · rw [hx, decide_eq_true rfl]
        refine iteT ?_
        refine ⟨fun σ' H'' => Same H H'' ∧ σ' = [some (.ref R)] ∧ H'' R = some (L (ns.take (m - 1))), fun σ' H'' ⟨e0, e1, e2⟩ => ⟨m - 1, by omega, e0, e1, e2, by omega, fun n h => ?_⟩, ?_⟩
        · rcases Nat.lt_or_ge n m with z | z
          · rw [show n = m - 1 by omega]
            exact hx
          · exact hz n z
        · have hy : ((ns.take m).map V.int)[((ns.take m).map V.int).length - 1]? = some (.int (ns.getD (m - 1) 0)) := by
            have h1 := get_int (ns := ns.take m) (j := m - 1) (by rw [List.length_take]; omega)
            rw [FF.getD_take, if_pos (by omega)] at h1
            rw [List.length_map, List.length_take, Nat.min_eq_left hm]
            exact h1
          refine ⟨.ref R, rfl, .inl ⟨rfl, _, SqL.of hR1⟩, R, _, _, rfl, rfl, hR1, hy, same_set s1 hR, rfl, ?_⟩
          rw [upd_same]
          obtain ⟨j, rfl⟩ : ∃ j, m = j + 1 := ⟨m - 1, by omega⟩
          rw [dropLast_map ns j hm]
          rfl
      · rw [decide_eq_false (fun z : V.int (ns.getD (m - 1) 0) = V.int 0 => hx (V.int.inj z))]
        exact iteF ⟨_, rfl, fin (fun n h => by rw [show n = m - 1 by omega]; exact hx)⟩
theorem small_bd {l : List Int} (h : ∀ x ∈ l, x.natAbs ≤ 5) : FF.Bd 23 l := FF.Bd.of fun x hx => Nat.lt_of_le_of_lt (h x hx) (by decide)
theorem ok_lpoly (T : Drw2 K mg) {k : Nat} : Ok P w base T.lpoly (k + 3) (spLPoly K) := by
  have GD : Ok P w base T.draw (k + 1 + 1) (spDraw K) := ok_draw T.toDrw
  have GS : Ok P w base T.small (k + 2) (spSmall K) := ok_small T.toDrw
  have GT : Ok P w base T.ltrim (k + 1 + 1) (spTrimmed K) := ok_ltrim T.ltrim T.len T.list
  refine T.lpoly.F.ok scLPoly (fun vs H Q E h => ?_) (fun cdv A outer s H vs Q E hr h => ?_)
  · obtain ⟨S, _, _, m, rfl, _⟩ := h
    rfl
  · obtain ⟨S, c, ns, m, rfl, hS, hm, q⟩ := h
    refine ⟨_, pss_cons (ps_setLc (i := 2) (own := [("_law_k", 3)]) (g := gName 3) (tt := tYes) rfl scLPoly.nd rfl rfl (sw_true rfl rfl rfl (by decide +kernel))
          (pi_range1 rfl T.range (pa_cons (pe_op op_add pe_int (pe_call GD hr (by rfl) T.draw.g T.draw.F.kp T.draw.b .nil pass0 (pa_cons (pv 0) (pa_cons (pe_op op_add (pv 1) pe_int) pa_nil)))) pa_nil))
          (blkOk_by (N := ["_law_stream", "_law_most", "_law_row", "_law_k"]) (sc := defScope sLPoly) (by decide +kernel)) (fun _ _ _ _ _ => pg_name (i := 3) scLPoly.nd rfl (.inl rfl)) (fun _ _ _ _ _ => pts_nil)
          (fun _ _ _ _ _ => pe_call GS hr (by rfl) T.small.g T.small.F.kp T.small.b .nil pass0 (pa_cons (pv 0) pa_nil)))
      (pss_cons (ps_if (pt_cmpR op_eq (pe_call GD hr (by rfl) T.draw.g T.draw.F.kp T.draw.b .nil pass0 (pa_cons (pv 0) (pa_cons pe_int pa_nil))) pe_int (nomark _))
        (pss_one (ps_asg (pe_op op_mulX (pe_ix ix_list (pv 2) pe_int (fun _ _ => rfl)) pe_int) (pg_sub (pv 2) pe_int set_list))) pss_nil)
      (pss_one (ps_ret (pe_call GT hr (by rfl) T.ltrim.g T.ltrim.F.kp T.ltrim.b .nil pass0 (pa_cons (pv 2) pa_nil))))), ?_⟩
    refine ⟨.ref S, rfl, _, rfl, _, _, rfl, rfl, S, c, ns, (m : Int) + 1, rfl, hS, by omega, by omega, fun H1 d b1 t1 d0 d1 => ?_⟩
    obtain ⟨e, rfl⟩ := Int.eq_ofNat_of_zero_le d0
    refine ⟨_, _, rfl, rfl, ((1 + e : Nat) : Int), congrArg (fun z => [V.int z]) (show (1 : Int) + ((e : Nat) : Int) = ((1 + e : Nat) : Int) by omega), by omega, by omega, fun D hD => ?_⟩
    have nSD : S ≠ D := fun z => by
      obtain ⟨o, ho⟩ := t1.some
      rw [z, hD] at ho
      cases ho
    have hD0 : H D = none := b1.free t1.some hD
    have bD : ∀ {H2 : Hp} {o : HO}, Bt S H H2 → Bt S H (upd H2 D o) := fun {H2 o} b x z n h => by
      rw [upd_ne (ne_of_none h hD0)]
      exact b x z n h
    have hc1 := hS.on b1 t1
    refine lc_range (n := 1 + e) (fun i H' => Bt S H H' ∧ St3 H' S c ∧ ∃ l : List Int, l.length = i ∧ (∀ x ∈ l, x.natAbs ≤ 5) ∧ H' D = some (L l)) ⟨bD b1, t1.upd nSD, [], rfl, fun _ h => (nomatch h), upd_same⟩ (fun i H' hi ⟨b2, t2, l, hl, hx, hD2⟩ => ?_) (fun H' ⟨b2, t2, l, hl, hx, hD2⟩ => ?_)
    · refine ⟨rfl, .ref S, rfl, S, c, ns, rfl, hS.on b2 t2, fun H3 d b3 t3 d0 d1 => ?_⟩
      have hD3 : H3 D = some (L l) := b3 D _ nSD.symm hD2
      refine ⟨_, hD3, ?_, bD (b2.trans b3), t3.upd nSD, l ++ [d], by rw [List.length_append, hl]; rfl, fun x hx' => ?_, ?_⟩
      · rw [List.length_map, hl]
        exact small1000 (by omega)
      · rcases List.mem_append.mp hx' with h | h
        · exact hx x h
        · rw [List.mem_singleton.mp h]
          omega
      · rw [upd_same]
        show some (HO.lst _) = some (HO.lst _)
        rw [List.map_append]
        rfl
    · -- if _law_draw(_law_stream, 10) == 0
      refine ⟨.ref S, rfl, S, c, ns, 10, rfl, hS.on b2 t2, by decide, by decide, fun H3 d b3 t3 d0 d1 => ?_⟩
      have hD3 : H3 D = some (L l) := b3 D _ nSD.symm hD2
      have b23 := b2.trans b3
      refine ⟨rfl, _, rfl, ite2 (fun _ => ?_) (fun _ => ?_)⟩
      · have h0 : 0 < l.length := by omega
        refine ⟨.ref D, rfl, D, _, 0, .int (l.getD 0 0), rfl, rfl, seq_of hD3, at_int (j := 0) h0, _, _, rfl, rfl, IntMulOk.of_right (by decide +kernel), ?_⟩
        refine ⟨.ref D, rfl, D, _, 0, 0, rfl, rfl, hD3, ?_, ?_⟩
        · unfold ixN
          rw [if_pos (by decide), if_pos (by rw [List.length_map]; omega)]
          rfl
        have hD4 : upd H3 D (.lst ((l.map V.int).set 0 (.int (l.getD 0 0 * 1000003)))) D = some (L (l.set 0 (l.getD 0 0 * 1000003))) := by
          rw [upd_same]
          show some (HO.lst _) = some (HO.lst _)
          rw [List.map_set]
        refine ⟨.ref D, rfl, D, _, rfl, seq_of hD4, by rw [List.length_set]; omega, fun H5 p s5 hp h5 => ?_⟩
        have b5 : Bt S H H5 := (bD b23).trans (Bt.of s5)
        have t5 : St3 H5 S c := (t3.upd nSD).same s5
        have hlen := FF.trim_len (l.set 0 (l.getD 0 0 * 1000003))
        rw [List.length_set] at hlen
        refine q H5 p _ b5 t5 ((bD b23).free (t3.upd nSD).some hp) h5 (FF.trim_trm _) (by omega) (FF.Bd.ser (a := l.set 0 (l.getD 0 0 * 1000003)) (fun j => ?_) (FF.S_trim _))
        rw [FF.getD_set _ _ _ _ h0]
        split
        · have h5 := hx _ (getD_mem h0)
          rw [Int.natAbs_mul]
          exact Nat.lt_of_le_of_lt (Nat.mul_le_mul_right _ h5) (by decide)
        · exact small_bd hx j
      · refine ⟨.ref D, rfl, D, l, rfl, seq_of hD3, by omega, fun H5 p s5 hp h5 => ?_⟩
        have b5 : Bt S H H5 := b23.trans (Bt.of s5)
        have t5 : St3 H5 S c := t3.same s5
        have hlen := FF.trim_len l
        exact q H5 p _ b5 t5 (b23.free t3.some hp) h5 (FF.trim_trm _) (by omega) ((small_bd hx).ser (FF.S_trim l))
theorem ok_notn (T : Drw2 K mg) {k : Nat} : Ok P w base T.notn (k + 4) (spNotN K) := by
  have GD : Ok P w base T.draw (k + 2 + 1) (spDraw K) := ok_draw T.toDrw
  have GP : Ok P w base T.lpoly (k + 3) (spLPoly K) := ok_lpoly T
  refine T.notn.F.ok scNotN (fun vs H Q E h => ?_) (fun cdv A outer s H vs Q E hr h => ?_)
  · obtain ⟨S, _, _, m, rfl, _⟩ := h
    rfl
  · obtain ⟨S, c, ns, m, rfl, hS, hm, q⟩ := h
    refine ⟨_, pss_cons (ps_set (i := 2) scNotN.nd rfl (.inl rfl) (pe_call GP hr (by rfl) T.lpoly.g T.lpoly.F.kp T.lpoly.b .nil pass0 (pa_cons (pv 0) (pa_cons (pv 1) pa_nil))))
      (pss_cons (ps_if (pt_cmpR (op_eqD hr.units) (pv 2) (pe_lst pa_nil) (nomark _))
        (pss_one (ps_ret (pe_lst (pa_cons (pe_op op_add pe_int (pe_call GD hr (by rfl) T.draw.g T.draw.F.kp T.draw.b .nil pass0 (pa_cons (pv 0) (pa_cons pe_int pa_nil)))) pa_nil)))) pss_nil)
      (pss_one (ps_ret (pv 2)))), ?_⟩
    refine ⟨.ref S, rfl, _, rfl, S, c, ns, m, rfl, hS, hm, fun H1 p xs b1 t1 hp h1 tx lx bx => ?_⟩
    refine ⟨_, rfl, Nat.zero_le _, fun e he => ?_⟩
    have s2 := same_upd (o := .lst []) he
    have h2 : upd H1 e (.lst []) e = some (L []) := upd_same
    refine ⟨_, _, dp_list (seq_of (s2 _ _ h1)), dp_list (seq_of h2), shaped_list _, shaped_list _, _, rfl, ?_⟩
    rw [eqv_list]
    have b2 : Bt S H (upd H1 e (.lst [])) := b1.trans (Bt.of s2)
    have t2 := t1.same s2
    refine ite2 (fun _ => ?_) (fun hne => ?_)
    · refine ⟨.ref S, rfl, S, c, ns, 5, rfl, hS.on b2 t2, by decide, by decide, fun H3 d b3 t3 d0 d1 => ?_⟩
      refine ⟨_, _, rfl, rfl, by show 1 ≤ sizeLine; decide, fun r hr => ?_⟩
      have s4 := same_upd (o := L [1 + d]) hr
      have b23 := b2.trans b3
      refine q _ r [1 + d] (b23.trans (Bt.of s4)) (t3.same s4) (b23.free t3.some hr) upd_same (FF.Trm.single (by omega)) (by simp) (by simp) (FF.Bd.of fun x hx => ?_)
      rw [List.mem_singleton.mp hx]
      have : (1 + d).natAbs ≤ 5 := by omega
      exact Nat.lt_of_le_of_lt this (by decide)
    · have hx : xs ≠ [] := fun z => hne (decide_eq_true z)
      exact ⟨_, rfl, q _ p xs b2 t2 hp (s2 _ _ h1) tx hx lx bx⟩
end
end Wt

/-! Wl: _law_mul, _law_drawn_fraction. -/
namespace Wt
open PySem PySem.Spec PyProof.Rows L2
abbrev sLMul : Stmt := topS 36
abbrev sDrawn : Stmt := topS 48
theorem scLMul : FnScope ["_law_a", "_law_b", "_law_found", "_law_i", "_law_j", "_law_k"] ["_law_a", "_law_b"] (defScope sLMul) := ⟨rfl, rfl, rfl, by decide +kernel, rfl, by decide +kernel, by decide +kernel⟩
theorem scDrawn : FnScope ["_law_stream", "_law_p", "_law_q", "_law_common"] ["_law_stream"] (defScope sDrawn) := ⟨rfl, rfl, rfl, by decide +kernel, rfl, by decide +kernel, by decide +kernel⟩
def spLMul (K : PySem.W.Frag) : Sp := fun vs H Q _ => ∃ (a b : Addr) (xs ys : List Int), vs = [.ref a, .ref b] ∧ SqL K H a (xs.map V.int) ∧ SqL K H b (ys.map V.int) ∧ xs.length ≤ 100 ∧ ys.length ≤ 100 ∧ FF.Trm xs ∧ FF.Trm ys ∧ (∀ x ∈ xs, ∀ y ∈ ys, IntMulOk x y) ∧ New H Q (L (FF.pMul xs ys))
def spDrawn (K : PySem.W.Frag) : Sp := fun vs H Q _ => ∃ (S c : Addr) (ns : List Int), vs = [.ref S] ∧ Stm K H S c ns ∧ ∀ H' r a b p q p0 q0, Bt S H H' → St3 H' S c → H' r = some (.tup [.ref a, .ref b]) → H' a = some (L p) → H' b = some (L q) → FF.Drawn p q p0 q0 → Q (.ref r) H'
structure Drw3 (K : PySem.W.Frag) (mg : Str → Option Value) extends Drw2 K mg where
  lmul : Df K mg "_law_mul" sLMul ["_law_a", "_law_b"]
  drawn : Df K mg "_law_drawn_fraction" sDrawn ["_law_stream"]
section
variable {P : Program} {w : World} {K : PySem.W.Frag} {mg : Str → Option Value} {base : Heap}
theorem ok_lmul (T : Drw3 K mg) {k : Nat} : Ok P w base T.lmul (k + 2) (spLMul K) := by
  have GT : Ok P w base T.ltrim (k + 1) (spTrimmed K) := ok_ltrim T.ltrim T.len T.list
  refine T.lmul.F.ok scLMul (fun vs H Q E h => ?_) (fun cdv A outer s H vs Q E hr h => ?_)
  · obtain ⟨a, b, c, e, rfl, _⟩ := h
    rfl
  · obtain ⟨a, b, xs, ys, rfl, hA, hB, la, lb, tx, ty, hm, q⟩ := h
    have ml := T.len
    refine ⟨_, pss_cons (ps_setLc (i := 2) (own := [("_law_k", 5)]) (g := gName 5) (tt := tYes) rfl scLMul.nd rfl rfl (sw_true rfl rfl rfl (by decide +kernel))
          (pi_range1 rfl T.range (pa_cons (pe_op op_add (pe_callB call_len_seq (by rfl) ml PySem.boot_len (pa_cons (pv 0) pa_nil)) (pe_callB call_len_seq (by rfl) ml PySem.boot_len (pa_cons (pv 1) pa_nil))) pa_nil))
          (blkOk_by (N := ["_law_a", "_law_b", "_law_found", "_law_i", "_law_j", "_law_k"]) (sc := defScope sLMul) (by decide +kernel)) (fun _ _ _ _ _ => pg_name (i := 5) scLMul.nd rfl (.inl rfl)) (fun _ _ _ _ _ => pts_nil)
          (fun _ _ _ _ _ => pe_int))
      (pss_cons (ps_for PassesOwn.never rfl (pi_range1 rfl T.range (pa_cons (pe_callB call_len_seq (by rfl) ml PySem.boot_len (pa_cons (pv 0) pa_nil)) pa_nil)) (pg_name (i := 3) scLMul.nd rfl (.inl rfl))
        (pss_one (ps_for PassesOwn.never rfl (pi_range1 rfl T.range (pa_cons (pe_callB call_len_seq (by rfl) ml PySem.boot_len (pa_cons (pv 1) pa_nil)) pa_nil)) (pg_name (i := 4) scLMul.nd rfl (.inl rfl))
          (pss_one (ps_asg (pe_op op_add (pe_ix ix_list (pv 2) (pe_op op_add (pv 3) (pv 4)) (fun _ _ => rfl)) (pe_op op_mulX (pe_ix ix_list (pv 0) (pv 3) (fun _ _ => rfl)) (pe_ix ix_list (pv 1) (pv 4) (fun _ _ => rfl))))
            (pg_sub (pv 2) (pe_op op_add (pv 3) (pv 4)) set_list))))))
      (pss_one (ps_ret (pe_call GT hr (by rfl) T.ltrim.g T.ltrim.F.kp T.ltrim.b .nil pass0 (pa_cons (pv 2) pa_nil))))), ?_⟩
    refine ⟨.ref a, rfl, a, _, rfl, .inl hA, .ref b, rfl, b, _, rfl, .inl hB, _, _, rfl, rfl, ?_⟩
    refine ⟨((xs.length + ys.length : Nat) : Int), congrArg (fun z => [V.int z]) (by rw [List.length_map, List.length_map]; omega), by omega, by omega, fun F hF => ?_⟩
    refine lc_range (n := xs.length + ys.length) (fun i H' => Same H H' ∧ H' F = some (L (List.replicate i 0))) ⟨same_upd hF, upd_same⟩ (fun i H' hi ⟨s1, hF1⟩ => ?_) (fun H1 ⟨s1, hF1⟩ => ?_)
    · refine ⟨rfl, _, hF1, ?_, same_set s1 hF, ?_⟩
      · rw [List.length_map, List.length_replicate]
        exact small1000 (by omega)
      · rw [upd_same, List.replicate_succ']
        show some (HO.lst _) = some (HO.lst _)
        rw [List.map_append]
        rfl
    refine ⟨.ref a, rfl, a, _, rfl, .inl (s1.seq hA), ?_⟩
    rw [List.length_map]
    refine ⟨_, rfl, by omega, by omega, ?_⟩
    refine for_range (lo := 0) (n := xs.length) (fun i σ H' => Same H H' ∧ ∃ f v3 v4, σ = [some (.ref a), some (.ref b), some (.ref F), v3, v4, none] ∧ FF.MulN xs ys (xs.length + ys.length) i 0 f ∧ H' F = some (L f))
      ⟨s1, _, none, none, rfl, FF.MulN.start xs ys _, hF1⟩ ?_ ?_
    · rintro i σ H2 hi ⟨s2, f, v3, v4, rfl, inv, hf⟩
      refine ⟨.ref b, rfl, b, _, rfl, .inl (s2.seq hB), ?_⟩
      rw [List.length_map]
      refine ⟨_, rfl, by omega, by omega, ?_⟩
      refine for_range (lo := 0) (n := ys.length) (fun j σ H' => Same H H' ∧ ∃ f v4, σ = [some (.ref a), some (.ref b), some (.ref F), some (.int (0 + (i : Int))), v4, none] ∧ FF.MulN xs ys (xs.length + ys.length) i j f ∧ H' F = some (L f))
        ⟨s2, f, v4, rfl, inv, hf⟩ ?_ ?_
      · rintro j σ H3 hj ⟨s3, g, v4, rfl, inv3, hg⟩
        have eij : (0 + ((i : Nat) : Int)) + (0 + ((j : Nat) : Int)) = ((i + j : Nat) : Int) := by omega
        have lg : i + j < g.length := by rw [inv3.len]; omega
        refine ⟨.ref F, rfl, _, rfl, _, rfl, _, _, rfl, rfl, F, _, _, .int (g.getD (i + j) 0), rfl, rfl, seq_of hg, at_int' eij lg, ?_⟩
        refine ⟨.ref a, rfl, _, rfl, a, _, _, .int (xs.getD i 0), rfl, rfl, s3.seq hA, at_int' (by omega) hi, ?_⟩
        refine ⟨.ref b, rfl, _, rfl, b, _, _, .int (ys.getD j 0), rfl, rfl, s3.seq hB, at_int' (by omega) hj, ?_⟩
        refine ⟨_, _, rfl, rfl, hm _ (getD_mem hi) _ (getD_mem hj), _, _, rfl, rfl, ?_⟩
        refine ⟨.ref F, rfl, _, rfl, _, rfl, _, _, rfl, rfl, F, _, _, i + j, rfl, rfl, hg, ?_, ?_⟩
        · unfold ixN
          rw [eij, if_pos (by omega), if_pos (by rw [List.length_map]; omega), Int.toNat_natCast]
        · refine ⟨same_set s3 hF, _, _, rfl, inv3.step (by omega), ?_⟩
          rw [upd_same]
          show some (HO.lst _) = some (HO.lst _)
          rw [List.map_set]
      · rintro σ H3 ⟨s3, g, v4, rfl, inv3, hg⟩
        exact ⟨s3, g, _, _, rfl, inv3.row, hg⟩
    · rintro σ H2 ⟨s2, f, v3, v4, rfl, inv, hf⟩
      have hd := inv.done tx ty
      rw [← hd] at q
      exact ⟨.ref F, rfl, F, f, rfl, seq_of hf, by rw [inv.len]; omega, q.back s2⟩
theorem ok_drawn (T : Drw3 K mg) {k : Nat} : Ok P w base T.drawn (k + 5) (spDrawn K) := by
  have GD : Ok P w base T.draw (k + 3 + 1) (spDraw K) := ok_draw T.toDrw
  have GP : Ok P w base T.lpoly (k + 1 + 3) (spLPoly K) := ok_lpoly T.toDrw2
  have GN : Ok P w base T.notn (k + 4) (spNotN K) := ok_notn T.toDrw2
  have GM : Ok P w base T.lmul (k + 2 + 2) (spLMul K) := ok_lmul T
  refine T.drawn.F.ok scDrawn (fun vs H Q E h => ?_) (fun cdv A outer s H vs Q E hr h => ?_)
  · obtain ⟨S, _, _, rfl, _⟩ := h
    rfl
  · obtain ⟨S, c, ns, rfl, hS, q⟩ := h
    refine ⟨_, pss_cons (ps_par (i := 1) (j := 2) (by rfl) scDrawn.nd rfl rfl (by decide) rfl rfl (pa_cons (pe_call GP hr (by rfl) T.lpoly.g T.lpoly.F.kp T.lpoly.b .nil pass0 (pa_cons (pv 0) (pa_cons pe_int pa_nil))) (pa_cons (pe_call GN hr (by rfl) T.notn.g T.notn.F.kp T.notn.b .nil pass0 (pa_cons (pv 0) (pa_cons pe_int pa_nil))) pa_nil)) (by rfl))
      (pss_cons (ps_if (pt_cmpR op_eq (pe_call GD hr (by rfl) T.draw.g T.draw.F.kp T.draw.b .nil pass0 (pa_cons (pv 0) (pa_cons pe_int pa_nil))) pe_int (nomark _))
        (pss_cons (ps_set (i := 3) scDrawn.nd rfl (.inl rfl) (pe_call GN hr (by rfl) T.notn.g T.notn.F.kp T.notn.b .nil pass0 (pa_cons (pv 0) (pa_cons pe_int pa_nil))))
        (pss_one (ps_par (i := 1) (j := 2) (by rfl) scDrawn.nd rfl rfl (by decide) rfl rfl (pa_cons (pe_call GM hr (by rfl) T.lmul.g T.lmul.F.kp T.lmul.b .nil pass0 (pa_cons (pv 1) (pa_cons (pv 3) pa_nil))) (pa_cons (pe_call GM hr (by rfl) T.lmul.g T.lmul.F.kp T.lmul.b .nil pass0 (pa_cons (pv 2) (pa_cons (pv 3) pa_nil))) pa_nil)) (by rfl)))) pss_nil)
      (pss_one (ps_ret (pe_tup (pa_cons (pv 1) (pa_cons (pv 2) pa_nil)))))), ?_⟩
    refine ⟨.ref S, rfl, S, c, ns, 2, rfl, hS, by decide, fun H1 p xs b1 t1 hp h1 tx lx bx => ?_⟩
    refine ⟨.ref S, rfl, S, c, ns, 2, rfl, hS.on b1 t1, by decide, fun H2 r ys b2 t2 hr2 h2 ty ny ly by2 => ?_⟩
    have ne : ∀ {H' : Hp} {a : Addr} {zs : List Int}, St3 H' S c → H a = none → (∃ o, H S = some o) → a ≠ S := fun {H' a zs} t h ⟨o, ho⟩ z => by
      rw [z, ho] at h
      cases h
    have npS : p ≠ S := ne (zs := []) t1 hp hS.st.some
    have b12 := b1.trans b2
    have h1' := b2 p _ npS h1
    have nrS : r ≠ S := ne (zs := []) t2 (b1.free t1.some hr2) hS.st.some
    refine ⟨_, _, rfl, ?_⟩
    refine ⟨.ref S, rfl, S, c, ns, 3, rfl, hS.on b12 t2, by decide, by decide, fun H3 d b3 t3 d0 d1 => ?_⟩
    have b13 := b12.trans b3
    have h13 := b3 p _ npS h1'
    have h23 := b3 r _ nrS h2
    refine ⟨rfl, _, rfl, ite2 (fun _ => ?_) (fun _ => ?_)⟩
    · refine ⟨.ref S, rfl, S, c, ns, 1, rfl, hS.on b13 t3, by decide, fun H4 u zs b4 t4 hu4 h4 tz nz lz bz => ?_⟩
      have h14 := b4 p _ npS h13
      have h24 := b4 r _ nrS h23
      have b14 := b13.trans b4
      have ok2 : ∀ {u v : List Int}, FF.Bd 23 u → FF.Bd 23 v → ∀ x ∈ u, ∀ y ∈ v, IntMulOk x y := fun {u v} bu bv x hx y hy => mul_ok (bu.mem hx) (bv.mem hy) (by decide)
      refine ⟨_, rfl, _, rfl, p, u, xs, zs, rfl, seq_of h14, seq_of h4, by omega, by omega, tx, tz, ok2 bx bz, fun H5 e s5 he h5 => ?_⟩
      refine ⟨_, rfl, _, rfl, r, u, ys, zs, rfl, seq_of (s5 _ _ h24), seq_of (s5 _ _ h4), by omega, by omega, ty, tz, ok2 by2 bz, fun H6 g s6 hg h6 => ?_⟩
      refine ⟨_, _, rfl, ?_⟩
      refine ⟨_, rfl, _, rfl, by show 2 ≤ sizeLine; decide, fun z hz => ?_⟩
      have s7 := same_upd (o := .tup [.ref e, .ref g]) hz
      have s57 := s5.trans (s6.trans s7)
      exact q _ z e g _ _ xs ys (b14.trans (Bt.of s57)) (t4.same s57) upd_same (s7 _ _ (s6 _ _ h5)) (s7 _ _ h6) (FF.Drawn.times tx ty ny lx ly bx by2 tz nz lz bz)
    · refine ⟨_, rfl, _, rfl, by show 2 ≤ sizeLine; decide, fun z hz => ?_⟩
      have s7 := same_upd (o := .tup [.ref p, .ref r]) hz
      exact q _ z p r _ _ xs ys (b13.trans (Bt.of s7)) (t3.same s7) upd_same (s7 _ _ h13) (s7 _ _ h23) (FF.Drawn.plain tx ty ny lx ly bx by2)
end
end Wt

/-! Wm: _law_gcd, _law_content, _law_bare, _law_coprime. -/
namespace Wt
open PySem PySem.Spec PyProof.Rows L2
abbrev sLGcd : Stmt := topS 38
abbrev sLCon : Stmt := topS 39
abbrev sBare : Stmt := topS 40
abbrev sCop : Stmt := topS 41
theorem scLGcd : FnScope ["_law_a", "_law_b", "_law_one", "_law_other"] ["_law_a", "_law_b"] (defScope sLGcd) := ⟨rfl, rfl, rfl, by decide +kernel, rfl, by decide +kernel, by decide +kernel⟩
theorem scLCon : FnScope ["_law_row", "_law_found", "_law_one"] ["_law_row"] (defScope sLCon) := ⟨rfl, rfl, rfl, by decide +kernel, rfl, by decide +kernel, by decide +kernel⟩
theorem scBare : FnScope ["_law_row", "_law_common", "_law_one"] ["_law_row"] (defScope sBare) := ⟨rfl, rfl, rfl, by decide +kernel, rfl, by decide +kernel, by decide +kernel⟩
theorem scCop : FnScope ["_law_a", "_law_b", "_law_one", "_law_other", "_law_rest", "_law_factor", "_law_lead", "_law_shift", "_law_k"] ["_law_a", "_law_b"] (defScope sCop) := ⟨rfl, rfl, rfl, by decide +kernel, rfl, by decide +kernel, by decide +kernel⟩
def spLGcd : Sp := fun vs H Q _ => ∃ x y : Int, vs = [.int x, .int y] ∧ Q (.int ((Nat.gcd x.natAbs y.natAbs : Nat) : Int)) H
def spBare (K : PySem.W.Frag) : Sp := fun vs H Q _ => ∃ (a : Addr) (xs : List Int), vs = [.ref a] ∧ SqL K H a (xs.map V.int) ∧ xs.length ≤ 900 ∧ FF.Trm xs ∧ xs ≠ [] ∧ New H Q (L (FF.lBare xs))
def spCop (K : PySem.W.Frag) : Sp := fun vs H Q _ => ∃ (a b : Addr) (xs ys : List Int), vs = [.ref a, .ref b] ∧ H a = some (L xs) ∧ H b = some (L ys) ∧ FF.CopInv xs ys ∧ ∀ H', Same H H' → Q (.bl true) H'
structure Lk (K : PySem.W.Frag) (mg : Str → Option Value) where
  gcd : Df K mg "_law_gcd" sLGcd ["_law_a", "_law_b"]
  con : Df K mg "_law_content" sLCon ["_law_row"]
  bare : Df K mg "_law_bare" sBare ["_law_row"]
  cop : Df K mg "_law_coprime" sCop ["_law_a", "_law_b"]
  ltrim : Df K mg "_law_trim" sLTrim ["_law_row"]
  len : mg "len" = none
  int : mg "int" = none
  list : mg "list" = none
  range : mg "range" = none
  abs : mg "abs" = none
theorem abs_nat (x : Int) : (if x < 0 then -x else x) = ((x.natAbs : Nat) : Int) := by
  split <;> omega
section
variable {P : Program} {w : World} {K : PySem.W.Frag} {mg : Str → Option Value} {base : Heap}
theorem ok_lgcd (T : Lk K mg) {k : Nat} : Ok P w base T.gcd (k + 1) spLGcd := by
  refine T.gcd.F.ok scLGcd (fun vs H Q E h => ?_) (fun cdv A outer s H vs Q E hr h => ?_)
  · obtain ⟨x, y, rfl, _⟩ := h
    rfl
  · obtain ⟨x, y, rfl, q⟩ := h
    refine ⟨_, pss_cons (ps_par (i := 2) (j := 3) (by rfl) scLGcd.nd rfl rfl (by decide) rfl rfl (pa_cons (pe_callB call_abs (by rfl) T.abs boot_abs (pa_cons (pv 0) pa_nil)) (pa_cons (pe_callB call_abs (by rfl) T.abs boot_abs (pa_cons (pv 1) pa_nil)) pa_nil)) (by rfl))
      (pss_cons (ps_while PassesOwn.never (pt_cmpR op_ne (pv 3) pe_int (nomark _))
        (pss_one (ps_par (i := 2) (j := 3) (by rfl) scLGcd.nd rfl rfl (by decide) rfl rfl (pa_cons (pv 3) (pa_cons (pe_op op_modN (pe_callTy call_int1 (by rfl) T.int (by decide +kernel) (pa_cons (pv 2) pa_nil)) (pv 3)) pa_nil)) (by rfl))))
      (pss_one (ps_ret (pv 2)))), ?_⟩
    refine ⟨_, rfl, _, rfl, _, rfl, _, rfl, _, _, rfl, ?_⟩
    refine ⟨fun m σ H' => H' = H ∧ ∃ u : Nat, σ = [some (.int x), some (.int y), some (.int u), some (.int m)] ∧ Nat.gcd u m = Nat.gcd x.natAbs y.natAbs, ⟨y.natAbs, rfl, x.natAbs, ?_, rfl⟩, ?_⟩
    · show [some (V.int x), some (V.int y), some (V.int (if x < 0 then -x else x)), some (V.int (if y < 0 then -y else y))] = _
      rw [abs_nat, abs_nat]
    rintro m σ H' ⟨rfl, u, rfl, hg⟩
    refine ⟨_, rfl, rfl, _, rfl, ?_⟩
    by_cases h0 : m = 0
    · subst h0
      rw [Nat.gcd_zero_right] at hg
      rw [decide_eq_true (show V.int ((0 : Nat) : Int) = V.int 0 from rfl)]
      refine iteF ⟨_, rfl, ?_⟩
      rw [hg]
      exact q
    · rw [decide_eq_false (fun z : V.int ((m : Nat) : Int) = V.int 0 => h0 (by have := V.int.inj z; omega))]
      refine iteT ?_
      refine ⟨fun σ' H'' => H'' = H' ∧ σ' = [some (.int x), some (.int y), some (.int m), some (.int ((u % m : Nat) : Int))], fun σ' H'' ⟨e1, e2⟩ => ⟨u % m, Nat.mod_lt _ (by omega), e1, m, e2, ?_⟩, ?_⟩
      · rw [← hg, Nat.gcd_comm u m, Nat.gcd_rec m u, Nat.gcd_comm]
      · refine ⟨_, rfl, _, rfl, .inl ⟨_, rfl, _, rfl, _, _, rfl, rfl, by omega, _, _, rfl, rfl, ?_⟩⟩
        show [some (V.int x), some (V.int y), some (V.int m), some (V.int (((u : Nat) : Int).fmod ((m : Nat) : Int)))] = _
        rw [Int.fmod_eq_emod_of_nonneg _ (by omega)]
        rfl
theorem ok_lcon (T : Lk K mg) {k : Nat} : Ok P w base T.con (k + 2) (spContent K) := by
  have GG : Ok P w base T.gcd (k + 1) spLGcd := ok_lgcd T
  refine T.con.F.ok scLCon (fun vs H Q E h => ?_) (fun cdv A outer s H vs Q E hr h => ?_)
  · obtain ⟨a, b, rfl, _⟩ := h
    rfl
  · obtain ⟨a, xs, rfl, hA, q⟩ := h
    refine ⟨_, pss_cons (ps_set (i := 1) scLCon.nd rfl (.inl rfl) pe_int)
      (pss_cons (ps_for PassesOwn.never rfl (pi_list (pv 0)) (pg_name (i := 2) scLCon.nd rfl (.inl rfl))
        (pss_one (ps_set (i := 1) scLCon.nd rfl (.inl rfl) (pe_call GG hr (by rfl) T.gcd.g T.gcd.F.kp T.gcd.b .nil pass0 (pa_cons (pv 1) (pa_cons (pv 2) pa_nil))))))
      (pss_one (ps_ret (pv 1)))), ?_⟩
    refine ⟨_, rfl, a, rfl, ⟨_, hA⟩, for_list (K := K) (a := a) (xs := xs.map V.int) (fun i σ H' => H' = H ∧ ∃ v, σ = [some (.ref a), some (.int ((xs.take i).foldl (fun g x => Nat.gcd g x.natAbs) 0 : Nat)), v]) ⟨rfl, none, rfl⟩ (fun i σ H' _ ⟨e, _⟩ => by rw [e]; exact hA) ?_ ?_⟩
    · rintro i x σ H' hx ⟨rfl, v, rfl⟩
      have hi := lt_of_get hx
      rw [get_int hi] at hx
      cases hx
      refine ⟨_, rfl, _, rfl, _, _, rfl, rfl, some (.int (xs.getD i 0)), ?_⟩
      rw [List.take_add_one, List.getElem?_eq_getElem hi, List.foldl_append]
      rw [List.getD_eq_getElem?_getD, List.getElem?_eq_getElem hi]
      rfl
    · rintro σ H' ⟨rfl, v, rfl⟩
      rw [List.length_map, List.take_length]
      exact ⟨_, rfl, q⟩
theorem ok_bare (hb : base.NoSeer) (ht : P.given.tree = none) (T : Lk K mg) {k : Nat} : Ok P w base T.bare (k + 41) (spBare K) := by
  have GC : Ok P w base T.con (k + 38 + 2) (spContent K) := ok_lcon T
  refine T.bare.F.ok scBare (fun vs H Q E h => ?_) (fun cdv A outer s H vs Q E hr h => ?_)
  · obtain ⟨a, b, rfl, _⟩ := h
    rfl
  · obtain ⟨a, xs, rfl, hA, la, tx, nx, q⟩ := h
    have hd : (A.deeper (envOfC "_law_bare" (defScope sBare) s.heap.objs.size T.bare.f cdv)).depth + Builtin.pylongFrames < recursionLimit := by
      have := hr.dp
      have e : Builtin.pylongFrames = 100 := rfl
      omega
    refine ⟨_, pss_cons (ps_set (i := 1) scBare.nd rfl (.inr rfl) (pe_call GC hr (by rfl) T.con.g T.con.F.kp T.con.b .nil pass0 (pa_cons (pv 0) pa_nil)))
      (pss_one (ps_ret (pe_lc (own := [("_law_one", 2)]) (g := gName 2) (tt := tYes) rfl scBare.nd (pi_list (pv 0))
          (blkOk_by (N := ["_law_row", "_law_common", "_law_one"]) (sc := defScope sBare) (by decide +kernel)) (fun _ _ _ _ _ => pg_name (i := 2) scBare.nd rfl (.inl rfl)) (fun _ _ _ _ _ => pts_nil)
          (fun _ _ _ _ _ => pe_op (op_fdivP ⟨hb, ht, ⟨_, _, rfl, rfl, rfl, rfl, rfl⟩, hd⟩) (pv 2) (pv 1))))), ?_⟩
    refine ⟨.ref a, rfl, a, xs, rfl, hA, .ref a, rfl, a, rfl, ⟨_, hA⟩, fun D hD => ?_⟩
    have hp := FF.pCon_pos tx nx
    refine lc_list (K := K) (a := a) (xs := xs.map V.int) (fun i H' => Same H H' ∧ H' D = some (L ((xs.take i).map fun x => x.fdiv (FF.pCon xs)))) ⟨same_upd hD, upd_same⟩ (fun i H' hi ⟨s1, _⟩ => s1.seq hA) (fun i x H' hx ⟨s1, hD1⟩ => ?_) (fun H' ⟨s1, hD1⟩ => ?_)
    · have hi := lt_of_get hx
      rw [get_int hi] at hx
      cases hx
      refine ⟨rfl, _, rfl, _, rfl, _, _, rfl, rfl, by omega, _, hD1, ?_, same_set s1 hD, ?_⟩
      · rw [List.length_map, List.length_map, List.length_take]
        exact small1000 (by omega)
      · rw [upd_same, List.take_add_one, List.getElem?_eq_getElem hi, List.map_append]
        show some (HO.lst (_ ++ [V.int ((xs.getD i 0).fdiv (FF.pCon xs))])) = some (HO.lst ((_ ++ [xs[i].fdiv (FF.pCon xs)]).map V.int))
        rw [List.map_append, List.getD_eq_getElem?_getD, List.getElem?_eq_getElem hi]
        rfl
    · rw [List.length_map, List.take_length] at hD1
      exact q H' D s1 hD hD1
end
end Wt

/-! Wn: _law_coprime. -/
namespace Wt
open PySem PySem.Spec PyProof.Rows L2
section
variable {P : Program} {w : World} {K : PySem.W.Frag} {mg : Str → Option Value} {base : Heap}
set_option maxHeartbeats 1000000 in
theorem ok_cop (hb : base.NoSeer) (ht : P.given.tree = none) (T : Lk K mg) {k : Nat} : Ok P w base T.cop (k + 42) (spCop K) := by
  have GB : Ok P w base T.bare (k + 41) (spBare K) := ok_bare hb ht T
  have GT : Ok P w base T.ltrim (k + 40 + 1) (spTrimmed K) := ok_ltrim T.ltrim T.len T.list
  refine T.cop.F.ok scCop (fun vs H Q E h => ?_) (fun cdv A outer s H vs Q E hr h => ?_)
  · obtain ⟨a, b, _, _, rfl, _⟩ := h
    rfl
  · obtain ⟨a, b, xs, ys, rfl, hA, hB, ci, q⟩ := h
    have ml := T.len
    refine ⟨_, pss_cons (ps_par (i := 2) (j := 3) (by rfl) scCop.nd rfl rfl (by decide) rfl rfl (pa_cons (pv 0) (pa_cons (pv 1) pa_nil)) (by rfl))
      (pss_cons (ps_while PassesOwn.never (pt_cmpR op_gt (pe_callB call_len_seq (by rfl) ml PySem.boot_len (pa_cons (pv 3) pa_nil)) pe_int (nomark _))
        (pss_cons (ps_set (i := 4) scCop.nd rfl (.inr rfl) (pe_callTy call_list_of (by rfl) T.list (by decide +kernel) (pa_cons (pv 2) pa_nil)))
        (pss_cons (ps_while PassesOwn.never (pt_cmpR op_ge (pe_callB call_len_seq (by rfl) ml PySem.boot_len (pa_cons (pv 4) pa_nil)) (pe_callB call_len_seq (by rfl) ml PySem.boot_len (pa_cons (pv 3) pa_nil)) (nomark _))
          (pss_cons (ps_set (i := 5) scCop.nd rfl (.inr rfl) (pe_ix ix_list (pv 4) (pe_op op_sub (pe_callB call_len_seq (by rfl) ml PySem.boot_len (pa_cons (pv 4) pa_nil)) pe_int) (fun _ _ => rfl)))
          (pss_cons (ps_set (i := 6) scCop.nd rfl (.inr rfl) (pe_ix ix_list (pv 3) (pe_op op_sub (pe_callB call_len_seq (by rfl) ml PySem.boot_len (pa_cons (pv 3) pa_nil)) pe_int) (fun _ _ => rfl)))
          (pss_cons (ps_set (i := 7) scCop.nd rfl (.inr rfl) (pe_op op_cat
              (pe_lc (own := [("_law_k", 8)]) (g := gName 8) (tt := tYes) rfl scCop.nd (pi_range1 rfl T.range (pa_cons (pe_op op_sub (pe_callB call_len_seq (by rfl) ml PySem.boot_len (pa_cons (pv 4) pa_nil)) (pe_callB call_len_seq (by rfl) ml PySem.boot_len (pa_cons (pv 3) pa_nil))) pa_nil))
                (blkOk_by (N := ["_law_a", "_law_b", "_law_one", "_law_other", "_law_rest", "_law_factor", "_law_lead", "_law_shift", "_law_k"]) (sc := defScope sCop) (by decide +kernel)) (fun _ _ _ _ _ => pg_name (i := 8) scCop.nd rfl (.inl rfl)) (fun _ _ _ _ _ => pts_nil) (fun _ _ _ _ _ => pe_int))
              (pv 3)))
          (pss_one (ps_set (i := 4) scCop.nd rfl (.inr rfl) (pe_call GT hr (by rfl) T.ltrim.g T.ltrim.F.kp T.ltrim.b .nil pass0 (pa_cons
              (pe_lc (own := [("_law_k", 8)]) (g := gName 8) (tt := tYes) rfl scCop.nd (pi_range1 rfl T.range (pa_cons (pe_callB call_len_seq (by rfl) ml PySem.boot_len (pa_cons (pv 4) pa_nil)) pa_nil))
                (blkOk_by (N := ["_law_a", "_law_b", "_law_one", "_law_other", "_law_rest", "_law_factor", "_law_lead", "_law_shift", "_law_k"]) (sc := defScope sCop) (by decide +kernel)) (fun _ _ _ _ _ => pg_name (i := 8) scCop.nd rfl (.inl rfl)) (fun _ _ _ _ _ => pts_nil)
                (fun _ _ _ _ _ => pe_op op_sub (pe_op op_mulX (pe_ix (show IxR _ (rIxL K) from ix_list) (pv 4) (pv 8) (fun _ _ => rfl)) (pv 6)) (pe_op op_mulX (pe_ix (show IxR _ (rIxL K) from ix_list) (pv 7) (pv 8) (fun _ _ => rfl)) (pv 5)))) pa_nil))))))))
        (pss_cons (ps_set (i := 2) scCop.nd rfl (.inl rfl) (pv 3))
        (pss_cons (ps_set (i := 3) scCop.nd rfl (.inl rfl) (pv 4))
        (pss_one (ps_if (pt_cmpR op_gt (pe_callB call_len_seq (by rfl) ml PySem.boot_len (pa_cons (pv 4) pa_nil)) pe_int (nomark _))
          (pss_one (ps_set (i := 3) scCop.nd rfl (.inl rfl) (pe_call GB hr (by rfl) T.bare.g T.bare.F.kp T.bare.b .nil pass0 (pa_cons (pv 4) pa_nil)))) pss_nil)))))))
      (pss_one (ps_ret (pe_cmpR op_le (pe_callB call_len_seq (by rfl) ml PySem.boot_len (pa_cons (pv 2) pa_nil)) pe_int (nomark _))))), ?_⟩
    refine ⟨_, rfl, _, rfl, _, _, rfl, ?_⟩
    refine ⟨fun m σ H' => Same H H' ∧ ∃ p r x y v4 v5 v6 v7, σ = [some (.ref a), some (.ref b), some (.ref p), some (.ref r), v4, v5, v6, v7, none] ∧ H' p = some (L x) ∧ H' r = some (L y) ∧ FF.CopInv x y ∧ y.length = m, ⟨ys.length, Same.refl H, a, b, xs, ys, none, none, none, none, rfl, hA, hB, ci, rfl⟩, ?_⟩
    rintro m σ H1 ⟨s1, p, r, x, y, v4, v5, v6, v7, rfl, hp, hr1, c, hm⟩
    refine ⟨.ref r, rfl, r, _, rfl, .inl (seq_of hr1), _, _, rfl, rfl, _, rfl, ?_⟩
    rw [List.length_map]
    by_cases hy : y = []
    · subst hy
      rw [decide_eq_false (by decide)]
      refine iteF ⟨.ref p, rfl, p, _, rfl, .inl (seq_of hp), _, _, rfl, rfl, ?_⟩
      have h1 := c.done
      show Q (V.bl (decide ((((x.map V.int).length : Nat) : Int) ≤ 1))) H1
      rw [List.length_map, decide_eq_true (show ((x.length : Nat) : Int) ≤ 1 by omega)]
      exact q H1 s1
    have ly := FF.len_pos hy
    rw [decide_eq_true (show ((y.length : Nat) : Int) > 0 by omega)]
    refine iteT ?_
    refine ⟨fun σ' H' => Same H H' ∧ ∃ p r x y v4 v5 v6 v7, σ' = [some (.ref a), some (.ref b), some (.ref p), some (.ref r), v4, v5, v6, v7, none] ∧ H' p = some (L x) ∧ H' r = some (L y) ∧ FF.CopInv x y ∧ y.length < m, fun σ' H' ⟨e0, p, r, x, y, v4, v5, v6, v7, e1, e2, e3, e4, e5⟩ => ⟨_, e5, e0, p, r, x, y, v4, v5, v6, v7, e1, e2, e3, e4, rfl⟩, ?_⟩
    obtain ⟨W, b1, b2, hW⟩ := c.bd
    have lx5 := c.l1
    have ly5 := c.l2
    have hW6 : W + 1 ≤ 1000000 := by
      have : (W + 1) * 1 ≤ (W + 1) * 6 ^ y.length := Nat.mul_le_mul_left _ (Nat.pow_pos (by decide))
      omega
    -- rest = list(one)
    refine ⟨.ref p, rfl, p, _, rfl, .inl (seq_of hp), fun R0 hR0 => ?_⟩
    have s2 := s1.trans (same_upd (o := .lst (x.map V.int)) hR0)
    have sR0 := same_upd (o := .lst (x.map V.int)) hR0
    refine ⟨fun n σ H' => Same H H' ∧ H' r = some (L y) ∧ ∃ R z v5 v6 v7, σ = [some (.ref a), some (.ref b), some (.ref p), some (.ref r), some (.ref R), v5, v6, v7, none] ∧ H' R = some (L z) ∧ FF.CopIn x y W z ∧ z.length = n, ⟨x.length, s2, sR0 _ _ hr1, R0, x, v5, v6, v7, rfl, upd_same, FF.CopIn.start c.t1 b1, rfl⟩, ?_⟩
    rintro n σ H3 ⟨s3, hr3, R, z, v5, v6, v7, rfl, hR, i, hn⟩
    refine ⟨.ref R, rfl, R, _, rfl, .inl (seq_of hR), .ref r, rfl, r, _, rfl, .inl (seq_of hr3), _, _, rfl, rfl, _, rfl, ?_⟩
    rw [List.length_map, List.length_map]
    have lz := i.le
    by_cases hz : y.length ≤ z.length
    · rw [decide_eq_true (show ((z.length : Nat) : Int) ≥ ((y.length : Nat) : Int) by omega)]
      refine iteT ?_
      refine ⟨fun σ' H' => Same H H' ∧ H' r = some (L y) ∧ ∃ R z v5 v6 v7, σ' = [some (.ref a), some (.ref b), some (.ref p), some (.ref r), some (.ref R), v5, v6, v7, none] ∧ H' R = some (L z) ∧ FF.CopIn x y W z ∧ z.length < n, fun σ' H' ⟨e0, e1, R, z, v5, v6, v7, e2, e3, e4, e5⟩ => ⟨_, e5, e0, e1, R, z, v5, v6, v7, e2, e3, e4, rfl⟩, ?_⟩
      have zlen : (((z.map V.int).length : Nat) : Int) = ((z.length : Nat) : Int) := by rw [List.length_map]
      have ylen : (((y.map V.int).length : Nat) : Int) = ((y.length : Nat) : Int) := by rw [List.length_map]
      refine ⟨.ref R, rfl, .ref R, rfl, R, _, rfl, .inl (seq_of hR), _, _, rfl, rfl, R, _, _, .int (FF.lead z), rfl, rfl, seq_of hR, at_int' (j := z.length - 1) (by omega) (by omega), ?_⟩
      refine ⟨.ref r, rfl, .ref r, rfl, r, _, rfl, .inl (seq_of hr3), _, _, rfl, rfl, r, _, _, .int (FF.lead y), rfl, rfl, seq_of hr3, at_int' (j := y.length - 1) (by omega) (by omega), ?_⟩
      -- shift
      refine ⟨.ref R, rfl, R, _, rfl, .inl (seq_of hR), .ref r, rfl, r, _, rfl, .inl (seq_of hr3), _, _, rfl, rfl, ?_⟩
      refine ⟨((z.length - y.length : Nat) : Int), congrArg (fun z => [V.int z]) (by rw [List.length_map, List.length_map]; omega), by omega, by omega, fun D hD => ?_⟩
      refine lc_range (n := z.length - y.length) (fun i H' => Same H3 H' ∧ H' D = some (L (List.replicate i 0))) ⟨same_upd hD, upd_same⟩ (fun i H' hi ⟨s4, hD4⟩ => ?_) (fun H4 ⟨s4, hD4⟩ => ?_)
      · refine ⟨rfl, _, hD4, ?_, same_set s4 hD, ?_⟩
        · rw [List.length_map, List.length_replicate]
          exact small1000 (by omega)
        · rw [upd_same, List.replicate_succ']
          show some (HO.lst _) = some (HO.lst _)
          rw [List.map_append]
          rfl
      have lcat : ((List.replicate (z.length - y.length) (0 : Int)).map V.int).length + (y.map V.int).length ≤ sizeLine := by
        rw [List.length_map, List.length_replicate, List.length_map]
        have := small1000 (n := z.length) (by omega)
        omega
      refine ⟨.ref r, rfl, D, r, _, _, rfl, rfl, hD4, s4 _ _ hr3, lcat, fun G hG => ?_⟩
      have s5 := same_upd (o := .lst ((List.replicate (z.length - y.length) (0 : Int)).map V.int ++ y.map V.int)) hG
      have s35 := s4.trans s5
      have esh : FF.pShift y (z.length - y.length) = List.replicate (z.length - y.length) 0 ++ y := if_neg hy
      have hG5 : upd H4 G (.lst ((List.replicate (z.length - y.length) (0 : Int)).map V.int ++ y.map V.int)) G = some (L (FF.pShift y (z.length - y.length))) := by
        rw [upd_same, esh]
        show some (HO.lst _) = some (HO.lst _)
        rw [List.map_append]
      have lsh : (FF.pShift y (z.length - y.length)).length = z.length := by
        rw [esh, List.length_append, List.length_replicate]
        omega
      have hR5 := s35 _ _ hR
      refine ⟨.ref R, rfl, R, _, rfl, .inl (seq_of hR5), ?_⟩
      refine ⟨((z.length : Nat) : Int), congrArg (fun z => [V.int z]) zlen, by omega, by omega, fun D2 hD2 => ?_⟩
      have bz := i.bd
      have wz : (x.length - z.length) * (W + 1) ≤ 5 * (W + 1) := Nat.mul_le_mul_right _ (by omega)
      refine lc_range (n := z.length) (fun i H' => Same (upd H4 G (.lst ((List.replicate (z.length - y.length) (0 : Int)).map V.int ++ y.map V.int))) H' ∧ H' D2 = some (L ((List.range i).map fun k => z.getD k 0 * FF.lead y - (FF.pShift y (z.length - y.length)).getD k 0 * FF.lead z))) ⟨same_upd hD2, upd_same⟩ (fun i H' hi ⟨s6, hD6⟩ => ?_) (fun H6 ⟨s6, hD6⟩ => ?_)
      · refine ⟨rfl, .ref R, rfl, _, rfl, R, _, _, .int (z.getD i 0), rfl, rfl, seq_of (s6 _ _ hR5), at_int' (by omega) hi, _, rfl, _, _, rfl, rfl, mul_ok (bz i) (b2 (y.length - 1)) (by omega), ?_⟩
        refine ⟨.ref G, rfl, _, rfl, G, _, _, .int ((FF.pShift y (z.length - y.length)).getD i 0), rfl, rfl, seq_of (s6 _ _ hG5), at_int' (by omega) (by rw [lsh]; exact hi), _, rfl, _, _, rfl, rfl, mul_ok ((b2.pShift _) i) (bz (z.length - 1)) (by omega), ?_⟩
        refine ⟨_, _, rfl, rfl, _, hD6, ?_, same_set s6 hD2, ?_⟩
        · rw [List.length_map, List.length_map, List.length_range]
          exact small1000 (by omega)
        · rw [upd_same, List.range_succ, List.map_append]
          show some (HO.lst (_ ++ [_])) = some (HO.lst _)
          rw [List.map_append]
          rfl
      have lrow : (FF.lRow z y).length = z.length := by
        unfold FF.lRow
        rw [List.length_map, List.length_range]
      refine ⟨D2, FF.lRow z y, rfl, seq_of hD6, by omega, fun H7 R7 s7 hR7 h7 => ?_⟩
      have sall := s35.trans (s6.trans s7)
      have hlen := FF.lStep_len hy hz
      exact ⟨s3.trans sall, sall _ _ hr3, R7, FF.lStep z y, _, _, _, rfl, h7, i.step c.t2 hy b2 hz, by omega⟩
    · rw [decide_eq_false (show ¬ ((z.length : Nat) : Int) ≥ ((y.length : Nat) : Int) by omega)]
      refine iteF ?_
      obtain ⟨cn, ln⟩ := c.step hy b1 b2 hW i (by omega)
      refine ⟨_, rfl, _, rfl, .ref R, rfl, R, _, rfl, .inl (seq_of hR), _, _, rfl, rfl, _, rfl, ?_⟩
      rw [List.length_map]
      by_cases hz0 : z = []
      · subst hz0
        rw [decide_eq_false (by decide)]
        refine iteF ?_
        have e : FF.lNext [] = [] := if_pos rfl
        rw [e] at cn ln
        exact ⟨s3, r, R, y, [], _, _, _, _, rfl, hr3, hR, cn, by omega⟩
      · have lz0 := FF.len_pos hz0
        rw [decide_eq_true (show ((z.length : Nat) : Int) > 0 by omega)]
        refine iteT ?_
        have e : FF.lNext z = FF.lBare z := if_neg hz0
        rw [e] at cn ln
        refine ⟨.ref R, rfl, R, z, rfl, seq_of hR, by omega, i.trm, hz0, fun H5 g s5 hg h5 => ?_⟩
        exact ⟨s3.trans s5, r, g, y, _, _, _, _, _, rfl, s5 _ _ hr3, h5, cn, by omega⟩
end
end Wt

/-! Wo: _law_is_list, _law_is_fraction. -/
namespace Wt
open PySem PySem.Spec PyProof.Rows L2
abbrev sIsList : Stmt := topS 42
abbrev sIsFrac : Stmt := topS 43
theorem scIsList : FnScope ["_law_actual", "_law_one"] ["_law_actual"] (defScope sIsList) := ⟨rfl, rfl, rfl, by decide +kernel, rfl, by decide +kernel, by decide +kernel⟩
theorem scIsFrac : FnScope ["_law_actual", "_law_p", "_law_q"] ["_law_actual"] (defScope sIsFrac) := ⟨rfl, rfl, rfl, by decide +kernel, rfl, by decide +kernel, by decide +kernel⟩
def spIsList : Sp := fun vs H Q _ => ∃ (a : Addr) (xs : List Int), vs = [.ref a] ∧ H a = some (L xs) ∧ xs.length ≤ 900 ∧ ∀ H', Same H H' → Q (.bl true) H'
def spIsFrac : Sp := fun vs H Q _ => ∃ (r : Addr) (A B : List Int), vs = [.ref r] ∧ FrAt H r A B ∧ FF.Canon A B ∧ A.length ≤ 5 ∧ B.length ≤ 5 ∧ FF.Bd 90 A ∧ FF.Bd 90 B ∧ ∀ H', Same H H' → Q (.bl true) H'
structure Lk2 (K : PySem.W.Frag) (mg : Str → Option Value) extends Lk K mg where
  islist : Df K mg "_law_is_list" sIsList ["_law_actual"]
  isfrac : Df K mg "_law_is_fraction" sIsFrac ["_law_actual"]
  isi : mg "isinstance" = none
  tup : mg "tuple" = none
  bool : mg "bool" = none
  all : mg "all" = none
theorem all_true (n : Nat) : ((List.replicate n true).all id) = true := by
  induction n with
  | zero => rfl
  | succ n ih => rw [List.replicate_succ, List.all_cons, ih]; rfl
section
variable {P : Program} {w : World} {K : PySem.W.Frag} {mg : Str → Option Value} {base : Heap}
theorem ok_islist (T : Lk2 K mg) {k : Nat} : Ok P w base T.islist (k + 1) spIsList := by
  refine T.islist.F.ok scIsList (fun vs H Q E h => ?_) (fun cdv A outer s H vs Q E hr h => ?_)
  · obtain ⟨a, b, rfl, _⟩ := h
    rfl
  · obtain ⟨a, xs, rfl, hA, la, q⟩ := h
    refine ⟨_, pss_cons (ps_if (pt_not (pt_val (pe_callB call_isi (by rfl) T.isi boot_isinstance (pa_cons (pv 0) (pa_cons (pe_bltn (v := .ty "list") (by rfl) T.list PyProof.Rows.boot_list rfl) pa_nil))))) (pss_one (ps_ret pe_bl)) pss_nil)
      (pss_one (ps_ret (pe_callB (cr_all rfl) (by rfl) T.all boot_all (pa_cons
        (pe_lc (own := [("_law_one", 1)]) (g := gName 1) (tt := tYes) rfl scIsList.nd (pi_list (pv 0))
          (blkOk_by (N := ["_law_actual", "_law_one"]) (sc := defScope sIsList) (by decide +kernel)) (fun _ _ _ _ _ => pg_name (i := 1) scIsList.nd rfl (.inl rfl)) (fun _ _ _ _ _ => pts_nil)
          (fun _ _ _ _ _ => pe_and (pe_callB (r := rIsi K) call_isi (by rfl) T.isi boot_isinstance (pa_cons (pv 1) (pa_cons (pe_bltn (v := .ty "int") (by rfl) T.int PyProof.Rows.boot_int rfl) pa_nil)))
            (pe_one (pe_not (pe_callB (r := rIsi K) call_isi (by rfl) T.isi boot_isinstance (pa_cons (pv 1) (pa_cons (pe_bltn (v := .ty "bool") (by rfl) T.bool (by decide +kernel) rfl) pa_nil))))))) pa_nil)))), ?_⟩
    refine ⟨.ref a, rfl, _, _, .type "list", .type "list", true, rfl, .ty "list", .base (.lst hA), kit_ty (by decide +kernel), _, rfl, ?_⟩
    refine iteF ?_
    refine ⟨.ref a, rfl, a, rfl, ⟨_, seq_of hA⟩, fun D hD => ?_⟩
    refine lc_list (K := K) (a := a) (xs := xs.map V.int) (fun i H' => Same H H' ∧ H' D = some (.lst ((List.replicate i true).map V.bl))) ⟨same_upd hD, upd_same⟩ (fun i H' hi ⟨s1, _⟩ => s1.seq (seq_of hA)) (fun i x H' hx ⟨s1, hD1⟩ => ?_) (fun H' ⟨s1, hD1⟩ => ?_)
    · have hi := lt_of_get hx
      rw [get_int hi] at hx
      cases hx
      refine ⟨rfl, _, rfl, _, _, .type "int", .type "int", true, rfl, .ty "int", .base (.int _), kit_ty (by decide +kernel), true, rfl, ?_⟩
      refine iteT ⟨_, rfl, _, _, .type "int", .type "bool", false, rfl, .ty "bool", .base (.int _), kit_ty (by decide +kernel), false, rfl, _, hD1, ?_, same_set s1 hD, ?_⟩
      · rw [List.length_map, List.length_replicate]
        exact small1000 (by omega)
      · rw [upd_same, List.replicate_succ', List.map_append]
        rfl
    · rw [List.length_map] at hD1
      refine ⟨D, _, rfl, .inl (.inl hD1), ?_⟩
      rw [all_true]
      exact q H' s1
theorem ok_isfrac (hb : base.NoSeer) (ht : P.given.tree = none) (T : Lk2 K mg) {k : Nat} : Ok P w base T.isfrac (k + 43) spIsFrac := by
  have GL : Ok P w base T.islist (k + 41 + 1) spIsList := ok_islist T
  have GT : Ok P w base T.ltrim (k + 41 + 1) (spTrimmed K) := ok_ltrim T.ltrim T.len T.list
  have GC : Ok P w base T.con (k + 40 + 2) (spContent K) := ok_lcon T.toLk
  have GG : Ok P w base T.gcd (k + 41 + 1) spLGcd := ok_lgcd T.toLk
  have GP : Ok P w base T.cop (k + 42) (spCop K) := ok_cop hb ht T.toLk
  refine T.isfrac.F.ok scIsFrac (fun vs H Q E h => ?_) (fun cdv A outer s H vs Q E hr h => ?_)
  · obtain ⟨r, _, _, rfl, _⟩ := h
    rfl
  · obtain ⟨r, P1, Q1, rfl, ⟨a, b, h0, h1, h2⟩, can, l1, l2, b1, b2, q⟩ := h
    have ml := T.len
    refine ⟨_, pss_cons (ps_if (PW.pt (pw_or (pt_not (pt_val (pe_callB call_isi (by rfl) T.isi boot_isinstance (pa_cons (pv 0) (pa_cons (pe_bltn (v := .ty "tuple") (by rfl) T.tup (by decide +kernel) rfl) pa_nil)))))
          (pw_or1 (pt_cmpR op_ne (pe_callB call_len_seq (by rfl) ml PySem.boot_len (pa_cons (pv 0) pa_nil)) pe_int (nomark _))))) (pss_one (ps_ret pe_bl)) pss_nil)
      (pss_cons (ps_asg (pv 0) (pg_tup rfl (pgs_cons (pg_name (i := 1) scIsFrac.nd rfl (.inl rfl)) (pgs_cons (pg_name (i := 2) scIsFrac.nd rfl (.inl rfl)) pgs_nil))))
      (pss_cons (ps_if (PW.pt (pw_or (pt_not (pt_val (pe_call GL hr (by rfl) T.islist.g T.islist.F.kp T.islist.b .nil pass0 (pa_cons (pv 1) pa_nil))))
          (pw_or (pt_not (pt_val (pe_call GL hr (by rfl) T.islist.g T.islist.F.kp T.islist.b .nil pass0 (pa_cons (pv 2) pa_nil))))
          (pw_or (pt_cmpR (op_neD hr.units) (pe_call GT hr (by rfl) T.ltrim.g T.ltrim.F.kp T.ltrim.b .nil pass0 (pa_cons (pv 1) pa_nil)) (pv 1) (nomark _))
          (pw_or (pt_cmpR (op_neD hr.units) (pe_call GT hr (by rfl) T.ltrim.g T.ltrim.F.kp T.ltrim.b .nil pass0 (pa_cons (pv 2) pa_nil)) (pv 2) (nomark _))
          (pw_or1 (pt_cmpR op_eq (pe_callB call_len_seq (by rfl) ml PySem.boot_len (pa_cons (pv 2) pa_nil)) pe_int (nomark _)))))))) (pss_one (ps_ret pe_bl)) pss_nil)
      (pss_cons (ps_if (PW.pt (pw_or (pt_cmpR op_lt (pe_ix ix_list (pv 2) (pe_op op_sub (pe_callB call_len_seq (by rfl) ml PySem.boot_len (pa_cons (pv 2) pa_nil)) pe_int) (fun _ _ => rfl)) pe_int (nomark _))
          (pw_or1 (pt_cmpR op_ne (pe_call GG hr (by rfl) T.gcd.g T.gcd.F.kp T.gcd.b .nil pass0 (pa_cons (pe_call GC hr (by rfl) T.con.g T.con.F.kp T.con.b .nil pass0 (pa_cons (pv 1) pa_nil)) (pa_cons (pe_call GC hr (by rfl) T.con.g T.con.F.kp T.con.b .nil pass0 (pa_cons (pv 2) pa_nil)) pa_nil))) pe_int (nomark _))))) (pss_one (ps_ret pe_bl)) pss_nil)
      (pss_one (ps_ret (pe_call GP hr (by rfl) T.cop.g T.cop.F.kp T.cop.b .nil pass0 (pa_cons (pv 1) (pa_cons (pv 2) pa_nil)))))))), ?_⟩
    have lq := FF.len_pos can.nq
    refine ⟨.ref r, rfl, _, _, .type "tuple", .type "tuple", true, rfl, .ty "tuple", .base (.tup h0), kit_ty (by decide +kernel), _, rfl, ?_⟩
    refine iteF ?_
    refine ⟨.ref r, rfl, r, _, rfl, .inr (.inl (.inl h0)), rfl, _, rfl, ?_⟩
    refine iteF ?_
    refine ⟨_, rfl, r, _, rfl, .inl (.inl h0), rfl, _, _, rfl, _, _, rfl, rfl, ?_⟩
    refine ⟨_, rfl, a, P1, rfl, h1, by omega, fun H1 s1 => ⟨_, rfl, ?_⟩⟩
    refine iteF ?_
    refine ⟨_, rfl, b, Q1, rfl, s1 _ _ h2, by omega, fun H2 s2 => ⟨_, rfl, ?_⟩⟩
    refine iteF ?_
    have s12 := s1.trans s2
    refine ⟨_, rfl, a, P1, rfl, seq_of (s12 _ _ h1), by omega, fun H3 t s3 ht0 ht3 => ?_⟩
    rw [FF.trim_id can.tp] at ht3
    have s13 := s12.trans s3
    refine ⟨_, rfl, _, _, dp_list (seq_of ht3), dp_list (seq_of (s13 _ _ h1)), shaped_list _, shaped_list _, _, rfl, ?_⟩
    rw [eqv_list, decide_eq_true rfl]
    refine iteF ?_
    refine ⟨_, rfl, b, Q1, rfl, seq_of (s13 _ _ h2), by omega, fun H4 u s4 hu0 hu4 => ?_⟩
    rw [FF.trim_id can.tq] at hu4
    have s14 := s13.trans s4
    refine ⟨_, rfl, _, _, dp_list (seq_of hu4), dp_list (seq_of (s14 _ _ h2)), shaped_list _, shaped_list _, _, rfl, ?_⟩
    rw [eqv_list, decide_eq_true rfl]
    refine iteF ?_
    refine ⟨_, rfl, b, _, rfl, .inl (seq_of (s14 _ _ h2)), rfl, _, rfl, ?_⟩
    rw [List.length_map, decide_eq_false (fun z : V.int ((Q1.length : Nat) : Int) = V.int 0 => by have := V.int.inj z; omega)]
    refine iteF ?_
    have qlen : (((Q1.map V.int).length : Nat) : Int) = ((Q1.length : Nat) : Int) := by rw [List.length_map]
    refine ⟨_, rfl, _, rfl, b, _, rfl, .inl (seq_of (s14 _ _ h2)), _, _, rfl, rfl, b, _, _, .int (FF.lead Q1), rfl, rfl, seq_of (s14 _ _ h2), at_int' (j := Q1.length - 1) (by omega) (by omega), _, _, rfl, rfl, _, rfl, ?_⟩
    have hpos := can.pos
    rw [decide_eq_false (show ¬ FF.lead Q1 < 0 by omega)]
    refine iteF ?_
    refine ⟨_, rfl, a, P1, rfl, seq_of (s14 _ _ h1), _, rfl, b, Q1, rfl, seq_of (s14 _ _ h2), _, _, rfl, rfl, _, rfl, ?_⟩
    have hg : Nat.gcd ((FF.pCon P1 : Nat) : Int).natAbs ((FF.pCon Q1 : Nat) : Int).natAbs = 1 := by
      rw [Int.natAbs_natCast, Int.natAbs_natCast]
      exact FF.canon_gcd can
    rw [hg, decide_eq_true (show V.int ((1 : Nat) : Int) = V.int 1 from rfl)]
    refine iteF ?_
    exact ⟨_, rfl, _, rfl, a, b, P1, Q1, rfl, s14 _ _ h1, s14 _ _ h2, FF.CopInv.start can l1 l2 b1 b2, fun H5 s5 => q H5 (s14.trans s5)⟩
end
end Wt

/-! Wp: fractions as data, repr of nested data, the calls by what they stand for. -/
namespace L2
open PySem PySem.Spec PyProof.Rows
def rRepr (K : PySem.W.Frag) : List V → Hp → VK → Prop := fun xs H Q => ∃ a d, xs = [.ref a] ∧ Dp K H (.ref a) d ∧ d.showable = true ∧ d.hasDict = false ∧ d.depth ≤ 60 ∧ d.shown.length ≤ sizeLine ∧ Q (.str d.shown) H
/-- repr(a list or tuple), where no repr is under way -/
theorem call_reprD {X : Cx} (hg : X.A.guards = some []) (hu : X.A.units + 64 < cLine) : CallR X (.builtin "repr") (rRepr X.K) := by
  intro pins s σ H xs us Q I r h
  obtain ⟨a, d, rfl, hd, h1, h2, h3, h4, q⟩ := h
  rw [Vals.ref1 r]
  obtain ⟨as, rd⟩ := Dp.reads I d _ _ hd rfl
  refine repr_of_reads' rd h1 (PyData.noDict_hsm h2) hg (by omega) (fun _ _ e => e) (fun h' u tk hk => ?_) h4
  exact ⟨.str d.shown, H, I.kept hk, ⟨u, rfl⟩, q⟩
end L2
namespace Wt
open PySem PySem.Spec PyProof.Rows L2
def dF (A B : List Int) : PyData := .tuple [.list (dI A), .list (dI B)]
theorem dp_frac {K : PySem.W.Frag} {H : Hp} {r : Addr} {A B : List Int} (f : FrAt H r A B) : Dp K H (.ref r) (dF A B) := by
  obtain ⟨a, b, h1, h2, h3⟩ := f
  exact .tup (.inl (.inl h1)) (.cons (dp_list (seq_of h2)) (.cons (dp_list (seq_of h3)) .nil))
theorem lay_frac (A B : List Int) : PyData.canLay0 (dF A B) = true := by
  show (PyData.canLayAll0 (dI A) && (PyData.canLayAll0 (dI B) && true)) = true
  rw [lay_ints, lay_ints]
  rfl
theorem depth_frac (A B : List Int) : PyData.depth (dF A B) = 2 := by
  show max (PyData.depthAll (dI A) + 1) (max (PyData.depthAll (dI B) + 1) 0) + 1 = 2
  rw [depth_ints, depth_ints]
  rfl
theorem shaped_frac (A B : List Int) : SeqAt.shaped (dF A B) = true := by
  unfold SeqAt.shaped
  rw [lay_frac, depth_frac]
  rfl
theorem eqv_frac (A B A' B' : List Int) : PyData.eqv (dF A B) (dF A' B') = (decide (A = A') && decide (B = B')) := by
  show PyData.eqv (.tuple [.list (dI A), .list (dI B)]) (.tuple [.list (dI A'), .list (dI B')]) = _
  rw [PyData.eqv, PyData.eqvAll, PyData.eqvAll, PyData.eqvAll, eqv_list, eqv_list, Bool.and_true]
/-! ### what is shown of three fractions fits -/
theorem ints_small {A : List Int} (b : FF.Bd 32 A) : ∀ x ∈ A, x.natAbs < 10 ^ 12 := fun x hx => Nat.lt_of_lt_of_le (b.mem hx) (by decide)
theorem log_small {x : Int} (h : x.natAbs < 2 ^ 32) : x.natAbs.log2 < 32 := PySem.Flt.log2_lt_of (by decide) h
theorem showable_ints : ∀ {A : List Int}, (∀ x ∈ A, x.natAbs < 2 ^ 32) → PyData.showableAll (dI A) = true
  | [], _ => rfl
  | x :: A, h => by
    have h1 := log_small (h x List.mem_cons_self)
    show (PyData.showable (.int x) && PyData.showableAll (dI A)) = true
    rw [showable_ints fun y hy => h y (List.mem_cons_of_mem _ hy), Bool.and_true]
    show decide (x.natAbs.log2 < 1920) = true
    exact decide_eq_true (by omega)
theorem weight_ints : ∀ {A : List Int}, (∀ x ∈ A, x.natAbs < 2 ^ 32) → PyData.weightAll (dI A) ≤ 40 * A.length
  | [], _ => by
    show PyData.weightAll [] ≤ _
    rw [PyData.weightAll]
    exact Nat.zero_le _
  | x :: A, h => by
    have h1 := log_small (h x List.mem_cons_self)
    have h2 := weight_ints fun y hy => h y (List.mem_cons_of_mem _ hy)
    show PyData.weightAll (.int x :: dI A) ≤ _
    rw [PyData.weightAll, PyData.weight, List.length_cons]
    split <;> omega
/-- three fractions, as the list that the law shows -/
theorem bd_mem {A : List Int} (b : FF.Bd 32 A) : ∀ x ∈ A, x.natAbs < 2 ^ 32 := fun x hx => b.mem hx
structure Sml (A B : List Int) : Prop where
  la : A.length ≤ 3
  lb : B.length ≤ 3
  ba : FF.Bd 32 A
  bb : FF.Bd 32 B
theorem showable_frac {A B : List Int} (s : Sml A B) : PyData.showable (dF A B) = true := by
  show (PyData.showableAll (dI A) && (PyData.showableAll (dI B) && true)) = true
  rw [showable_ints (bd_mem s.ba), showable_ints (bd_mem s.bb)]
  rfl
theorem weight_frac {A B : List Int} (s : Sml A B) : PyData.weight (dF A B) ≤ 300 := by
  have h1 := weight_ints (bd_mem s.ba)
  have h2 := weight_ints (bd_mem s.bb)
  have la := s.la
  have lb := s.lb
  unfold dF
  rw [PyData.weight, PyData.weightAll, PyData.weight, PyData.weightAll, PyData.weight, PyData.weightAll]
  omega
theorem short_frac {A B : List Int} (s : Sml A B) : PyData.intsShort 13 (dF A B) = true := by
  unfold dF
  rw [PyData.intsShort, PyData.intsShortAll, PyData.intsShort, PyData.intsShortAll, PyData.intsShort, PyData.intsShortAll, Bool.and_true]
  have e1 := PyData.intsShortAll_ints A (ints_small s.ba)
  have e2 := PyData.intsShortAll_ints B (ints_small s.bb)
  show (PyData.intsShortAll 13 (A.map .int) && PyData.intsShortAll 13 (B.map .int)) = true
  rw [e1, e2]
  rfl
theorem three_fit {A1 B1 A2 B2 A3 B3 : List Int} (s1 : Sml A1 B1) (s2 : Sml A2 B2) (s3 : Sml A3 B3) : (PyData.list [dF A1 B1, dF A2 B2, dF A3 B3]).showable = true ∧ (PyData.list [dF A1 B1, dF A2 B2, dF A3 B3]).hasDict = false ∧
    (PyData.list [dF A1 B1, dF A2 B2, dF A3 B3]).depth ≤ 60 ∧ (PyData.list [dF A1 B1, dF A2 B2, dF A3 B3]).shown.length ≤ sizeLine := by
  have hl : PyData.canLay0 (PyData.list [dF A1 B1, dF A2 B2, dF A3 B3]) = true := by
    rw [PyData.canLay0, PyData.canLayAll0, PyData.canLayAll0, PyData.canLayAll0, PyData.canLayAll0, lay_frac, lay_frac, lay_frac]
    rfl
  have hd : PyData.depth (PyData.list [dF A1 B1, dF A2 B2, dF A3 B3]) = 3 := by
    rw [PyData.depth, PyData.depthAll, PyData.depthAll, PyData.depthAll, PyData.depthAll, depth_frac, depth_frac, depth_frac]
    rfl
  have hw : PyData.weight (PyData.list [dF A1 B1, dF A2 B2, dF A3 B3]) ≤ 2 ^ 20 := by
    have w1 := weight_frac s1
    have w2 := weight_frac s2
    have w3 := weight_frac s3
    rw [PyData.weight, PyData.weightAll, PyData.weightAll, PyData.weightAll, PyData.weightAll]
    have e : (2 : Nat) ^ 20 = 1048576 := by decide
    omega
  have hs : PyData.intsShort 13 (PyData.list [dF A1 B1, dF A2 B2, dF A3 B3]) = true := by
    rw [PyData.intsShort, PyData.intsShortAll, PyData.intsShortAll, PyData.intsShortAll, PyData.intsShortAll, short_frac s1, short_frac s2, short_frac s3]
    rfl
  refine ⟨?_, PyData.hasDict_of_canLay _ hl, by rw [hd]; decide, PyData.shown_fits (B := 13) (by decide) (by decide) (PyData.leavesShort_of_canLay0 13 _ hl hs) hw⟩
  rw [PyData.showable, PyData.showableAll, PyData.showableAll, PyData.showableAll, PyData.showableAll, showable_frac s1, showable_frac s2, showable_frac s3]
  rfl
/-! ### fractions by what they stand for -/
structure Fv (H : Hp) (r : Addr) (n d : FF.Ser) (l m : Nat) (A B : List Int) : Prop where
  pl : FrAt H r A B
  rep : FF.Rep A B n d
  la : A.length ≤ l
  lb : B.length ≤ l
  ba : FF.Bd m A
  bb : FF.Bd m B
theorem Fv.same {H H' : Hp} {r : Addr} {n d : FF.Ser} {l m : Nat} {A B : List Int} (f : Fv H r n d l m A B) (s : Same H H') : Fv H' r n d l m A B := ⟨f.pl.same s, f.rep, f.la, f.lb, f.ba, f.bb⟩
theorem Fv.two {H : Hp} {f g : Addr} {n1 d1 n2 d2 : FF.Ser} {l1 m1 l2 m2 : Nat} {A1 B1 A2 B2 : List Int} (F : Fv H f n1 d1 l1 m1 A1 B1) (G : Fv H g n2 d2 l2 m2 A2 B2) : Two H f g A1 B1 A2 B2 l1 m1 l2 m2 :=
  ⟨F.pl, G.pl, F.rep.can, G.rep.can, F.la, F.lb, G.la, G.lb, F.ba, F.bb, G.ba, G.bb⟩
section
variable {H : Hp} {Q : VK} {E : XK} {f g : Addr} {n1 d1 n2 d2 : FF.Ser} {l1 m1 l2 m2 : Nat} {A1 B1 A2 B2 : List Int} (F : Fv H f n1 d1 l1 m1 A1 B1) (G : Fv H g n2 d2 l2 m2 A2 B2) (n c : Nat)
  (hl : l1 + l2 ≤ n + 2) (h8 : l1 ≤ 8) (hn : n ≤ 8) (hm : m1 + m2 + 4 ≤ 240) (hc : FF.fac n (n + 1) * FF.geo n (n + 1) ≤ 2 ^ c)
include F G hl h8 hn hm hc
theorem sum_call (q : ∀ H' r A B, Same H H' → Fv H' r (n1 * d2 + n2 * d1) (d1 * d2) (n + 1) (m1 + m2 + 4 + c) A B → Q (.ref r) H') : spSum [.ref f, .ref g] H Q E :=
  ⟨f, g, A1, B1, A2, B2, l1, m1, l2, m2, n, c, rfl, F.two G, trivial, hl, h8, hn, hm, hc, fun H' r A B s fr rep w1 w2 w3 w4 => q H' r A B s ⟨fr.at, F.rep.add G.rep rep, w1, w2, w3, w4⟩⟩
theorem diff_call (q : ∀ H' r A B, Same H H' → Fv H' r (n1 * d2 - n2 * d1) (d1 * d2) (n + 1) (m1 + m2 + 4 + c) A B → Q (.ref r) H') : spDiff [.ref f, .ref g] H Q E :=
  ⟨f, g, A1, B1, A2, B2, l1, m1, l2, m2, n, c, rfl, F.two G, trivial, hl, h8, hn, hm, hc, fun H' r A B s fr rep w1 w2 w3 w4 => q H' r A B s ⟨fr.at, F.rep.sub G.rep rep, w1, w2, w3, w4⟩⟩
theorem prod_call (q : ∀ H' r A B, Same H H' → Fv H' r (n1 * n2) (d1 * d2) (n + 1) (m1 + m2 + 4 + c) A B → Q (.ref r) H') : spProd [.ref f, .ref g] H Q E :=
  ⟨f, g, A1, B1, A2, B2, l1, m1, l2, m2, n, c, rfl, F.two G, trivial, hl, h8, hn, hm, hc, fun H' r A B s fr rep w1 w2 w3 w4 => q H' r A B s ⟨fr.at, F.rep.mul G.rep rep, w1, w2, w3, w4⟩⟩
theorem quot_call (h2 : A2 ≠ []) (q : ∀ H' r A B, Same H H' → Fv H' r (n1 * d2) (d1 * n2) (n + 1) (m1 + m2 + 4 + c) A B → Q (.ref r) H') : spQuot [.ref f, .ref g] H Q E :=
  ⟨f, g, A1, B1, A2, B2, l1, m1, l2, m2, n, c, rfl, F.two G, h2, hl, h8, hn, hm, hc, fun H' r A B s fr rep w1 w2 w3 w4 => q H' r A B s ⟨fr.at, F.rep.quo G.rep h2 rep, w1, w2, w3, w4⟩⟩
end
/-- two fractions of one value are not unequal -/
theorem ne_no {K : PySem.W.Frag} {H : Hp} {Q : VK} {f g : Addr} {n1 d1 n2 d2 : FF.Ser} {l1 m1 l2 m2 : Nat} {A1 B1 A2 B2 : List Int} (F : Fv H f n1 d1 l1 m1 A1 B1) (G : Fv H g n2 d2 l2 m2 A2 B2) (e : n1 * d2 = n2 * d1) (q : Q (.bl false) H) : rNeD K (.ref f) (.ref g) H Q := by
  obtain ⟨rfl, rfl⟩ := F.rep.uniq G.rep e
  refine ⟨_, _, dp_frac F.pl, dp_frac G.pl, shaped_frac _ _, shaped_frac _ _, ?_⟩
  rw [eqv_frac, decide_eq_true rfl, decide_eq_true rfl]
  exact q
end Wt

/-! Wq: the law's own body. -/
namespace Wt
open PySem PySem.Spec PyProof.Rows L2
abbrev sLaw : Stmt := topS 49
abbrev lawN : List Str := ["_law_script", "_law_stream", "_law_fractions", "_law_turn", "_law_p", "_law_q", "_law_f", "_law_g", "_law_h", "_law_kept", "_law_zero", "_law_one"]
theorem scLaw : FnScope lawN ["_law_script"] (defScope sLaw) := ⟨rfl, rfl, rfl, by decide +kernel, rfl, by decide +kernel, by decide +kernel⟩
def spLaw (K : PySem.W.Frag) : Sp := fun vs H Q _ => ∃ (a : Addr) (ns : List Int), vs = [.ref a] ∧ SqL K H a (ns.map V.int) ∧ ns.length ≤ 63 ∧ ∀ H', Q (.bl true) H'
structure All (K : PySem.W.Frag) (mg : Str → Option Value) extends Frs K mg where
  dr : Drw3 K mg
  lk : Lk2 K mg
  sum : Df K mg "sum_of" sSum ["f", "g"]
  diff : Df K mg "difference_of" sDiff ["f", "g"]
  prod : Df K mg "product_of" sProd ["f", "g"]
  quot : Df K mg "quotient_of" sQuot ["f", "g"]
  law : Df K mg "law" sLaw ["_law_script"]
  repr : mg "repr" = none
/-- a fraction in the list that grows -/
def FrAp (S G : Addr) (H : Hp) (t : Addr × List Int × List Int) : Prop := (∃ a b, H t.1 = some (.tup [.ref a, .ref b]) ∧ H a = some (L t.2.1) ∧ H b = some (L t.2.2) ∧ a ≠ S ∧ b ≠ S ∧ a ≠ G ∧ b ≠ G ∧ t.1 ≠ S ∧ t.1 ≠ G) ∧ FF.Canon t.2.1 t.2.2 ∧ Sml t.2.1 t.2.2
theorem FrAp.same {S G : Addr} {H H' : Hp} {t : Addr × List Int × List Int} (f : FrAp S G H t) (s : Same H H') : FrAp S G H' t := let ⟨⟨a, b, h1, h2, h3, r⟩, c⟩ := f; ⟨⟨a, b, s _ _ h1, s _ _ h2, s _ _ h3, r⟩, c⟩
theorem FrAp.bt {S G : Addr} {H H' : Hp} {t : Addr × List Int × List Int} (f : FrAp S G H t) (s : Bt S H H') : FrAp S G H' t :=
  let ⟨⟨a, b, h1, h2, h3, n1, n2, n3, n4, n5, n6⟩, c⟩ := f; ⟨⟨a, b, s _ _ n5 h1, s _ _ n1 h2, s _ _ n2 h3, n1, n2, n3, n4, n5, n6⟩, c⟩
theorem FrAp.upd {S G : Addr} {H : Hp} {o : HO} {t : Addr × List Int × List Int} (f : FrAp S G H t) : FrAp S G (upd H G o) t := by
  obtain ⟨⟨a, b, h1, h2, h3, n1, n2, n3, n4, n5, n6⟩, c⟩ := f
  refine ⟨⟨a, b, ?_, ?_, ?_, n1, n2, n3, n4, n5, n6⟩, c⟩
  · rw [upd_ne n6]
    exact h1
  · rw [upd_ne n3]
    exact h2
  · rw [upd_ne n4]
    exact h3
theorem FrAp.val {S G : Addr} {H : Hp} {r : Addr} {A B : List Int} (f : FrAp S G H (r, A, B)) : Fv H r (FF.S A) (FF.S B) 3 32 A B :=
  let ⟨⟨a, b, h1, h2, h3, _⟩, c, s⟩ := f; ⟨⟨a, b, h1, h2, h3⟩, FF.Rep.refl c, s.la, s.lb, s.ba, s.bb⟩
theorem len3 {α : Type} {l : List α} (h : l.length = 3) : ∃ a b c, l = [a, b, c] := by
  match l, h with
  | [a, b, c], _ => exact ⟨a, b, c, rfl⟩
theorem bd_one : FF.Bd 32 [1] := FF.Bd.of fun x hx => by
  rw [List.mem_singleton.mp hx]
  decide
theorem zero_val {H : Hp} {r a b : Addr} (h : H r = some (.tup [.ref a, .ref b])) (h1 : H a = some (L [])) (h2 : H b = some (L [1])) : Fv H r 0 1 3 32 [] [1] :=
  ⟨⟨a, b, h, h1, h2⟩, FF.rep_zero (FF.C_ne (c := 1) (by decide)) rfl, by simp, by simp, FF.Bd.nil, bd_one⟩
theorem one_val {H : Hp} {r a b : Addr} (h : H r = some (.tup [.ref a, .ref b])) (h1 : H a = some (L [1])) (h2 : H b = some (L [1])) : Fv H r 1 1 3 32 [1] [1] :=
  ⟨⟨a, b, h, h1, h2⟩, ⟨FF.canon_one, FF.C_ne (c := 1) (by decide), by rw [FF.S_single, FF.C_one]⟩, by simp, by simp, bd_one, bd_one⟩
section
variable {P : Program} {w : World} {K : PySem.W.Frag} {mg : Str → Option Value} {base : Heap}
set_option maxHeartbeats 4000000 in
theorem body_law (hb : base.NoSeer) (ht : P.given.tree = none) (T : All K mg) {k : Nat} (cdv : Value) (A : Around) (outer : List Env) (s : Shared) (H : Hp) (vs : List V) (Q : VK) (E : XK)
    (hg : (A.deeper (envOfC "law" (defScope sLaw) s.heap.objs.size T.law.f cdv)).guards = some []) (hr : Room (k + 44) (A.deeper (envOfC "law" (defScope sLaw) s.heap.objs.size T.law.f cdv))) (h : spLaw K vs H Q E) :
    ∃ t, PSs (cxOf CX0 P w K mg base lawN "law" (defScope sLaw) T.law.f cdv A outer s H E).nox (defBody sLaw) t ∧ t { nx := fun _ H' => Q .non H', rt := Q } (start lawN vs) H := by
  have GD : Ok P w base T.dr.drawn (k + 39 + 5) (spDrawn K) := ok_drawn T.dr
  have GF : Ok P w base T.fraction (k + 1 + 43) (spFraction K) := ok_fraction hb ht T.toFrs
  have GS : Ok P w base T.sum (k + 44) spSum := ok_sum hb ht T.toFrs T.sum
  have GX : Ok P w base T.diff (k + 44) spDiff := ok_diff hb ht T.toFrs T.diff
  have GM : Ok P w base T.prod (k + 44) spProd := ok_prod hb ht T.toFrs T.prod
  have GQ : Ok P w base T.quot (k + 44) spQuot := ok_quot hb ht T.toFrs T.quot
  have GI : Ok P w base T.lk.isfrac (k + 1 + 43) spIsFrac := ok_isfrac hb ht T.lk
  obtain ⟨a, ns, rfl, hA, la, q⟩ := h
  have hu := hr.units
  refine ⟨_, pss_cons (ps_set (i := 1) scLaw.nd rfl (.inl rfl) (pe_lst (pa_cons (pe_callTy call_list_of (by rfl) T.list (by decide +kernel) (pa_cons (pv 0) pa_nil)) (pa_cons pe_int (pa_cons pe_int pa_nil)))))
    (pss_cons (ps_set (i := 2) scLaw.nd rfl (.inl rfl) (pe_lst pa_nil))
    (pss_cons (ps_for PassesOwn.never rfl (pi_range1 rfl T.range (pa_cons pe_int pa_nil)) (pg_name (i := 3) scLaw.nd rfl (.inl rfl))
      (pss_cons (ps_asg (pe_call GD hr (by rfl) T.dr.drawn.g T.dr.drawn.F.kp T.dr.drawn.b .nil pass0 (pa_cons (pv 1) pa_nil)) (pg_tup rfl (pgs_cons (pg_name (i := 4) scLaw.nd rfl (.inl rfl)) (pgs_cons (pg_name (i := 5) scLaw.nd rfl (.inl rfl)) pgs_nil))))
      (pss_one (ps_expr (pe_bm PySem.F.plainAttrs_list PySem.F.slot_list_append PySem.F.type_list_append mt_append (pv 2) (pa_cons (pe_call GF hr (by rfl) T.fraction.g T.fraction.F.kp T.fraction.b .nil pass0 (pa_cons (pv 4) (pa_cons (pv 5) pa_nil))) pa_nil))))))
    (pss_cons (ps_asg (pv 2) (pg_unl rfl (pgs_cons (pg_name (i := 6) scLaw.nd rfl (.inl rfl)) (pgs_cons (pg_name (i := 7) scLaw.nd rfl (.inl rfl)) (pgs_cons (pg_name (i := 8) scLaw.nd rfl (.inl rfl)) pgs_nil)))))
    (pss_cons (ps_set (i := 9) scLaw.nd rfl (.inl rfl) (pe_callB (call_reprD hg hu) (by rfl) T.repr boot_repr (pa_cons (pv 2) pa_nil)))
    (pss_cons (ps_par (i := 10) (j := 11) (by rfl) scLaw.nd rfl rfl (by decide) rfl rfl
      (pa_cons (pe_tup (pa_cons (pe_lst pa_nil) (pa_cons (pe_lst (pa_cons pe_int pa_nil)) pa_nil))) (pa_cons (pe_tup (pa_cons (pe_lst (pa_cons pe_int pa_nil)) (pa_cons (pe_lst (pa_cons pe_int pa_nil)) pa_nil))) pa_nil)) (by rfl))
    -- f + g, f * g
    (pss_cons (ps_if (PW.pt (pw_or (pt_cmpR (op_neD hu) (pe_call GS hr (by rfl) T.sum.g T.sum.F.kp T.sum.b .nil pass0 (pa_cons (pv 6) (pa_cons (pv 7) pa_nil))) (pe_call GS hr (by rfl) T.sum.g T.sum.F.kp T.sum.b .nil pass0 (pa_cons (pv 7) (pa_cons (pv 6) pa_nil))) (nomark _))
        (pw_or1 (pt_cmpR (op_neD hu) (pe_call GM hr (by rfl) T.prod.g T.prod.F.kp T.prod.b .nil pass0 (pa_cons (pv 6) (pa_cons (pv 7) pa_nil))) (pe_call GM hr (by rfl) T.prod.g T.prod.F.kp T.prod.b .nil pass0 (pa_cons (pv 7) (pa_cons (pv 6) pa_nil))) (nomark _))))) (pss_one (ps_ret pe_bl)) pss_nil)
    (pss_cons (ps_if (pt_cmpR (op_neD hu) (pe_call GS hr (by rfl) T.sum.g T.sum.F.kp T.sum.b .nil pass0 (pa_cons (pe_call GS hr (by rfl) T.sum.g T.sum.F.kp T.sum.b .nil pass0 (pa_cons (pv 6) (pa_cons (pv 7) pa_nil))) (pa_cons (pv 8) pa_nil)))
        (pe_call GS hr (by rfl) T.sum.g T.sum.F.kp T.sum.b .nil pass0 (pa_cons (pv 6) (pa_cons (pe_call GS hr (by rfl) T.sum.g T.sum.F.kp T.sum.b .nil pass0 (pa_cons (pv 7) (pa_cons (pv 8) pa_nil))) pa_nil))) (nomark _)) (pss_one (ps_ret pe_bl)) pss_nil)
    (pss_cons (ps_if (pt_cmpR (op_neD hu) (pe_call GM hr (by rfl) T.prod.g T.prod.F.kp T.prod.b .nil pass0 (pa_cons (pe_call GM hr (by rfl) T.prod.g T.prod.F.kp T.prod.b .nil pass0 (pa_cons (pv 6) (pa_cons (pv 7) pa_nil))) (pa_cons (pv 8) pa_nil)))
        (pe_call GM hr (by rfl) T.prod.g T.prod.F.kp T.prod.b .nil pass0 (pa_cons (pv 6) (pa_cons (pe_call GM hr (by rfl) T.prod.g T.prod.F.kp T.prod.b .nil pass0 (pa_cons (pv 7) (pa_cons (pv 8) pa_nil))) pa_nil))) (nomark _)) (pss_one (ps_ret pe_bl)) pss_nil)
    (pss_cons (ps_if (pt_cmpR (op_neD hu) (pe_call GM hr (by rfl) T.prod.g T.prod.F.kp T.prod.b .nil pass0 (pa_cons (pv 6) (pa_cons (pe_call GS hr (by rfl) T.sum.g T.sum.F.kp T.sum.b .nil pass0 (pa_cons (pv 7) (pa_cons (pv 8) pa_nil))) pa_nil)))
        (pe_call GS hr (by rfl) T.sum.g T.sum.F.kp T.sum.b .nil pass0 (pa_cons (pe_call GM hr (by rfl) T.prod.g T.prod.F.kp T.prod.b .nil pass0 (pa_cons (pv 6) (pa_cons (pv 7) pa_nil))) (pa_cons (pe_call GM hr (by rfl) T.prod.g T.prod.F.kp T.prod.b .nil pass0 (pa_cons (pv 6) (pa_cons (pv 8) pa_nil))) pa_nil))) (nomark _)) (pss_one (ps_ret pe_bl)) pss_nil)
    -- (f - g) + g, f + 0, f * 1
    (pss_cons (ps_if (PW.pt (pw_or (pt_cmpR (op_neD hu) (pe_call GS hr (by rfl) T.sum.g T.sum.F.kp T.sum.b .nil pass0 (pa_cons (pe_call GX hr (by rfl) T.diff.g T.diff.F.kp T.diff.b .nil pass0 (pa_cons (pv 6) (pa_cons (pv 7) pa_nil))) (pa_cons (pv 7) pa_nil))) (pv 6) (nomark _))
        (pw_or (pt_cmpR (op_neD hu) (pe_call GS hr (by rfl) T.sum.g T.sum.F.kp T.sum.b .nil pass0 (pa_cons (pv 6) (pa_cons (pv 10) pa_nil))) (pv 6) (nomark _))
        (pw_or1 (pt_cmpR (op_neD hu) (pe_call GM hr (by rfl) T.prod.g T.prod.F.kp T.prod.b .nil pass0 (pa_cons (pv 6) (pa_cons (pv 11) pa_nil))) (pv 6) (nomark _)))))) (pss_one (ps_ret pe_bl)) pss_nil)
    -- f - f, f * 0
    (pss_cons (ps_if (PW.pt (pw_or (pt_cmpR (op_neD hu) (pe_call GX hr (by rfl) T.diff.g T.diff.F.kp T.diff.b .nil pass0 (pa_cons (pv 6) (pa_cons (pv 6) pa_nil))) (pv 10) (nomark _))
        (pw_or1 (pt_cmpR (op_neD hu) (pe_call GM hr (by rfl) T.prod.g T.prod.F.kp T.prod.b .nil pass0 (pa_cons (pv 6) (pa_cons (pv 10) pa_nil))) (pv 10) (nomark _))))) (pss_one (ps_ret pe_bl)) pss_nil)
    -- f / g * g, g / g
    (pss_cons (ps_if (PW.pt (pw_and (pt_cmpR (op_neD hu) (pv 7) (pv 10) (nomark _))
        (pw_and1 (PW.pt (pw_or (pt_cmpR (op_neD hu) (pe_call GM hr (by rfl) T.prod.g T.prod.F.kp T.prod.b .nil pass0 (pa_cons (pe_call GQ hr (by rfl) T.quot.g T.quot.F.kp T.quot.b .nil pass0 (pa_cons (pv 6) (pa_cons (pv 7) pa_nil))) (pa_cons (pv 7) pa_nil))) (pv 6) (nomark _))
          (pw_or1 (pt_cmpR (op_neD hu) (pe_call GQ hr (by rfl) T.quot.g T.quot.F.kp T.quot.b .nil pass0 (pa_cons (pv 7) (pa_cons (pv 7) pa_nil))) (pv 11) (nomark _)))))))) (pss_one (ps_ret pe_bl)) pss_nil)
    (pss_one (ps_ret (pe_and (pe_call GI hr (by rfl) T.lk.isfrac.g T.lk.isfrac.F.kp T.lk.isfrac.b .nil pass0 (pa_cons (pe_call GM hr (by rfl) T.prod.g T.prod.F.kp T.prod.b .nil pass0 (pa_cons (pv 6) (pa_cons (pv 7) pa_nil))) pa_nil))
      (pe_one (pe_cmpR op_eq (pe_callB (call_reprD hg hu) (by rfl) T.repr boot_repr (pa_cons (pv 2) pa_nil)) (pv 9) (nomark _)))))))))))))))))), ?_⟩
  -- the stream, the list of fractions
  refine ⟨.ref a, rfl, a, _, rfl, .inl hA, fun c hc => ?_⟩
  have s0 := same_upd (o := .lst (ns.map V.int)) hc
  refine ⟨by show 3 ≤ sizeLine; decide, fun S hS => ?_⟩
  have s1 := same_upd (o := .lst [.ref c, .int 0, .int 0]) hS
  have nCS : c ≠ S := ne_of_none upd_same hS
  refine ⟨Nat.zero_le _, fun G hG => ?_⟩
  have s2 := same_upd (o := .lst []) hG
  have nSG : S ≠ G := ne_of_none upd_same hG
  have nCG : c ≠ G := ne_of_none (s1 _ _ upd_same) hG
  refine ⟨_, rfl, by decide, by decide, ?_⟩
  refine for_range (lo := 0) (n := 3) (fun i σ H' => H' c = some (L ns) ∧ St3 H' S c ∧ ∃ (rs : List (Addr × List Int × List Int)) (v3 v4 v5 : Option V), σ = [some (.ref a), some (.ref S), some (.ref G), v3, v4, v5, none, none, none, none, none, none] ∧
      H' G = some (.lst (rs.map fun t => V.ref t.1)) ∧ rs.length = i ∧ ∀ t ∈ rs, FrAp S G H' t)
    ⟨s2 _ _ (s1 _ _ upd_same), ⟨0, 0, s2 _ _ upd_same⟩, [], none, none, none, rfl, upd_same, rfl, fun _ h => (nomatch h)⟩ ?_ ?_
  · rintro i σ H1 hi ⟨hc1, t1, rs, v3, v4, v5, rfl, hG1, hl, hf⟩
    refine ⟨.ref S, rfl, S, c, ns, rfl, ⟨nCS, seq_of hc1, by omega, t1⟩, fun H2 r a1 b1 x y x0 y0 bt t2 h0 h1 h2 dr => ?_⟩
    have hG2 := bt G _ nSG.symm hG1
    refine ⟨r, _, rfl, .inl (.inl h0), rfl, _, _, rfl, _, _, rfl, rfl, ?_⟩
    refine ⟨.ref G, rfl, .inl ⟨rfl, _, SqL.of hG2⟩, _, rfl, _, rfl, a1, b1, x, y, 3, 48, 15, rfl, seq_of h1, seq_of h2, dr.tp, dr.tq, dr.nq, by decide, by decide, dr.lp, dr.lq, dr.bp, dr.bq, FF.fac_ok3, fun H3 z A1 B1 s3 fz rep w1 w2 w3 w4 => ?_⟩
    obtain ⟨can, q1, q2, q3, q4⟩ := dr.small rep
    have hG3 := s3 _ _ hG2
    have t3 := t2.same s3
    refine ⟨G, _, _, rfl, rfl, hG3, ?_, ?_⟩
    · rw [List.length_map, hl]
      exact small1000 (by omega)
    obtain ⟨a', b', f1, f2, f3, f4, f5⟩ := fz
    obtain ⟨oS, hS2⟩ := t2.some
    obtain ⟨iS, vS, hS3⟩ := t3
    have new : FrAp S G H3 (z, A1, B1) := ⟨⟨a', b', f1, f2, f3, (ne_of_none hS2 f4).symm, (ne_of_none hS2 f5).symm, (ne_of_none hG2 f4).symm, (ne_of_none hG2 f5).symm, ne_of f1 hS3 (fun z => by cases z), ne_of f1 hG3 (fun z => by cases z)⟩, can, ⟨q1, q2, q3, q4⟩⟩
    refine ⟨?_, ⟨iS, vS, ?_⟩, rs ++ [(z, A1, B1)], _, _, _, rfl, ?_, by rw [List.length_append, hl]; rfl, fun t ht => ?_⟩
    · rw [upd_ne nCG]
      exact s3 _ _ (bt c _ nCS hc1)
    · rw [upd_ne nSG]
      exact hS3
    · rw [upd_same, List.map_append]
      rfl
    · rcases List.mem_append.mp ht with h | h
      · exact (((hf t h).bt bt).same s3).upd
      · rw [List.mem_singleton.mp h]
        exact new.upd
  rintro σ H1 ⟨_, _, rs, v3, v4, v5, rfl, hG1, hl, hf⟩
  obtain ⟨⟨f, A1, B1⟩, ⟨g, A2, B2⟩, ⟨e, A3, B3⟩, rfl⟩ := len3 hl
  have p1 := hf (f, A1, B1) (by simp)
  have p2 := hf (g, A2, B2) (by simp)
  have p3 := hf (e, A3, B3) (by simp)
  have w1 := p1.val
  have w2 := p2.val
  have w3 := p3.val
  refine ⟨_, rfl, G, _, rfl, .inl (.inl hG1), rfl, _, _, rfl, _, _, rfl, _, _, rfl, rfl, ?_⟩
  -- what is shown
  have fit := three_fit p1.2.2 p2.2.2 p3.2.2
  have dpl : ∀ {H' : Hp}, Same H1 H' → Dp K H' (.ref G) (PyData.list [dF A1 B1, dF A2 B2, dF A3 B3]) := fun {H'} s' =>
    .lst (.inl (.inl (s' _ _ hG1))) (.cons (dp_frac (w1.pl.same s')) (.cons (dp_frac (w2.pl.same s')) (.cons (dp_frac (w3.pl.same s')) .nil)))
  refine ⟨_, rfl, G, _, rfl, dpl (Same.refl _), fit.1, fit.2.1, fit.2.2.1, fit.2.2.2, ?_⟩
  -- 0 and 1
  refine ⟨Nat.zero_le _, fun e1 h1 => ?_⟩
  have k1 := same_upd (o := .lst []) h1
  refine ⟨by decide, fun e2 h2 => ?_⟩
  have k2 := same_upd (o := .lst [.int 1]) h2
  refine ⟨by show 2 ≤ sizeLine; decide, fun e3 h3 => ?_⟩
  have k3 := same_upd (o := .tup [.ref e1, .ref e2]) h3
  refine ⟨by decide, fun e4 h4 => ?_⟩
  have k4 := same_upd (o := .lst [.int 1]) h4
  refine ⟨by decide, fun e5 h5 => ?_⟩
  have k5 := same_upd (o := .lst [.int 1]) h5
  refine ⟨by show 2 ≤ sizeLine; decide, fun e6 h6 => ?_⟩
  have k6 := same_upd (o := .tup [.ref e4, .ref e5]) h6
  refine ⟨_, _, rfl, ?_⟩
  have k46 := k4.trans (k5.trans k6)
  have kk := (k1.trans (k2.trans k3)).trans k46
  have vz := zero_val (k46 _ _ upd_same) (k46 _ _ (k3 _ _ (k2 _ _ upd_same))) (k46 _ _ (k3 _ _ upd_same))
  have vo := one_val upd_same (k6 _ _ (k5 _ _ upd_same)) (k6 _ _ upd_same)
  have vf := w1.same kk
  have vg := w2.same kk
  have vh := w3.same kk
  have dpm := fun {H' : Hp} s' => dpl (H' := H') (kk.trans s')
  clear hf p1 p2 p3 w1 w2 w3 dpl k1 k2 k3 k4 k5 k6 k46 kk
  generalize upd _ e6 _ = H2 at *
  -- f + g = g + f
  refine ⟨_, rfl, _, rfl, sum_call vf vg 4 22 (by decide) (by decide) (by decide) (by decide) FF.fac_ok4 fun H3 r3 X3 Y3 s3 u3 => ?_⟩
  refine ⟨_, rfl, _, rfl, sum_call (vg.same s3) (vf.same s3) 4 22 (by decide) (by decide) (by decide) (by decide) FF.fac_ok4 fun H4 r4 X4 Y4 s4 u4 => ?_⟩
  refine ne_no (u3.same s4) u4 (by grind) ⟨_, rfl, iteF ?_⟩
  have z4 := s3.trans s4
  refine ⟨_, rfl, _, rfl, prod_call (vf.same z4) (vg.same z4) 4 22 (by decide) (by decide) (by decide) (by decide) FF.fac_ok4 fun H5 r5 X5 Y5 s5 u5 => ?_⟩
  have z5 := z4.trans s5
  refine ⟨_, rfl, _, rfl, prod_call (vg.same z5) (vf.same z5) 4 22 (by decide) (by decide) (by decide) (by decide) FF.fac_ok4 fun H6 r6 X6 Y6 s6 u6 => ?_⟩
  refine ne_no (u5.same s6) u6 (by grind) ⟨_, rfl, iteF ?_⟩
  have z6 := z5.trans s6
  clear u3 u4 u5 u6 s3 s4 s5 s6 z4 z5
  replace vf := vf.same z6
  replace vg := vg.same z6
  replace vh := vh.same z6
  replace vz := vz.same z6
  replace vo := vo.same z6
  replace dpm := fun {H' : Hp} s' => dpm (H' := H') (z6.trans s')
  clear z6
  -- (f + g) + h = f + (g + h)
  refine ⟨_, rfl, _, rfl, sum_call vf vg 4 22 (by decide) (by decide) (by decide) (by decide) FF.fac_ok4 fun H3 r3 X3 Y3 s3 u3 => ?_⟩
  refine ⟨_, rfl, sum_call u3 (vh.same s3) 6 39 (by decide) (by decide) (by decide) (by decide) FF.fac_ok6 fun H4 r4 X4 Y4 s4 u4 => ?_⟩
  have z4 := s3.trans s4
  refine ⟨_, rfl, _, rfl, _, rfl, sum_call (vg.same z4) (vh.same z4) 4 22 (by decide) (by decide) (by decide) (by decide) FF.fac_ok4 fun H5 r5 X5 Y5 s5 u5 => ?_⟩
  refine sum_call (vf.same (z4.trans s5)) u5 6 39 (by decide) (by decide) (by decide) (by decide) FF.fac_ok6 fun H6 r6 X6 Y6 s6 u6 => ?_
  refine ne_no (u4.same (s5.trans s6)) u6 (by grind) ⟨_, rfl, iteF ?_⟩
  have z6 := z4.trans (s5.trans s6)
  clear u3 u4 u5 u6 s3 s4 s5 s6 z4
  replace vf := vf.same z6
  replace vg := vg.same z6
  replace vh := vh.same z6
  replace vz := vz.same z6
  replace vo := vo.same z6
  replace dpm := fun {H' : Hp} s' => dpm (H' := H') (z6.trans s')
  clear z6
  -- (f * g) * h = f * (g * h)
  refine ⟨_, rfl, _, rfl, prod_call vf vg 4 22 (by decide) (by decide) (by decide) (by decide) FF.fac_ok4 fun H3 r3 X3 Y3 s3 u3 => ?_⟩
  refine ⟨_, rfl, prod_call u3 (vh.same s3) 6 39 (by decide) (by decide) (by decide) (by decide) FF.fac_ok6 fun H4 r4 X4 Y4 s4 u4 => ?_⟩
  have z4 := s3.trans s4
  refine ⟨_, rfl, _, rfl, _, rfl, prod_call (vg.same z4) (vh.same z4) 4 22 (by decide) (by decide) (by decide) (by decide) FF.fac_ok4 fun H5 r5 X5 Y5 s5 u5 => ?_⟩
  refine prod_call (vf.same (z4.trans s5)) u5 6 39 (by decide) (by decide) (by decide) (by decide) FF.fac_ok6 fun H6 r6 X6 Y6 s6 u6 => ?_
  refine ne_no (u4.same (s5.trans s6)) u6 (by grind) ⟨_, rfl, iteF ?_⟩
  have z6 := z4.trans (s5.trans s6)
  clear u3 u4 u5 u6 s3 s4 s5 s6 z4
  replace vf := vf.same z6
  replace vg := vg.same z6
  replace vh := vh.same z6
  replace vz := vz.same z6
  replace vo := vo.same z6
  replace dpm := fun {H' : Hp} s' => dpm (H' := H') (z6.trans s')
  clear z6
  -- f * (g + h) = f * g + f * h
  refine ⟨_, rfl, _, rfl, _, rfl, sum_call vg vh 4 22 (by decide) (by decide) (by decide) (by decide) FF.fac_ok4 fun H3 r3 X3 Y3 s3 u3 => ?_⟩
  refine prod_call (vf.same s3) u3 6 39 (by decide) (by decide) (by decide) (by decide) FF.fac_ok6 fun H4 r4 X4 Y4 s4 u4 => ?_
  have z4 := s3.trans s4
  refine ⟨_, rfl, _, rfl, prod_call (vf.same z4) (vg.same z4) 4 22 (by decide) (by decide) (by decide) (by decide) FF.fac_ok4 fun H5 r5 X5 Y5 s5 u5 => ?_⟩
  have z5 := z4.trans s5
  refine ⟨_, rfl, _, rfl, prod_call (vf.same z5) (vh.same z5) 4 22 (by decide) (by decide) (by decide) (by decide) FF.fac_ok4 fun H6 r6 X6 Y6 s6 u6 => ?_⟩
  refine sum_call (u5.same s6) u6 8 58 (by decide) (by decide) (by decide) (by decide) FF.fac_ok8 fun H7 r7 X7 Y7 s7 u7 => ?_
  refine ne_no (u4.same (s5.trans (s6.trans s7))) u7 (by grind) ⟨_, rfl, iteF ?_⟩
  have z6 := z5.trans (s6.trans s7)
  clear u3 u4 u5 u6 u7 s3 s4 s5 s6 s7 z4 z5
  replace vf := vf.same z6
  replace vg := vg.same z6
  replace vh := vh.same z6
  replace vz := vz.same z6
  replace vo := vo.same z6
  replace dpm := fun {H' : Hp} s' => dpm (H' := H') (z6.trans s')
  clear z6
  -- (f - g) + g = f
  refine ⟨_, rfl, _, rfl, diff_call vf vg 4 22 (by decide) (by decide) (by decide) (by decide) FF.fac_ok4 fun H3 r3 X3 Y3 s3 u3 => ?_⟩
  refine ⟨_, rfl, sum_call u3 (vg.same s3) 6 39 (by decide) (by decide) (by decide) (by decide) FF.fac_ok6 fun H4 r4 X4 Y4 s4 u4 => ?_⟩
  have z4 := s3.trans s4
  refine ⟨_, rfl, ne_no u4 (vf.same z4) (by grind) ⟨_, rfl, iteF ?_⟩⟩
  -- f + 0 = f
  refine ⟨_, rfl, _, rfl, sum_call (vf.same z4) (vz.same z4) 4 22 (by decide) (by decide) (by decide) (by decide) FF.fac_ok4 fun H5 r5 X5 Y5 s5 u5 => ?_⟩
  have z5 := z4.trans s5
  refine ⟨_, rfl, ne_no u5 (vf.same z5) (by grind) ⟨_, rfl, iteF ?_⟩⟩
  -- f * 1 = f
  refine ⟨_, rfl, _, rfl, prod_call (vf.same z5) (vo.same z5) 4 22 (by decide) (by decide) (by decide) (by decide) FF.fac_ok4 fun H6 r6 X6 Y6 s6 u6 => ?_⟩
  have z6 := z5.trans s6
  refine ⟨_, rfl, ne_no u6 (vf.same z6) (by grind) ⟨_, rfl, iteF ?_⟩⟩
  clear u3 u4 u5 u6 s3 s4 s5 s6 z4 z5
  replace vf := vf.same z6
  replace vg := vg.same z6
  replace vh := vh.same z6
  replace vz := vz.same z6
  replace vo := vo.same z6
  replace dpm := fun {H' : Hp} s' => dpm (H' := H') (z6.trans s')
  clear z6
  -- f - f = 0, f * 0 = 0
  refine ⟨_, rfl, _, rfl, diff_call vf vf 4 22 (by decide) (by decide) (by decide) (by decide) FF.fac_ok4 fun H3 r3 X3 Y3 s3 u3 => ?_⟩
  refine ⟨_, rfl, ne_no u3 (vz.same s3) (by grind) ⟨_, rfl, iteF ?_⟩⟩
  refine ⟨_, rfl, _, rfl, prod_call (vf.same s3) (vz.same s3) 4 22 (by decide) (by decide) (by decide) (by decide) FF.fac_ok4 fun H4 r4 X4 Y4 s4 u4 => ?_⟩
  have z6 := s3.trans s4
  refine ⟨_, rfl, ne_no u4 (vz.same z6) (by grind) ⟨_, rfl, iteF ?_⟩⟩
  clear u3 u4 s3 s4
  replace vf := vf.same z6
  replace vg := vg.same z6
  replace vh := vh.same z6
  replace vz := vz.same z6
  replace vo := vo.same z6
  replace dpm := fun {H' : Hp} s' => dpm (H' := H') (z6.trans s')
  clear z6
  -- the end: the look at f * g, what is shown
  by_cases hz : A2 = []
  · refine ⟨_, rfl, _, rfl, ne_no vg vz ?_ ⟨_, rfl, ?_⟩⟩
    · rw [hz, FF.S_nil]
      grind
    refine iteF (iteF ?_)
    refine ⟨_, rfl, _, rfl, prod_call vf vg 4 22 (by decide) (by decide) (by decide) (by decide) FF.fac_ok4 fun Hx rx Xx Yx sx ux => ?_⟩
    refine ⟨rx, Xx, Yx, rfl, ux.pl, ux.rep.can, ux.la, ux.lb, ux.ba, ux.bb, fun Hy sy => ⟨_, rfl, iteT ?_⟩⟩
    refine ⟨_, rfl, G, _, rfl, dpm (sx.trans sy), fit.1, fit.2.1, fit.2.2.1, fit.2.2.2, _, rfl, rfl, ?_⟩
    show Q (V.bl (decide (V.str _ = V.str _))) _
    rw [decide_eq_true rfl]
    exact q _
  · refine ⟨_, rfl, _, rfl, _, _, dp_frac vg.pl, dp_frac vz.pl, shaped_frac _ _, shaped_frac _ _, _, rfl, ?_⟩
    rw [eqv_frac, decide_eq_false hz]
    refine iteT ?_
    -- f / g * g = f
    refine ⟨_, rfl, _, rfl, quot_call vf vg 4 22 (by decide) (by decide) (by decide) (by decide) FF.fac_ok4 hz fun H3 r3 X3 Y3 s3 u3 => ?_⟩
    refine ⟨_, rfl, prod_call u3 (vg.same s3) 6 39 (by decide) (by decide) (by decide) (by decide) FF.fac_ok6 fun H4 r4 X4 Y4 s4 u4 => ?_⟩
    have z4 := s3.trans s4
    refine ⟨_, rfl, ne_no u4 (vf.same z4) (by grind) ⟨_, rfl, iteF ?_⟩⟩
    -- g / g = 1
    refine ⟨_, rfl, _, rfl, quot_call (vg.same z4) (vg.same z4) 4 22 (by decide) (by decide) (by decide) (by decide) FF.fac_ok4 hz fun H5 r5 X5 Y5 s5 u5 => ?_⟩
    have z5 := z4.trans s5
    refine ⟨_, rfl, ne_no u5 (vo.same z5) (by grind) ⟨_, rfl, iteF ?_⟩⟩
    refine ⟨_, rfl, _, rfl, prod_call (vf.same z5) (vg.same z5) 4 22 (by decide) (by decide) (by decide) (by decide) FF.fac_ok4 fun Hx rx Xx Yx sx ux => ?_⟩
    refine ⟨rx, Xx, Yx, rfl, ux.pl, ux.rep.can, ux.la, ux.lb, ux.ba, ux.bb, fun Hy sy => ⟨_, rfl, iteT ?_⟩⟩
    refine ⟨_, rfl, G, _, rfl, dpm (z5.trans (sx.trans sy)), fit.1, fit.2.1, fit.2.2.1, fit.2.2.2, _, rfl, rfl, ?_⟩
    show Q (V.bl (decide (V.str _ = V.str _))) _
    rw [decide_eq_true rfl]
    exact q _
end
end Wt

/-! Wr: the law's call at the top's end (where no repr is under way), the walk of the row. -/
namespace Wt
open PySem PySem.Spec PyProof.Rows L2
section
variable {P : Program} {w : World} {K : PySem.W.Frag} {mg : Str → Option Value} {base : Heap}
theorem room45 : Room 45 callerA := ⟨rfl, by decide, by decide⟩
/-- the law's def, called from the row's own caller -/
theorem run_law (hb : base.NoSeer) (ht : P.given.tree = none) (T : All K mg) {s0 : Shared} {H0 : Hp} {us : List Value} {vs : List V} {Q : VK} {E : XK} (e0 : Env0 P w K mg base callerA [] s0 H0)
    (bd : BindsTo s0 T.law.fd ⟨us, []⟩ ((["_law_script"] : List Str).zip us)) (rv : Vals vs us) (hs : spLaw K vs H0 Q E) : codeAny (model P w) callerA (.call (.ref T.law.f) ⟨us, []⟩) (CR CX0 [] P w H0 s0 Q E) s0 := by
  obtain ⟨oc, od, kV, doc, pm, an, cdv, ct, osl, e, look, code⟩ := T.law.F.ex
  rw [e] at bd look
  have one : vs.length = (["_law_script"] : List Str).length := by
    obtain ⟨a, ns, rfl, _⟩ := hs
    rfl
  have inK : K.In s0.heap := e0.mod.kin.keeps fun x y z => (e0.bs x y z).1
  have noLim : s0.heap.NoLimit := e0.mod.nolimit.keeps fun x y z => (e0.bs x y z).1
  have names : ∀ y ∈ (["_law_script"] : List Str).zip us, (defScope sLaw).names.lookup y.1 = some .local ∨ ((defScope sLaw).names.lookup y.1 = some .cell ∧ ((cellsFrom (s0.heap.objs.size + 1) (defScope sLaw).names []).lookup y.1).isSome = true) := fun ⟨y, v⟩ hy => by
    have : y ∈ (["_law_script"] : List Str) := (List.of_mem_zip hy).1
    rw [List.mem_singleton.mp this]
    exact .inl rfl
  refine codeAny_call_function room45.depth (inK _ _ look) rfl scLaw.co scLaw.gen rfl (PySem.W.codeRec_of inK code) (bd _ _ _ _ ?_)
  refine wpAny_newFunctionEnv_cells scLaw.kind names fun env eq s1 start1 => ?_
  subst eq
  refine ⟨noLim.keeps start1.toInCall.keep, codeAny_func ?_⟩
  obtain ⟨t, walk, reads⟩ := body_law (k := 0) hb ht T cdv callerA [] s0 H0 vs Q E rfl (room45.deeper _) hs
  have J0 : Inv (cxOf CX0 P w K mg base lawN "law" (defScope sLaw) T.law.f cdv callerA [] s0 H0 E) [] (L2.start lawN vs) H0 s1 := inv_start scLaw rfl e0 one rv start1
  refine wpAny_mono (walk.nox.run [] s1 _ H0 _ J0 reads) (fun fl s2 end2 => ?_) fun _ _ z => z
  cases fl with
  | ret u =>
    obtain ⟨v, σ2, H2, J, r, q⟩ := end2
    exact ⟨v, H2, J.os, J.bare, J.base, J.hok, r, q⟩
  | next =>
    obtain ⟨σ2, H2, J, q⟩ := end2
    exact ⟨V.non, H2, J.os, J.bare, J.base, J.hok, rfl, q⟩
  | brk => exact end2.elim fun _ z => z.elim fun _ y => y.2.elim
  | cont => exact end2.elim fun _ z => z.elim fun _ y => y.2.elim
/-- from an abstract heap that tracks at most the script -/
theorem law_from (T : All K mg) (ht : P.given.tree = none) {mb : Str → Option Value} {s1 : Shared} {a : Addr} {us : List Value} {ns : List Int} (inK : K.In s1.heap) (g1 : s1.heap.Ns mainGlobals mg) (g2 : s1.heap.Ns builtinsNs mb) (g3 : ∀ x : Str, x ≠ "__name__" → mb x = bootBuiltins x)
    (noLim : s1.heap.NoLimit) (noSeer : s1.heap.NoSeer) (noGen : s1.gens = #[]) (scr : s1.heap.get? a = some { cls := .type "list", data := .seq us.toArray }) (lns : ns.length ≤ 63) (bd : ∀ (s : Shared) (u : Value), BindsTo s T.law.fd ⟨[u], []⟩ [("_law_script", u)])
    (H1 : Hp) (frz : ∀ b u, H1 b = some u → b = a ∧ ∃ o xs, u = .frz o (.lst xs)) (ok1 : HOk P w H1 s1.heap) (seq1 : SqL K H1 a (ns.map V.int)) (notK : H1 a ≠ none → K.lookup a = none) :
    codeAny (model P w) callerA (.call (.ref T.law.f) ⟨[.ref a], []⟩) (fun r s' => r = .ok (.ret (.bool true)) ∧ OldK s1.heap s'.heap ∧ s'.os = s1.os ∧ AllBare s'.gens) s1 := by
  have free : ∀ {b : Addr} {o : Obj}, s1.heap.get? b = some o → (o.cls = .type "list" → b ≠ a) → H1 b = none := fun {b o} hb hne => by
    cases q : H1 b with
    | none => rfl
    | some u =>
      have eb := (frz b u q).1
      rw [eb, scr] at hb
      cases hb
      exact absurd eb (hne rfl)
  have hid : ∀ {b : Addr} {o : Obj}, s1.heap.get? b = some o → H1 b = none → (hidT s1.heap H1).get? b = some o := fun x y => hidT_get x y
  have ns1 : ∀ {b : Addr} {m : Str → Option Value}, s1.heap.Ns b m → (hidT s1.heap H1).Ns b m := fun {b m} ⟨o, es, ep, x, d, rest⟩ => by
    refine ⟨o, es, ep, hid x ?_, d, rest⟩
    cases q : H1 b with
    | none => rfl
    | some u =>
      rw [(frz b u q).1, scr] at x
      cases x
      exact nomatch d
  have kb : K.In (hidT s1.heap H1) := fun b o x => hid (inK b o x) (by
    cases q : H1 b with
    | none => rfl
    | some u =>
      have eb := (frz b u q).1
      rw [eb] at x q
      rw [notK (by rw [q]; intro z; cases z)] at x
      cases x)
  have seerB : (hidT s1.heap H1).NoSeer := by
    obtain ⟨m1, x1, y1⟩ := noSeer.statics
    obtain ⟨m2, x2, y2⟩ := noSeer.mods
    obtain ⟨m3, x3, y3⟩ := noSeer.imp
    obtain ⟨m4, bm, ob, x4, y4, z4, c4, d4⟩ := noSeer.main
    refine ⟨⟨m1, ns1 x1, y1⟩, ⟨m2, ns1 x2, y2⟩, ⟨m3, ns1 x3, y3⟩, ⟨m4, bm, ob, ns1 x4, y4, hid z4 (free z4 fun hc => ?_), c4, d4⟩⟩
    rw [c4] at hc
    exact absurd hc (by decide)
  have mod1 : Mod K mg (hidT s1.heap H1) := ⟨kb, ns1 g1, ⟨mb, ns1 g2, g3⟩, let ⟨mc, x, y⟩ := noLim; ⟨mc, ns1 x, y⟩⟩
  have env1 : Env0 P w K mg (hidT s1.heap H1) callerA [] s1 H1 := ⟨rfl, mod1, fun b o x => of_hidT x, Nat.le_of_eq (hidT_size _ _), trivial, fun b z => absurd (show b ∈ ([] : List Addr) from z) List.not_mem_nil, ok1, .of_eq noGen⟩
  have run := run_law (E := fun _ _ _ => False) (Q := fun v _ => v = .bl true) seerB ht T env1 (us := [.ref a]) (vs := [.ref a]) (bd s1 (.ref a)) (.cons rfl .nil) ⟨a, ns, rfl, seq1, lns, fun _ => rfl⟩
  refine codeAny_mono run fun r s2 h => ?_
  cases r with
  | error _ => exact h.elim
  | ok fl =>
    cases fl with
    | next => exact h.elim
    | brk => exact h.elim
    | cont => exact h.elim
    | ret u =>
      obtain ⟨v, H2, osEq, bare, un, ok2, rel, isT⟩ := h
      rw [show v = V.bl true from isT] at rel
      obtain rfl : u = Value.bool true := rel
      refine ⟨rfl, OldK.of_keep fun b o x => ?_, osEq, bare⟩
      cases q : H1 b with
      | none => exact un.keep b o x q (fun z => absurd (show b ∈ ([] : List Addr) from z) List.not_mem_nil) List.not_mem_nil
      | some u =>
        obtain ⟨_, ob, xs, rfl⟩ := frz b u q
        have still := un.frzs b ob _ q
        obtain ⟨x1, _⟩ := ok1 b _ q
        obtain ⟨x2, _⟩ := ok2 b _ still
        rw [x] at x1
        cases x1
        exact x2
theorem law_end (T : All K mg) (ht : P.given.tree = none) {mb : Str → Option Value} {s1 : Shared} {a : Addr} {us : List Value} {ns : List Int} (inK : K.In s1.heap) (g1 : s1.heap.Ns mainGlobals mg) (g2 : s1.heap.Ns builtinsNs mb) (g3 : ∀ x : Str, x ≠ "__name__" → mb x = bootBuiltins x)
    (noLim : s1.heap.NoLimit) (noSeer : s1.heap.NoSeer) (noGen : s1.gens = #[]) (scr : s1.heap.get? a = some { cls := .type "list", data := .seq us.toArray }) (iv : IntsAre us ns) (lns : ns.length ≤ 63) (bd : ∀ (s : Shared) (u : Value), BindsTo s T.law.fd ⟨[u], []⟩ [("_law_script", u)]) :
    codeAny (model P w) callerA (.call (.ref T.law.f) ⟨[.ref a], []⟩) (fun r s' => r = .ok (.ret (.bool true)) ∧ OldK s1.heap s'.heap ∧ s'.os = s1.os ∧ AllBare s'.gens) s1 := by
  have rv := vals_ints iv
  have lu := iv.length
  have small : ns.length ≤ sizeLine := Nat.le_of_lt (small1000 (by omega))
  cases inside : K.lookup a with
  | some o =>
    have same := inK a o inside
    rw [scr] at same
    cases same
    refine law_from T ht inK g1 g2 g3 noLim noSeer noGen scr lns bd (fun _ => none) (fun b u z => by cases z) (fun b u z => by cases z) (.inr ⟨_, us.toArray, _, inside, rfl, rfl, rfl, ?_, by simpa using rv⟩) fun z => absurd rfl z
    rw [List.size_toArray, lu]
    exact small
  | none =>
    have at_a : ∀ {b : Addr} {u : HO}, (if b = a then some (HO.frz { cls := .type "list", data := .seq us.toArray } (.lst (ns.map V.int))) else none) = some u → b = a ∧ u = .frz { cls := .type "list", data := .seq us.toArray } (.lst (ns.map V.int)) := fun {b u} z => by
      by_cases hb : b = a
      · rw [if_pos hb] at z
        exact ⟨hb, (Option.some.inj z).symm⟩
      · rw [if_neg hb] at z
        cases z
    refine law_from T ht inK g1 g2 g3 noLim noSeer noGen scr lns bd (fun b => if b = a then some (HO.frz { cls := .type "list", data := .seq us.toArray } (.lst (ns.map V.int))) else none) (fun b u z => ⟨(at_a z).1, _, _, (at_a z).2⟩) (fun b u z => ?_) (.inl (.inr ⟨_, if_pos rfl⟩)) fun _ => inside
    obtain ⟨rfl, rfl⟩ := at_a z
    refine ⟨scr, ?_, us, _, rv, scr⟩
    rw [List.length_map]
    exact small
end
/-- the row's walk, from the facts that the top leaves -/
theorem walk_end {l : PySem.W.OpenLaw} {q : Program} {loose : List Str} {XP : (Str → Option Value) → Heap → Prop} {YP : World → Heap → Prop} {d : DefRec} {K : Params → PySem.W.Frag} (h63 : l.most = some 63) (noDef : d.params.defaults = []) (noTree : l.prog.given.tree = none) (imps : importsNone q = true)
    (hK : ∀ (w : World) (h : Heap), YP w h → (K w.params).In h)
    (F : ∀ (w : World) (mg : Str → Option Value) (fa : Addr) (h : Heap), (K w.params).In h → h.Ns mainGlobals mg → mg d.name = some (.ref fa) →
      ∃ T : All (K w.params) mg, T.law.f = fa ∧ ∀ (s : Shared) (u : Value), BindsTo s T.law.fd ⟨[u], []⟩ [("_law_script", u)]) :
    PySem.W.WalkO q loose XP YP l.row.toRowW d [] (fun f vs => PySem.call f vs) := by
  refine Att.attach_call h63 noDef fun w s0 s1 mg mb fa o pm cd doc a us ns Gr Y _ _ _ bound scr iv lns noGen => ?_
  have inK := hK w _ Y
  obtain ⟨T, rfl, bd⟩ := F w mg fa _ inK Gr.T.g bound
  exact law_end T noTree inK Gr.T.g Gr.T.b Gr.T.builtins Gr.T.nolimit (Gr.T.seer imps) noGen scr iv lns bd
end Wt

/-! Ws: what the top leaves, and the end (printed by gen_end.py). -/
namespace Wt
open PySem PySem.Spec PyProof.Rows L2
/-- a def's facts, put together -/
def df_mk {K : PySem.W.Frag} {h : Heap} {mg : Str → Option Value} {x : Str} {st : Stmt} {ps : List Str} {f : Addr} {od an : Option Addr} {sl : Array (Option Value)} {oc kV dc pm cd ct : Value} (X : K.In h) (G : h.Ns mainGlobals mg)
    (b : ∀ (kV doc pm : Value) (an : Option Addr) (cdv ct : Value) (us : List Value), us.length = ps.length → bindArgs (PySem.W.fnOf x x (defArgs st) (defBody st) (defScope st) .none kV doc pm an cdv ct) ⟨us, []⟩ = pure (ps.zip us))
    (a : PySem.W.nsIn K mainGlobals x = some (some (.ref f))) (l : K.lookup f = some ⟨oc, od, .func (PySem.W.fnOf x x (defArgs st) (defBody st) (defScope st) .none kV dc pm an cd ct), sl⟩) (c : PySem.W.codeIn K cd x = true) (k : PySem.W.keepIn K (.ref f) = true) : Df K mg x st ps :=
  ⟨f, _, fun_mk l c k, (fun_mk l c k).binds b, PySem.W.mg_of X G a⟩
set_option maxHeartbeats 0 in
theorem all_mk {K : PySem.W.Frag} {h : Heap} {mg : Str → Option Value} {fa : Addr} (X : K.In h) (G : h.Ns mainGlobals mg) (hfa : mg "law" = some (.ref fa))
    {f0 : Addr} {od0 an0 : Option Addr} {sl0 : Array (Option Value)} {oc0 kV0 dc0 pm0 cd0 ct0 : Value}
    {f1 : Addr} {od1 an1 : Option Addr} {sl1 : Array (Option Value)} {oc1 kV1 dc1 pm1 cd1 ct1 : Value}
    {f2 : Addr} {od2 an2 : Option Addr} {sl2 : Array (Option Value)} {oc2 kV2 dc2 pm2 cd2 ct2 : Value}
    {f3 : Addr} {od3 an3 : Option Addr} {sl3 : Array (Option Value)} {oc3 kV3 dc3 pm3 cd3 ct3 : Value}
    {f4 : Addr} {od4 an4 : Option Addr} {sl4 : Array (Option Value)} {oc4 kV4 dc4 pm4 cd4 ct4 : Value}
    {f5 : Addr} {od5 an5 : Option Addr} {sl5 : Array (Option Value)} {oc5 kV5 dc5 pm5 cd5 ct5 : Value}
    {f6 : Addr} {od6 an6 : Option Addr} {sl6 : Array (Option Value)} {oc6 kV6 dc6 pm6 cd6 ct6 : Value}
    {f7 : Addr} {od7 an7 : Option Addr} {sl7 : Array (Option Value)} {oc7 kV7 dc7 pm7 cd7 ct7 : Value}
    {f8 : Addr} {od8 an8 : Option Addr} {sl8 : Array (Option Value)} {oc8 kV8 dc8 pm8 cd8 ct8 : Value}
    {f9 : Addr} {od9 an9 : Option Addr} {sl9 : Array (Option Value)} {oc9 kV9 dc9 pm9 cd9 ct9 : Value}
    {f10 : Addr} {od10 an10 : Option Addr} {sl10 : Array (Option Value)} {oc10 kV10 dc10 pm10 cd10 ct10 : Value}
    {f11 : Addr} {od11 an11 : Option Addr} {sl11 : Array (Option Value)} {oc11 kV11 dc11 pm11 cd11 ct11 : Value}
    {f12 : Addr} {od12 an12 : Option Addr} {sl12 : Array (Option Value)} {oc12 kV12 dc12 pm12 cd12 ct12 : Value}
    {f13 : Addr} {od13 an13 : Option Addr} {sl13 : Array (Option Value)} {oc13 kV13 dc13 pm13 cd13 ct13 : Value}
    {f14 : Addr} {od14 an14 : Option Addr} {sl14 : Array (Option Value)} {oc14 kV14 dc14 pm14 cd14 ct14 : Value}
    {f15 : Addr} {od15 an15 : Option Addr} {sl15 : Array (Option Value)} {oc15 kV15 dc15 pm15 cd15 ct15 : Value}
    {f16 : Addr} {od16 an16 : Option Addr} {sl16 : Array (Option Value)} {oc16 kV16 dc16 pm16 cd16 ct16 : Value}
    {f17 : Addr} {od17 an17 : Option Addr} {sl17 : Array (Option Value)} {oc17 kV17 dc17 pm17 cd17 ct17 : Value}
    {f18 : Addr} {od18 an18 : Option Addr} {sl18 : Array (Option Value)} {oc18 kV18 dc18 pm18 cd18 ct18 : Value}
    {f19 : Addr} {od19 an19 : Option Addr} {sl19 : Array (Option Value)} {oc19 kV19 dc19 pm19 cd19 ct19 : Value}
    {f20 : Addr} {od20 an20 : Option Addr} {sl20 : Array (Option Value)} {oc20 kV20 dc20 pm20 cd20 ct20 : Value}
    {f21 : Addr} {od21 an21 : Option Addr} {sl21 : Array (Option Value)} {oc21 kV21 dc21 pm21 cd21 ct21 : Value}
    {f22 : Addr} {od22 an22 : Option Addr} {sl22 : Array (Option Value)} {oc22 kV22 dc22 pm22 cd22 ct22 : Value}
    {f23 : Addr} {od23 an23 : Option Addr} {sl23 : Array (Option Value)} {oc23 kV23 dc23 pm23 cd23 ct23 : Value}
    {f24 : Addr} {od24 an24 : Option Addr} {sl24 : Array (Option Value)} {oc24 kV24 dc24 pm24 cd24 ct24 : Value}
    {f25 : Addr} {od25 an25 : Option Addr} {sl25 : Array (Option Value)} {oc25 kV25 dc25 pm25 cd25 ct25 : Value}
    {f26 : Addr} {od26 an26 : Option Addr} {sl26 : Array (Option Value)} {oc26 kV26 dc26 pm26 cd26 ct26 : Value}
    {f27 : Addr} {od27 an27 : Option Addr} {sl27 : Array (Option Value)} {oc27 kV27 dc27 pm27 cd27 ct27 : Value}
    {f28 : Addr} {od28 an28 : Option Addr} {sl28 : Array (Option Value)} {oc28 kV28 dc28 pm28 cd28 ct28 : Value}
    {f29 : Addr} {od29 an29 : Option Addr} {sl29 : Array (Option Value)} {oc29 kV29 dc29 pm29 cd29 ct29 : Value}
    {f30 : Addr} {od30 an30 : Option Addr} {sl30 : Array (Option Value)} {oc30 kV30 dc30 pm30 cd30 ct30 : Value}
    {f31 : Addr} {od31 an31 : Option Addr} {sl31 : Array (Option Value)} {oc31 kV31 dc31 pm31 cd31 ct31 : Value}
    {f32 : Addr} {od32 an32 : Option Addr} {sl32 : Array (Option Value)} {oc32 kV32 dc32 pm32 cd32 ct32 : Value}
    {f33 : Addr} {od33 an33 : Option Addr} {sl33 : Array (Option Value)} {oc33 kV33 dc33 pm33 cd33 ct33 : Value}
    {f34 : Addr} {od34 an34 : Option Addr} {sl34 : Array (Option Value)} {oc34 kV34 dc34 pm34 cd34 ct34 : Value}
    (a0 : PySem.W.nsIn K mainGlobals "number" = some (some (.ref f0))) (l0 : K.lookup f0 = some ⟨oc0, od0, .func (PySem.W.fnOf "number" "number" (defArgs sNumber) (defBody sNumber) (defScope sNumber) .none kV0 dc0 pm0 an0 cd0 ct0), sl0⟩) (c0 : PySem.W.codeIn K cd0 "number" = true) (k0 : PySem.W.keepIn K (.ref f0) = true)
    (a1 : PySem.W.nsIn K mainGlobals "plus" = some (some (.ref f1))) (l1 : K.lookup f1 = some ⟨oc1, od1, .func (PySem.W.fnOf "plus" "plus" (defArgs sPlus) (defBody sPlus) (defScope sPlus) .none kV1 dc1 pm1 an1 cd1 ct1), sl1⟩) (c1 : PySem.W.codeIn K cd1 "plus" = true) (k1 : PySem.W.keepIn K (.ref f1) = true)
    (a2 : PySem.W.nsIn K mainGlobals "times" = some (some (.ref f2))) (l2 : K.lookup f2 = some ⟨oc2, od2, .func (PySem.W.fnOf "times" "times" (defArgs sTimes) (defBody sTimes) (defScope sTimes) .none kV2 dc2 pm2 an2 cd2 ct2), sl2⟩) (c2 : PySem.W.codeIn K cd2 "times" = true) (k2 : PySem.W.keepIn K (.ref f2) = true)
    (a3 : PySem.W.nsIn K mainGlobals "trimmed" = some (some (.ref f3))) (l3 : K.lookup f3 = some ⟨oc3, od3, .func (PySem.W.fnOf "trimmed" "trimmed" (defArgs sTrimmed) (defBody sTrimmed) (defScope sTrimmed) .none kV3 dc3 pm3 an3 cd3 ct3), sl3⟩) (c3 : PySem.W.codeIn K cd3 "trimmed" = true) (k3 : PySem.W.keepIn K (.ref f3) = true)
    (a4 : PySem.W.nsIn K mainGlobals "coefficient_of" = some (some (.ref f4))) (l4 : K.lookup f4 = some ⟨oc4, od4, .func (PySem.W.fnOf "coefficient_of" "coefficient_of" (defArgs sCoef) (defBody sCoef) (defScope sCoef) .none kV4 dc4 pm4 an4 cd4 ct4), sl4⟩) (c4 : PySem.W.codeIn K cd4 "coefficient_of" = true) (k4 : PySem.W.keepIn K (.ref f4) = true)
    (a5 : PySem.W.nsIn K mainGlobals "add" = some (some (.ref f5))) (l5 : K.lookup f5 = some ⟨oc5, od5, .func (PySem.W.fnOf "add" "add" (defArgs sAdd) (defBody sAdd) (defScope sAdd) .none kV5 dc5 pm5 an5 cd5 ct5), sl5⟩) (c5 : PySem.W.codeIn K cd5 "add" = true) (k5 : PySem.W.keepIn K (.ref f5) = true)
    (a6 : PySem.W.nsIn K mainGlobals "scale" = some (some (.ref f6))) (l6 : K.lookup f6 = some ⟨oc6, od6, .func (PySem.W.fnOf "scale" "scale" (defArgs sScale) (defBody sScale) (defScope sScale) .none kV6 dc6 pm6 an6 cd6 ct6), sl6⟩) (c6 : PySem.W.codeIn K cd6 "scale" = true) (k6 : PySem.W.keepIn K (.ref f6) = true)
    (a7 : PySem.W.nsIn K mainGlobals "subtract" = some (some (.ref f7))) (l7 : K.lookup f7 = some ⟨oc7, od7, .func (PySem.W.fnOf "subtract" "subtract" (defArgs sSubtract) (defBody sSubtract) (defScope sSubtract) .none kV7 dc7 pm7 an7 cd7 ct7), sl7⟩) (c7 : PySem.W.codeIn K cd7 "subtract" = true) (k7 : PySem.W.keepIn K (.ref f7) = true)
    (a8 : PySem.W.nsIn K mainGlobals "multiply" = some (some (.ref f8))) (l8 : K.lookup f8 = some ⟨oc8, od8, .func (PySem.W.fnOf "multiply" "multiply" (defArgs sMultiply) (defBody sMultiply) (defScope sMultiply) .none kV8 dc8 pm8 an8 cd8 ct8), sl8⟩) (c8 : PySem.W.codeIn K cd8 "multiply" = true) (k8 : PySem.W.keepIn K (.ref f8) = true)
    (a9 : PySem.W.nsIn K mainGlobals "content" = some (some (.ref f9))) (l9 : K.lookup f9 = some ⟨oc9, od9, .func (PySem.W.fnOf "content" "content" (defArgs sContent) (defBody sContent) (defScope sContent) .none kV9 dc9 pm9 an9 cd9 ct9), sl9⟩) (c9 : PySem.W.codeIn K cd9 "content" = true) (k9 : PySem.W.keepIn K (.ref f9) = true)
    (a10 : PySem.W.nsIn K mainGlobals "plain" = some (some (.ref f10))) (l10 : K.lookup f10 = some ⟨oc10, od10, .func (PySem.W.fnOf "plain" "plain" (defArgs sPlain) (defBody sPlain) (defScope sPlain) .none kV10 dc10 pm10 an10 cd10 ct10), sl10⟩) (c10 : PySem.W.codeIn K cd10 "plain" = true) (k10 : PySem.W.keepIn K (.ref f10) = true)
    (a11 : PySem.W.nsIn K mainGlobals "shifted" = some (some (.ref f11))) (l11 : K.lookup f11 = some ⟨oc11, od11, .func (PySem.W.fnOf "shifted" "shifted" (defArgs sShifted) (defBody sShifted) (defScope sShifted) .none kV11 dc11 pm11 an11 cd11 ct11), sl11⟩) (c11 : PySem.W.codeIn K cd11 "shifted" = true) (k11 : PySem.W.keepIn K (.ref f11) = true)
    (a12 : PySem.W.nsIn K mainGlobals "false_rest" = some (some (.ref f12))) (l12 : K.lookup f12 = some ⟨oc12, od12, .func (PySem.W.fnOf "false_rest" "false_rest" (defArgs sRest) (defBody sRest) (defScope sRest) .none kV12 dc12 pm12 an12 cd12 ct12), sl12⟩) (c12 : PySem.W.codeIn K cd12 "false_rest" = true) (k12 : PySem.W.keepIn K (.ref f12) = true)
    (a13 : PySem.W.nsIn K mainGlobals "common_divisor" = some (some (.ref f13))) (l13 : K.lookup f13 = some ⟨oc13, od13, .func (PySem.W.fnOf "common_divisor" "common_divisor" (defArgs sCommon) (defBody sCommon) (defScope sCommon) .none kV13 dc13 pm13 an13 cd13 ct13), sl13⟩) (c13 : PySem.W.codeIn K cd13 "common_divisor" = true) (k13 : PySem.W.keepIn K (.ref f13) = true)
    (a14 : PySem.W.nsIn K mainGlobals "quotient" = some (some (.ref f14))) (l14 : K.lookup f14 = some ⟨oc14, od14, .func (PySem.W.fnOf "quotient" "quotient" (defArgs sQuotient) (defBody sQuotient) (defScope sQuotient) .none kV14 dc14 pm14 an14 cd14 ct14), sl14⟩) (c14 : PySem.W.codeIn K cd14 "quotient" = true) (k14 : PySem.W.keepIn K (.ref f14) = true)
    (a15 : PySem.W.nsIn K mainGlobals "signed_content" = some (some (.ref f15))) (l15 : K.lookup f15 = some ⟨oc15, od15, .func (PySem.W.fnOf "signed_content" "signed_content" (defArgs sSigned) (defBody sSigned) (defScope sSigned) .none kV15 dc15 pm15 an15 cd15 ct15), sl15⟩) (c15 : PySem.W.codeIn K cd15 "signed_content" = true) (k15 : PySem.W.keepIn K (.ref f15) = true)
    (a16 : PySem.W.nsIn K mainGlobals "fraction" = some (some (.ref f16))) (l16 : K.lookup f16 = some ⟨oc16, od16, .func (PySem.W.fnOf "fraction" "fraction" (defArgs sFraction) (defBody sFraction) (defScope sFraction) .none kV16 dc16 pm16 an16 cd16 ct16), sl16⟩) (c16 : PySem.W.codeIn K cd16 "fraction" = true) (k16 : PySem.W.keepIn K (.ref f16) = true)
    (a17 : PySem.W.nsIn K mainGlobals "sum_of" = some (some (.ref f17))) (l17 : K.lookup f17 = some ⟨oc17, od17, .func (PySem.W.fnOf "sum_of" "sum_of" (defArgs sSum) (defBody sSum) (defScope sSum) .none kV17 dc17 pm17 an17 cd17 ct17), sl17⟩) (c17 : PySem.W.codeIn K cd17 "sum_of" = true) (k17 : PySem.W.keepIn K (.ref f17) = true)
    (a18 : PySem.W.nsIn K mainGlobals "difference_of" = some (some (.ref f18))) (l18 : K.lookup f18 = some ⟨oc18, od18, .func (PySem.W.fnOf "difference_of" "difference_of" (defArgs sDiff) (defBody sDiff) (defScope sDiff) .none kV18 dc18 pm18 an18 cd18 ct18), sl18⟩) (c18 : PySem.W.codeIn K cd18 "difference_of" = true) (k18 : PySem.W.keepIn K (.ref f18) = true)
    (a19 : PySem.W.nsIn K mainGlobals "product_of" = some (some (.ref f19))) (l19 : K.lookup f19 = some ⟨oc19, od19, .func (PySem.W.fnOf "product_of" "product_of" (defArgs sProd) (defBody sProd) (defScope sProd) .none kV19 dc19 pm19 an19 cd19 ct19), sl19⟩) (c19 : PySem.W.codeIn K cd19 "product_of" = true) (k19 : PySem.W.keepIn K (.ref f19) = true)
    (a20 : PySem.W.nsIn K mainGlobals "quotient_of" = some (some (.ref f20))) (l20 : K.lookup f20 = some ⟨oc20, od20, .func (PySem.W.fnOf "quotient_of" "quotient_of" (defArgs sQuot) (defBody sQuot) (defScope sQuot) .none kV20 dc20 pm20 an20 cd20 ct20), sl20⟩) (c20 : PySem.W.codeIn K cd20 "quotient_of" = true) (k20 : PySem.W.keepIn K (.ref f20) = true)
    (a21 : PySem.W.nsIn K mainGlobals "_law_draw" = some (some (.ref f21))) (l21 : K.lookup f21 = some ⟨oc21, od21, .func (PySem.W.fnOf "_law_draw" "_law_draw" (defArgs sDraw) (defBody sDraw) (defScope sDraw) .none kV21 dc21 pm21 an21 cd21 ct21), sl21⟩) (c21 : PySem.W.codeIn K cd21 "_law_draw" = true) (k21 : PySem.W.keepIn K (.ref f21) = true)
    (a22 : PySem.W.nsIn K mainGlobals "_law_trim" = some (some (.ref f22))) (l22 : K.lookup f22 = some ⟨oc22, od22, .func (PySem.W.fnOf "_law_trim" "_law_trim" (defArgs sLTrim) (defBody sLTrim) (defScope sLTrim) .none kV22 dc22 pm22 an22 cd22 ct22), sl22⟩) (c22 : PySem.W.codeIn K cd22 "_law_trim" = true) (k22 : PySem.W.keepIn K (.ref f22) = true)
    (a23 : PySem.W.nsIn K mainGlobals "_law_mul" = some (some (.ref f23))) (l23 : K.lookup f23 = some ⟨oc23, od23, .func (PySem.W.fnOf "_law_mul" "_law_mul" (defArgs sLMul) (defBody sLMul) (defScope sLMul) .none kV23 dc23 pm23 an23 cd23 ct23), sl23⟩) (c23 : PySem.W.codeIn K cd23 "_law_mul" = true) (k23 : PySem.W.keepIn K (.ref f23) = true)
    (a24 : PySem.W.nsIn K mainGlobals "_law_gcd" = some (some (.ref f24))) (l24 : K.lookup f24 = some ⟨oc24, od24, .func (PySem.W.fnOf "_law_gcd" "_law_gcd" (defArgs sLGcd) (defBody sLGcd) (defScope sLGcd) .none kV24 dc24 pm24 an24 cd24 ct24), sl24⟩) (c24 : PySem.W.codeIn K cd24 "_law_gcd" = true) (k24 : PySem.W.keepIn K (.ref f24) = true)
    (a25 : PySem.W.nsIn K mainGlobals "_law_content" = some (some (.ref f25))) (l25 : K.lookup f25 = some ⟨oc25, od25, .func (PySem.W.fnOf "_law_content" "_law_content" (defArgs sLCon) (defBody sLCon) (defScope sLCon) .none kV25 dc25 pm25 an25 cd25 ct25), sl25⟩) (c25 : PySem.W.codeIn K cd25 "_law_content" = true) (k25 : PySem.W.keepIn K (.ref f25) = true)
    (a26 : PySem.W.nsIn K mainGlobals "_law_bare" = some (some (.ref f26))) (l26 : K.lookup f26 = some ⟨oc26, od26, .func (PySem.W.fnOf "_law_bare" "_law_bare" (defArgs sBare) (defBody sBare) (defScope sBare) .none kV26 dc26 pm26 an26 cd26 ct26), sl26⟩) (c26 : PySem.W.codeIn K cd26 "_law_bare" = true) (k26 : PySem.W.keepIn K (.ref f26) = true)
    (a27 : PySem.W.nsIn K mainGlobals "_law_coprime" = some (some (.ref f27))) (l27 : K.lookup f27 = some ⟨oc27, od27, .func (PySem.W.fnOf "_law_coprime" "_law_coprime" (defArgs sCop) (defBody sCop) (defScope sCop) .none kV27 dc27 pm27 an27 cd27 ct27), sl27⟩) (c27 : PySem.W.codeIn K cd27 "_law_coprime" = true) (k27 : PySem.W.keepIn K (.ref f27) = true)
    (a28 : PySem.W.nsIn K mainGlobals "_law_is_list" = some (some (.ref f28))) (l28 : K.lookup f28 = some ⟨oc28, od28, .func (PySem.W.fnOf "_law_is_list" "_law_is_list" (defArgs sIsList) (defBody sIsList) (defScope sIsList) .none kV28 dc28 pm28 an28 cd28 ct28), sl28⟩) (c28 : PySem.W.codeIn K cd28 "_law_is_list" = true) (k28 : PySem.W.keepIn K (.ref f28) = true)
    (a29 : PySem.W.nsIn K mainGlobals "_law_is_fraction" = some (some (.ref f29))) (l29 : K.lookup f29 = some ⟨oc29, od29, .func (PySem.W.fnOf "_law_is_fraction" "_law_is_fraction" (defArgs sIsFrac) (defBody sIsFrac) (defScope sIsFrac) .none kV29 dc29 pm29 an29 cd29 ct29), sl29⟩) (c29 : PySem.W.codeIn K cd29 "_law_is_fraction" = true) (k29 : PySem.W.keepIn K (.ref f29) = true)
    (a30 : PySem.W.nsIn K mainGlobals "_law_small" = some (some (.ref f30))) (l30 : K.lookup f30 = some ⟨oc30, od30, .func (PySem.W.fnOf "_law_small" "_law_small" (defArgs sSmall) (defBody sSmall) (defScope sSmall) .none kV30 dc30 pm30 an30 cd30 ct30), sl30⟩) (c30 : PySem.W.codeIn K cd30 "_law_small" = true) (k30 : PySem.W.keepIn K (.ref f30) = true)
    (a31 : PySem.W.nsIn K mainGlobals "_law_poly" = some (some (.ref f31))) (l31 : K.lookup f31 = some ⟨oc31, od31, .func (PySem.W.fnOf "_law_poly" "_law_poly" (defArgs sLPoly) (defBody sLPoly) (defScope sLPoly) .none kV31 dc31 pm31 an31 cd31 ct31), sl31⟩) (c31 : PySem.W.codeIn K cd31 "_law_poly" = true) (k31 : PySem.W.keepIn K (.ref f31) = true)
    (a32 : PySem.W.nsIn K mainGlobals "_law_not_nought" = some (some (.ref f32))) (l32 : K.lookup f32 = some ⟨oc32, od32, .func (PySem.W.fnOf "_law_not_nought" "_law_not_nought" (defArgs sNotN) (defBody sNotN) (defScope sNotN) .none kV32 dc32 pm32 an32 cd32 ct32), sl32⟩) (c32 : PySem.W.codeIn K cd32 "_law_not_nought" = true) (k32 : PySem.W.keepIn K (.ref f32) = true)
    (a33 : PySem.W.nsIn K mainGlobals "_law_drawn_fraction" = some (some (.ref f33))) (l33 : K.lookup f33 = some ⟨oc33, od33, .func (PySem.W.fnOf "_law_drawn_fraction" "_law_drawn_fraction" (defArgs sDrawn) (defBody sDrawn) (defScope sDrawn) .none kV33 dc33 pm33 an33 cd33 ct33), sl33⟩) (c33 : PySem.W.codeIn K cd33 "_law_drawn_fraction" = true) (k33 : PySem.W.keepIn K (.ref f33) = true)
    (a34 : PySem.W.nsIn K mainGlobals "law" = some (some (.ref f34))) (l34 : K.lookup f34 = some ⟨oc34, od34, .func (PySem.W.fnOf "law" "law" (defArgs sLaw) (defBody sLaw) (defScope sLaw) .none kV34 dc34 pm34 an34 cd34 ct34), sl34⟩) (c34 : PySem.W.codeIn K cd34 "law" = true) (k34 : PySem.W.keepIn K (.ref f34) = true)
    (z0 : PySem.W.nsIn K mainGlobals "len" = some none)
    (z1 : PySem.W.nsIn K mainGlobals "max" = some none)
    (z2 : PySem.W.nsIn K mainGlobals "range" = some none)
    (z3 : PySem.W.nsIn K mainGlobals "enumerate" = some none)
    (z4 : PySem.W.nsIn K mainGlobals "list" = some none)
    (z5 : PySem.W.nsIn K mainGlobals "int" = some none)
    (z6 : PySem.W.nsIn K mainGlobals "abs" = some none)
    (z7 : PySem.W.nsIn K mainGlobals "isinstance" = some none)
    (z8 : PySem.W.nsIn K mainGlobals "tuple" = some none)
    (z9 : PySem.W.nsIn K mainGlobals "bool" = some none)
    (z10 : PySem.W.nsIn K mainGlobals "all" = some none)
    (z11 : PySem.W.nsIn K mainGlobals "repr" = some none)
    (zg : PySem.W.nsIn K mainGlobals "gcd" = some (some (.builtin "math.gcd"))) : ∃ T : All K mg, T.law.f = fa ∧ ∀ (s : Shared) (u : Value), BindsTo s T.law.fd ⟨[u], []⟩ [("_law_script", u)] := by
  have e := hfa.symm.trans (PySem.W.mg_of X G a34)
  cases e
  have m_len := PySem.W.mg_none_of X G z0
  have m_max := PySem.W.mg_none_of X G z1
  have m_range := PySem.W.mg_none_of X G z2
  have m_enumerate := PySem.W.mg_none_of X G z3
  have m_list := PySem.W.mg_none_of X G z4
  have m_int := PySem.W.mg_none_of X G z5
  have m_abs := PySem.W.mg_none_of X G z6
  have m_isinstance := PySem.W.mg_none_of X G z7
  have m_tuple := PySem.W.mg_none_of X G z8
  have m_bool := PySem.W.mg_none_of X G z9
  have m_all := PySem.W.mg_none_of X G z10
  have m_repr := PySem.W.mg_none_of X G z11
  have m_gcd := PySem.W.mg_of X G zg
  let pol : Pol K mg := { trimmed := (df_mk X G (fun _ _ _ _ _ _ us hl => match us, hl with | [_], _ => rfl) a3 l3 c3 k3), coef := (df_mk X G (fun _ _ _ _ _ _ us hl => match us, hl with | [_, _], _ => rfl) a4 l4 c4 k4), add := (df_mk X G (fun _ _ _ _ _ _ us hl => match us, hl with | [_, _], _ => rfl) a5 l5 c5 k5), scale := (df_mk X G (fun _ _ _ _ _ _ us hl => match us, hl with | [_, _], _ => rfl) a6 l6 c6 k6), subtract := (df_mk X G (fun _ _ _ _ _ _ us hl => match us, hl with | [_, _], _ => rfl) a7 l7 c7 k7), multiply := (df_mk X G (fun _ _ _ _ _ _ us hl => match us, hl with | [_, _], _ => rfl) a8 l8 c8 k8), content := (df_mk X G (fun _ _ _ _ _ _ us hl => match us, hl with | [_], _ => rfl) a9 l9 c9 k9), plain := (df_mk X G (fun _ _ _ _ _ _ us hl => match us, hl with | [_], _ => rfl) a10 l10 c10 k10), shifted := (df_mk X G (fun _ _ _ _ _ _ us hl => match us, hl with | [_, _], _ => rfl) a11 l11 c11 k11), rest := (df_mk X G (fun _ _ _ _ _ _ us hl => match us, hl with | [_, _], _ => rfl) a12 l12 c12 k12), common := (df_mk X G (fun _ _ _ _ _ _ us hl => match us, hl with | [_, _], _ => rfl) a13 l13 c13 k13), len := m_len, max := m_max, range := m_range, enum := m_enumerate, list := m_list, gcd := m_gcd }
  let quo : Quo K mg := { toPol := pol, number := (df_mk X G (fun _ _ _ _ _ _ us hl => match us, hl with | [_, _], _ => rfl) a0 l0 c0 k0), plus := (df_mk X G (fun _ _ _ _ _ _ us hl => match us, hl with | [_, _], _ => rfl) a1 l1 c1 k1), times := (df_mk X G (fun _ _ _ _ _ _ us hl => match us, hl with | [_, _], _ => rfl) a2 l2 c2 k2), quotient := (df_mk X G (fun _ _ _ _ _ _ us hl => match us, hl with | [_, _], _ => rfl) a14 l14 c14 k14) }
  let frs : Frs K mg := { toQuo := quo, signed := (df_mk X G (fun _ _ _ _ _ _ us hl => match us, hl with | [_], _ => rfl) a15 l15 c15 k15), fraction := (df_mk X G (fun _ _ _ _ _ _ us hl => match us, hl with | [_, _], _ => rfl) a16 l16 c16 k16) }
  let drw : Drw K mg := { draw := (df_mk X G (fun _ _ _ _ _ _ us hl => match us, hl with | [_, _], _ => rfl) a21 l21 c21 k21), small := (df_mk X G (fun _ _ _ _ _ _ us hl => match us, hl with | [_], _ => rfl) a30 l30 c30 k30), ltrim := (df_mk X G (fun _ _ _ _ _ _ us hl => match us, hl with | [_], _ => rfl) a22 l22 c22 k22), len := m_len, int := m_int, list := m_list, range := m_range }
  let drw2 : Drw2 K mg := { toDrw := drw, lpoly := (df_mk X G (fun _ _ _ _ _ _ us hl => match us, hl with | [_, _], _ => rfl) a31 l31 c31 k31), notn := (df_mk X G (fun _ _ _ _ _ _ us hl => match us, hl with | [_, _], _ => rfl) a32 l32 c32 k32) }
  let drw3 : Drw3 K mg := { toDrw2 := drw2, lmul := (df_mk X G (fun _ _ _ _ _ _ us hl => match us, hl with | [_, _], _ => rfl) a23 l23 c23 k23), drawn := (df_mk X G (fun _ _ _ _ _ _ us hl => match us, hl with | [_], _ => rfl) a33 l33 c33 k33) }
  let lk : Lk K mg := { gcd := (df_mk X G (fun _ _ _ _ _ _ us hl => match us, hl with | [_, _], _ => rfl) a24 l24 c24 k24), con := (df_mk X G (fun _ _ _ _ _ _ us hl => match us, hl with | [_], _ => rfl) a25 l25 c25 k25), bare := (df_mk X G (fun _ _ _ _ _ _ us hl => match us, hl with | [_], _ => rfl) a26 l26 c26 k26), cop := (df_mk X G (fun _ _ _ _ _ _ us hl => match us, hl with | [_, _], _ => rfl) a27 l27 c27 k27), ltrim := (df_mk X G (fun _ _ _ _ _ _ us hl => match us, hl with | [_], _ => rfl) a22 l22 c22 k22), len := m_len, int := m_int, list := m_list, range := m_range, abs := m_abs }
  let lk2 : Lk2 K mg := { toLk := lk, islist := (df_mk X G (fun _ _ _ _ _ _ us hl => match us, hl with | [_], _ => rfl) a28 l28 c28 k28), isfrac := (df_mk X G (fun _ _ _ _ _ _ us hl => match us, hl with | [_], _ => rfl) a29 l29 c29 k29), isi := m_isinstance, tup := m_tuple, bool := m_bool, all := m_all }
  refine ⟨{ toFrs := frs, dr := drw3, lk := lk2, sum := (df_mk X G (fun _ _ _ _ _ _ us hl => match us, hl with | [_, _], _ => rfl) a17 l17 c17 k17), diff := (df_mk X G (fun _ _ _ _ _ _ us hl => match us, hl with | [_, _], _ => rfl) a18 l18 c18 k18), prod := (df_mk X G (fun _ _ _ _ _ _ us hl => match us, hl with | [_, _], _ => rfl) a19 l19 c19 k19), quot := (df_mk X G (fun _ _ _ _ _ _ us hl => match us, hl with | [_, _], _ => rfl) a20 l20 c20 k20), law := (df_mk X G (fun _ _ _ _ _ _ us hl => match us, hl with | [_], _ => rfl) a34 l34 c34 k34), repr := m_repr }, rfl, fun s v => .of_eq rfl⟩
end Wt
open PySem PySem.W PyProof.Rows
set_option maxRecDepth 100000 in
set_option maxHeartbeats 0 in
theorem PySem.Challenge.cw_wheretrue_k60_whole_fractions_are_a_fiel_holds : PySem.Challenge.rw_wheretrue_k60_whole_fractions_are_a_fiel.Holds := by
  w_on; o_law; k_head; (case hw => w_witness2)
  k_fill
  refine Wt.walk_end (l := PySem.Challenge.rw_wheretrue_k60_whole_fractions_are_a_fiel) rfl rfl rfl (by decide +kernel) (fun w h Y => PySem.W.kIn_of Y) ?F
  case F =>
    intro w mg fa h KX G hmg
    refine' Wt.all_mk KX G hmg ?a0 ?l0 ?c0 ?k0 ?a1 ?l1 ?c1 ?k1 ?a2 ?l2 ?c2 ?k2 ?a3 ?l3 ?c3 ?k3 ?a4 ?l4 ?c4 ?k4 ?a5 ?l5 ?c5 ?k5 ?a6 ?l6 ?c6 ?k6 ?a7 ?l7 ?c7 ?k7 ?a8 ?l8 ?c8 ?k8 ?a9 ?l9 ?c9 ?k9 ?a10 ?l10 ?c10 ?k10 ?a11 ?l11 ?c11 ?k11 ?a12 ?l12 ?c12 ?k12 ?a13 ?l13 ?c13 ?k13 ?a14 ?l14 ?c14 ?k14 ?a15 ?l15 ?c15 ?k15 ?a16 ?l16 ?c16 ?k16 ?a17 ?l17 ?c17 ?k17 ?a18 ?l18 ?c18 ?k18 ?a19 ?l19 ?c19 ?k19 ?a20 ?l20 ?c20 ?k20 ?a21 ?l21 ?c21 ?k21 ?a22 ?l22 ?c22 ?k22 ?a23 ?l23 ?c23 ?k23 ?a24 ?l24 ?c24 ?k24 ?a25 ?l25 ?c25 ?k25 ?a26 ?l26 ?c26 ?k26 ?a27 ?l27 ?c27 ?k27 ?a28 ?l28 ?c28 ?k28 ?a29 ?l29 ?c29 ?k29 ?a30 ?l30 ?c30 ?k30 ?a31 ?l31 ?c31 ?k31 ?a32 ?l32 ?c32 ?k32 ?a33 ?l33 ?c33 ?k33 ?a34 ?l34 ?c34 ?k34 ?z0 ?z1 ?z2 ?z3 ?z4 ?z5 ?z6 ?z7 ?z8 ?z9 ?z10 ?z11 ?zg
    (case a0 => k_is); (case l0 => k_is); (case c0 => k_is); (case k0 => k_is)
    (case a1 => k_is); (case l1 => k_is); (case c1 => k_is); (case k1 => k_is)
    (case a2 => k_is); (case l2 => k_is); (case c2 => k_is); (case k2 => k_is)
    (case a3 => k_is); (case l3 => k_is); (case c3 => k_is); (case k3 => k_is)
    (case a4 => k_is); (case l4 => k_is); (case c4 => k_is); (case k4 => k_is)
    (case a5 => k_is); (case l5 => k_is); (case c5 => k_is); (case k5 => k_is)
    (case a6 => k_is); (case l6 => k_is); (case c6 => k_is); (case k6 => k_is)
    (case a7 => k_is); (case l7 => k_is); (case c7 => k_is); (case k7 => k_is)
    (case a8 => k_is); (case l8 => k_is); (case c8 => k_is); (case k8 => k_is)
    (case a9 => k_is); (case l9 => k_is); (case c9 => k_is); (case k9 => k_is)
    (case a10 => k_is); (case l10 => k_is); (case c10 => k_is); (case k10 => k_is)
    (case a11 => k_is); (case l11 => k_is); (case c11 => k_is); (case k11 => k_is)
    (case a12 => k_is); (case l12 => k_is); (case c12 => k_is); (case k12 => k_is)
    (case a13 => k_is); (case l13 => k_is); (case c13 => k_is); (case k13 => k_is)
    (case a14 => k_is); (case l14 => k_is); (case c14 => k_is); (case k14 => k_is)
    (case a15 => k_is); (case l15 => k_is); (case c15 => k_is); (case k15 => k_is)
    (case a16 => k_is); (case l16 => k_is); (case c16 => k_is); (case k16 => k_is)
    (case a17 => k_is); (case l17 => k_is); (case c17 => k_is); (case k17 => k_is)
    (case a18 => k_is); (case l18 => k_is); (case c18 => k_is); (case k18 => k_is)
    (case a19 => k_is); (case l19 => k_is); (case c19 => k_is); (case k19 => k_is)
    (case a20 => k_is); (case l20 => k_is); (case c20 => k_is); (case k20 => k_is)
    (case a21 => k_is); (case l21 => k_is); (case c21 => k_is); (case k21 => k_is)
    (case a22 => k_is); (case l22 => k_is); (case c22 => k_is); (case k22 => k_is)
    (case a23 => k_is); (case l23 => k_is); (case c23 => k_is); (case k23 => k_is)
    (case a24 => k_is); (case l24 => k_is); (case c24 => k_is); (case k24 => k_is)
    (case a25 => k_is); (case l25 => k_is); (case c25 => k_is); (case k25 => k_is)
    (case a26 => k_is); (case l26 => k_is); (case c26 => k_is); (case k26 => k_is)
    (case a27 => k_is); (case l27 => k_is); (case c27 => k_is); (case k27 => k_is)
    (case a28 => k_is); (case l28 => k_is); (case c28 => k_is); (case k28 => k_is)
    (case a29 => k_is); (case l29 => k_is); (case c29 => k_is); (case k29 => k_is)
    (case a30 => k_is); (case l30 => k_is); (case c30 => k_is); (case k30 => k_is)
    (case a31 => k_is); (case l31 => k_is); (case c31 => k_is); (case k31 => k_is)
    (case a32 => k_is); (case l32 => k_is); (case c32 => k_is); (case k32 => k_is)
    (case a33 => k_is); (case l33 => k_is); (case c33 => k_is); (case k33 => k_is)
    (case a34 => k_is); (case l34 => k_is); (case c34 => k_is); (case k34 => k_is)
    (case z0 => k_is); (case z1 => k_is); (case z2 => k_is); (case z3 => k_is); (case z4 => k_is); (case z5 => k_is); (case z6 => k_is); (case z7 => k_is); (case z8 => k_is); (case z9 => k_is); (case z10 => k_is); (case z11 => k_is); (case zg => k_is)
