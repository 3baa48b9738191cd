import PyProof.Rows.All
import Wide.All
import OpenK.AllK
import Wide.FinOn
import PyProof.EqAt
import PyProof.EqKinds
import PyProof.TupleCall
import KE.KExcInit
import KE.KExcIs
import KE.KLam
import HandS.ForMost
import HandS.ForExc
import HandS.Wide
import HandS.IsInst
import HandS.Lambda
import HandS.EndTab
import PySem.Challenge.RW_cubicway_k05_whole_powers
import HandS.Style
import HandS.Text
import HandS.Ends
import HandS.ExcIs
set_option Elab.async false
set_option linter.all false
set_option maxRecDepth 100000
set_option maxHeartbeats 4000000
/-! The plain law: fractions as pairs of ints in lowest terms; no program in sight. -/
namespace Cw
/-- the greatest divisor of both, its sign that of the bottom -/
def byI (t b : Int) : Int := if b > 0 then (Int.gcd t b : Int) else -(Int.gcd t b : Int)
/-- t over b in lowest terms, the bottom above 0 -/
def low (t b : Int) : Int × Int := (t / byI t b, b / byI t b)
structure Low (p : Int × Int) : Prop where
  pos : 0 < p.2
  cop : Int.gcd p.1 p.2 = 1
theorem gcd_pos {t b : Int} (h : b ≠ 0) : 0 < Int.gcd t b := Int.gcd_pos_iff.mpr (Or.inr h)
theorem by_ne {t b : Int} (h : b ≠ 0) : byI t b ≠ 0 := by
  have := gcd_pos (t := t) h
  unfold byI
  split <;> omega
theorem by_dvd_t (t b : Int) : byI t b ∣ t := by
  unfold byI
  split
  · exact Int.gcd_dvd_left ..
  · exact Int.neg_dvd.mpr (Int.gcd_dvd_left ..)
theorem by_dvd_b (t b : Int) : byI t b ∣ b := by
  unfold byI
  split
  · exact Int.gcd_dvd_right ..
  · exact Int.neg_dvd.mpr (Int.gcd_dvd_right ..)
theorem by_abs (t b : Int) : (byI t b).natAbs = Int.gcd t b := by
  unfold byI
  split <;> omega
theorem low_t (t b : Int) : byI t b * (low t b).1 = t := Int.mul_ediv_cancel' (by_dvd_t t b)
theorem low_b (t b : Int) : byI t b * (low t b).2 = b := Int.mul_ediv_cancel' (by_dvd_b t b)
theorem pos_right {a b : Int} (h : 0 < a * b) (ha : 0 < a) : 0 < b := by
  by_cases hb : 0 < b
  · exact hb
  · have z : a * b ≤ 0 := Int.mul_nonpos_of_nonneg_of_nonpos (Int.le_of_lt ha) (by omega)
    omega
theorem low_ok {t b : Int} (h : b ≠ 0) : Low (low t b) := by
  have hg := gcd_pos (t := t) h
  have h1 := low_t t b
  have h2 := low_b t b
  refine ⟨?_, ?_⟩
  · by_cases hb : 0 < b
    · have q : 0 < byI t b := by unfold byI; rw [if_pos hb]; omega
      have z : 0 < byI t b * (low t b).2 := by rw [h2]; exact hb
      exact pos_right z q
    · have q : byI t b < 0 := by unfold byI; rw [if_neg hb]; omega
      have z : 0 < (-(byI t b)) * (low t b).2 := by rw [Int.neg_mul, h2]; omega
      exact pos_right z (by omega)
  · have e : Int.gcd (byI t b * (low t b).1) (byI t b * (low t b).2) = (byI t b).natAbs * Int.gcd (low t b).1 (low t b).2 := Int.gcd_mul_left ..
    rw [h1, h2, by_abs] at e
    exact Nat.eq_of_mul_eq_mul_left hg (by rw [← e, Nat.mul_one])
theorem low_le (t b : Int) : (low t b).1.natAbs ≤ t.natAbs ∧ (low t b).2.natAbs ≤ b.natAbs := ⟨Int.natAbs_ediv_le_natAbs .., Int.natAbs_ediv_le_natAbs ..⟩
/-- p is t over b, in lowest terms -/
structure Is (p : Int × Int) (t b : Int) : Prop where
  low : Low p
  ne : b ≠ 0
  eq : p.1 * b = t * p.2
theorem dvd_cancel {a b c : Int} (g : Int.gcd a b = 1) (h : b ∣ a * c) : b ∣ c := by
  have z : b ∣ Int.gcd b a * c := Int.dvd_gcd_mul_iff_dvd_mul.mpr h
  rw [Int.gcd_comm, g] at z
  simpa using z
theorem low_unique {p q : Int × Int} (hp : Low p) (hq : Low q) (h : p.1 * q.2 = q.1 * p.2) : p = q := by
  have d1 : p.2 ∣ q.2 := dvd_cancel hp.cop ⟨q.1, by rw [h, Int.mul_comm]⟩
  have d2 : q.2 ∣ p.2 := dvd_cancel hq.cop ⟨p.1, by rw [← h, Int.mul_comm]⟩
  have e : p.2 = q.2 := Int.dvd_antisymm (Int.le_of_lt hp.pos) (Int.le_of_lt hq.pos) d1 d2
  have e1 : p.1 = q.1 := by
    rw [e] at h
    exact Int.eq_of_mul_eq_mul_right (Int.ne_of_gt hq.pos) h
  exact Prod.ext e1 e
theorem Is.mk' {t b : Int} (h : b ≠ 0) : Is (Cw.low t b) t b := ⟨low_ok h, h, by
  have h1 := low_t t b
  have h2 := low_b t b
  calc (Cw.low t b).1 * b = (Cw.low t b).1 * (byI t b * (Cw.low t b).2) := by rw [h2]
    _ = byI t b * (Cw.low t b).1 * (Cw.low t b).2 := by rw [← Int.mul_assoc, Int.mul_comm (Cw.low t b).1]
    _ = t * (Cw.low t b).2 := by rw [h1]⟩
theorem Is.self {p : Int × Int} (h : Low p) : Is p p.1 p.2 := ⟨h, Int.ne_of_gt h.pos, rfl⟩
theorem Is.ext {p q : Int × Int} {t b t' b' : Int} (hp : Is p t b) (hq : Is q t' b') (h : t * b' = t' * b) : p = q := by
  refine low_unique hp.low hq.low ?_
  have e1 := hp.eq
  have e2 := hq.eq
  have n : b * b' ≠ 0 := Int.mul_ne_zero hp.ne hq.ne
  refine Int.eq_of_mul_eq_mul_right n ?_
  calc p.1 * q.2 * (b * b') = (p.1 * b) * (q.2 * b') := by ac_rfl
    _ = (t * p.2) * (q.2 * b') := by rw [e1]
    _ = (t * b') * (p.2 * q.2) := by ac_rfl
    _ = (t' * b) * (p.2 * q.2) := by rw [h]
    _ = (t' * q.2) * (p.2 * b) := by ac_rfl
    _ = (q.1 * b') * (p.2 * b) := by rw [e2]
    _ = q.1 * p.2 * (b * b') := by ac_rfl
theorem Is.to {p : Int × Int} {t b t' b' : Int} (hp : Is p t b) (n : b' ≠ 0) (h : t * b' = t' * b) : Is p t' b' := by
  have e : p = Cw.low t' b' := hp.ext (Is.mk' n) h
  rw [e]
  exact Is.mk' n
theorem Is.is_low {p : Int × Int} {t b : Int} (hp : Is p t b) : p = Cw.low t b := hp.ext (Is.mk' hp.ne) rfl
theorem low_self {p : Int × Int} (h : Low p) : low p.1 p.2 = p := ((Is.self h).is_low).symm
/-- the product, the power, the turned one, as the program has them -/
def mul (p q : Int × Int) : Int × Int := low (p.1 * q.1) (p.2 * q.2)
def inv (p : Int × Int) : Int × Int := mul (1, 1) (low p.2 p.1)
def pw (p : Int × Int) (n : Nat) : Int × Int := low (p.1 ^ n) (p.2 ^ n)
def pz (p : Int × Int) (z : Int) : Int × Int := if 0 ≤ z then pw p z.natAbs else low (p.2 ^ z.natAbs) (p.1 ^ z.natAbs)
theorem low_one : Low (1, 1) := ⟨by decide, by decide⟩
theorem low_int (i : Int) : Low (i, 1) := ⟨by show (0 : Int) < 1; decide, Int.gcd_one ..⟩
theorem Low.ne {p : Int × Int} (h : Low p) : p.2 ≠ 0 := Int.ne_of_gt h.pos
theorem mul_ne {p q : Int × Int} (hp : Low p) (hq : Low q) : p.2 * q.2 ≠ 0 := Int.mul_ne_zero hp.ne hq.ne
theorem mul_low {p q : Int × Int} (hp : Low p) (hq : Low q) : Low (mul p q) := low_ok (mul_ne hp hq)
theorem pow_ne {a : Int} (h : a ≠ 0) (n : Nat) : a ^ n ≠ 0 := by
  induction n with
  | zero => simp
  | succ n ih => rw [Int.pow_succ]; exact Int.mul_ne_zero ih h
theorem pw_low {p : Int × Int} (hp : Low p) (n : Nat) : Low (pw p n) := low_ok (pow_ne hp.ne n)
theorem Is.mul {p q : Int × Int} {t b t' b' : Int} (hp : Is p t b) (hq : Is q t' b') : Is (Cw.mul p q) (t * t') (b * b') := by
  refine (Is.mk' (mul_ne hp.low hq.low)).to (Int.mul_ne_zero hp.ne hq.ne) ?_
  calc p.1 * q.1 * (b * b') = (p.1 * b) * (q.1 * b') := by ac_rfl
    _ = (t * p.2) * (t' * q.2) := by rw [hp.eq, hq.eq]
    _ = t * t' * (p.2 * q.2) := by ac_rfl
theorem Is.pw {p : Int × Int} {t b : Int} (hp : Is p t b) (n : Nat) : Is (Cw.pw p n) (t ^ n) (b ^ n) := by
  refine (Is.mk' (pow_ne hp.low.ne n)).to (pow_ne hp.ne n) ?_
  rw [← Int.mul_pow, ← Int.mul_pow, hp.eq]
theorem Is.top_ne {p : Int × Int} {t b : Int} (hp : Is p t b) (h : p.1 ≠ 0) : t ≠ 0 := fun z => by
  have e := hp.eq
  rw [z, Int.zero_mul] at e
  exact Int.mul_ne_zero h hp.ne e
theorem Is.turn {p : Int × Int} {t b : Int} (hp : Is p t b) (h : p.1 ≠ 0) : Is (Cw.low p.2 p.1) b t := by
  refine (Is.mk' h).to (hp.top_ne h) ?_
  rw [Int.mul_comm, ← hp.eq, Int.mul_comm]
theorem Is.inv {p : Int × Int} {t b : Int} (hp : Is p t b) (h : p.1 ≠ 0) : Is (Cw.inv p) b t := by
  have z := (Is.self low_one).mul (hp.turn h)
  simp only [Int.one_mul] at z
  exact z
/-- one turn of the loop of power -/
theorem pw_succ {p : Int × Int} (hp : Low p) (n : Nat) : mul (pw p n) p = pw p (n + 1) := by
  refine (((Is.self hp).pw n).mul (Is.self hp)).ext ((Is.self hp).pw (n + 1)) ?_
  rw [Int.pow_succ, Int.pow_succ]
theorem pw_zero (p : Int × Int) : pw p 0 = (1, 1) := by
  unfold pw
  rw [Int.pow_zero, Int.pow_zero]
  exact low_self low_one
/-- what the loop of power makes of the turned one -/
theorem pw_inv {p : Int × Int} (hp : Low p) (h : p.1 ≠ 0) (n : Nat) : pw (inv p) n = low (p.2 ^ n) (p.1 ^ n) :=
  (((Is.self hp).inv h).pw n).is_low
theorem inv_low {p : Int × Int} (hp : Low p) (h : p.1 ≠ 0) : Low (inv p) := ((Is.self hp).inv h).low
/-- top and bottom of the power by z -/
def tz (p : Int × Int) (z : Int) : Int := if 0 ≤ z then p.1 ^ z.natAbs else p.2 ^ z.natAbs
def bz (p : Int × Int) (z : Int) : Int := if 0 ≤ z then p.2 ^ z.natAbs else p.1 ^ z.natAbs
theorem pz_eq (p : Int × Int) (z : Int) : pz p z = low (tz p z) (bz p z) := by
  unfold pz tz bz pw
  split <;> rfl
theorem bz_ne {p : Int × Int} (hp : Low p) {z : Int} (h : 0 ≤ z ∨ p.1 ≠ 0) : bz p z ≠ 0 := by
  unfold bz
  split
  · exact pow_ne hp.ne _
  · rename_i q
    exact pow_ne (h.resolve_left q) _
theorem pz_is {p : Int × Int} (hp : Low p) {z : Int} (h : 0 ≤ z ∨ p.1 ≠ 0) : Is (pz p z) (tz p z) (bz p z) := by
  rw [pz_eq]
  exact Is.mk' (bz_ne hp h)
theorem pz_low {p : Int × Int} (hp : Low p) {z : Int} (h : 0 ≤ z ∨ p.1 ≠ 0) : Low (pz p z) := (pz_is hp h).low
theorem add_pow (p : Int × Int) (m n : Int) : tz p m * tz p n * bz p (m + n) = tz p (m + n) * (bz p m * bz p n) := by
  unfold tz bz
  by_cases h1 : 0 ≤ m <;> by_cases h2 : 0 ≤ n <;> by_cases h3 : 0 ≤ m + n <;> simp only [h1, h2, h3, if_true, if_false] <;> try omega
  · have e : (m + n).natAbs = m.natAbs + n.natAbs := by omega
    rw [e, Int.pow_add, Int.pow_add]
  · have e : m.natAbs = (m + n).natAbs + n.natAbs := by omega
    rw [e, Int.pow_add, Int.pow_add]; ac_rfl
  · have e : n.natAbs = (m + n).natAbs + m.natAbs := by omega
    rw [e, Int.pow_add, Int.pow_add]; ac_rfl
  · have e : n.natAbs = (m + n).natAbs + m.natAbs := by omega
    rw [e, Int.pow_add, Int.pow_add]; ac_rfl
  · have e : m.natAbs = (m + n).natAbs + n.natAbs := by omega
    rw [e, Int.pow_add, Int.pow_add]; ac_rfl
  · have e : (m + n).natAbs = m.natAbs + n.natAbs := by omega
    rw [e, Int.pow_add, Int.pow_add]
/-- powers of two counts together are those of their sum -/
theorem pz_add {p : Int × Int} (hp : Low p) (h : p.1 ≠ 0) (m n : Int) : mul (pz p m) (pz p n) = pz p (m + n) :=
  ((pz_is hp (.inr h)).mul (pz_is hp (.inr h))).ext (pz_is hp (.inr h)) (add_pow p m n)
theorem mul_top {p q : Int × Int} (hp : Low p) (hq : Low q) (h : p.1 ≠ 0) (h' : q.1 ≠ 0) : (mul p q).1 ≠ 0 := fun z => by
  have e := (Is.mk' (t := p.1 * q.1) (mul_ne hp hq)).eq
  have z' : (low (p.1 * q.1) (p.2 * q.2)).1 = 0 := z
  rw [z', Int.zero_mul] at e
  exact Int.mul_ne_zero (Int.mul_ne_zero h h') (low_ok (mul_ne hp hq)).ne e.symm
/-- of a product the product's -/
theorem pz_mul {p q : Int × Int} (hp : Low p) (hq : Low q) (h : p.1 ≠ 0) (h' : q.1 ≠ 0) (z : Int) : pz (mul p q) z = mul (pz p z) (pz q z) := by
  have m := (Is.self hp).mul (Is.self hq)
  refine Is.ext (t := if 0 ≤ z then (p.1 * q.1) ^ z.natAbs else (p.2 * q.2) ^ z.natAbs) (b := if 0 ≤ z then (p.2 * q.2) ^ z.natAbs else (p.1 * q.1) ^ z.natAbs) ?_ ((pz_is hp (.inr h)).mul (pz_is hq (.inr h'))) ?_
  · by_cases hz : 0 ≤ z
    · rw [if_pos hz, if_pos hz]
      unfold pz
      rw [if_pos hz]
      exact m.pw _
    · rw [if_neg hz, if_neg hz]
      unfold pz
      rw [if_neg hz, ← pw_inv m.low (mul_top hp hq h h')]
      exact (m.inv (mul_top hp hq h h')).pw _
  · unfold tz bz
    by_cases hz : 0 ≤ z <;> simp only [hz, if_true, if_false, Int.mul_pow] <;> ac_rfl
/-- of one of another of their product -/
theorem pz_pz {p : Int × Int} (hp : Low p) {m n : Int} (hm : 0 ≤ m) (hn : 0 ≤ n) : pz (pz p m) n = pz p (m * n) := by
  have hmn : 0 ≤ m * n := Int.mul_nonneg hm hn
  unfold pz
  rw [if_pos hm, if_pos hn, if_pos hmn]
  refine (((Is.self hp).pw _).pw _).ext ((Is.self hp).pw _) ?_
  rw [Int.natAbs_mul, Int.pow_mul, Int.pow_mul]
theorem pz_zero (p : Int × Int) : pz p 0 = (1, 1) := pw_zero p
theorem pz_nought : pz (0, 1) 20 = (0, 1) := by decide +kernel
/-! ### the greatest divisor by rests -/
theorem gcd_fmod (a b : Int) : Int.gcd b (a.fmod b) = Int.gcd a b := by
  rw [Int.fmod_def, Int.gcd_sub_mul_left_right, Int.gcd_comm]
theorem fmod_abs {a b : Int} (h : b ≠ 0) : (a.fmod b).natAbs < b.natAbs := by
  by_cases hb : 0 < b
  · have h1 := Int.fmod_nonneg_of_pos a hb
    have h2 := Int.fmod_lt_of_pos a hb
    omega
  · have hb' : 0 < -b := by omega
    have h1 := Int.fmod_nonneg_of_pos (-a) hb'
    have h2 := Int.fmod_lt_of_pos (-a) hb'
    rw [Int.neg_fmod_neg] at h1 h2
    omega
/-! ### sizes -/
def Bd (k : Nat) (p : Int × Int) : Prop := p.1.natAbs < 2 ^ k ∧ p.2.natAbs < 2 ^ k
theorem Bd.mono {k j : Nat} {p : Int × Int} (h : Bd k p) (l : k ≤ j) : Bd j p := by
  have := Nat.pow_le_pow_right (n := 2) (by decide) l
  exact ⟨by have := h.1; omega, by have := h.2; omega⟩
theorem low_bd {t b : Int} {k : Nat} (ht : t.natAbs < 2 ^ k) (hb : b.natAbs < 2 ^ k) : Bd k (low t b) := by
  have := low_le t b
  exact ⟨by omega, by omega⟩
theorem mul_lt {a b : Int} {k j : Nat} (ha : a.natAbs < 2 ^ k) (hb : b.natAbs < 2 ^ j) : (a * b).natAbs < 2 ^ (k + j) := by
  rw [Int.natAbs_mul, Nat.pow_add]
  exact Nat.mul_lt_mul'' ha hb
theorem mul_bd {p q : Int × Int} {k j : Nat} (hp : Bd k p) (hq : Bd j q) : Bd (k + j) (mul p q) := low_bd (mul_lt hp.1 hq.1) (mul_lt hp.2 hq.2)
theorem pow_lt {a : Int} {k : Nat} (h : a.natAbs < 2 ^ k) (n : Nat) (hn : 0 < n) : (a ^ n).natAbs < 2 ^ (k * n) := by
  induction n with
  | zero => omega
  | succ n ih =>
    by_cases h0 : n = 0
    · subst h0
      simpa using h
    · rw [Int.pow_succ, Nat.mul_succ]
      exact mul_lt (ih (by omega)) h
theorem pow_lt' {a : Int} {k : Nat} (h : a.natAbs < 2 ^ k) (n : Nat) : (a ^ n).natAbs < 2 ^ (k * n + 1) := by
  by_cases h0 : n = 0
  · subst h0
    simp
  · have := pow_lt h n (by omega)
    have e : 2 ^ (k * n + 1) = 2 ^ (k * n) * 2 := Nat.pow_succ ..
    omega
theorem pw_bd {p : Int × Int} {k : Nat} (hp : Bd k p) (n : Nat) : Bd (k * n + 1) (pw p n) := low_bd (pow_lt' hp.1 n) (pow_lt' hp.2 n)
theorem pz_bd {p : Int × Int} {k : Nat} (hp : Bd k p) (z : Int) : Bd (k * z.natAbs + 1) (pz p z) := by
  unfold pz
  split
  · exact pw_bd hp _
  · exact low_bd (pow_lt' hp.2 _) (pow_lt' hp.1 _)
theorem inv_bd {p : Int × Int} {k : Nat} (hp : Bd k p) : Bd (1 + k) (inv p) := mul_bd ⟨by decide, by decide⟩ (low_bd hp.2 hp.1)
theorem gcd_lt {t b : Int} {k : Nat} (h : b ≠ 0) (hb : b.natAbs < 2 ^ k) : Int.gcd t b < 2 ^ k := by
  have h1 : Int.gcd t b ∣ b.natAbs := Int.natAbs_dvd_natAbs.mpr (Int.gcd_dvd_right ..)
  have h2 := Nat.le_of_dvd (by omega) h1
  omega
end Cw
/-! Rules that the layer lacks. -/
namespace Cw
open PySem PySem.W PySem.Calls PyProof.Rows
/-! ### own errors whose __init__ stores its argument as why: any built-in base -/
def iA (p1 p2 : Pos) : Arguments := { posonlyargs := [], args := [{ arg := "self", annotation := none, pos := p1 }, { arg := "why", annotation := none, pos := p2 }], vararg := none, kwonlyargs := [], kw_defaults := [], kwarg := none, defaults := [] }
def iB (q1 q2 q3 q4 : Pos) : List Stmt := [.Assign [.Attribute (.Name "self" q1) "why" q2] (.Name "why" q3) q4]
def iS : Scope := { kind := .function, names := [(PySem.Str.ofString "self", .local), (PySem.Str.ofString "why", .local)], isGenerator := false, isCoroutine := false, more := [] }
/-- what the written part says of an own error's class at C and of its __init__ at fI -/
structure OwnX (K : Frag) (mg : Str → Option Value) (x : Str) (C fI : Addr) (bmB : List Value) (newId : String) : Prop where
  gC : mg x = some (.ref C)
  ini : excInitIn K C bmB newId = true
  over : excOver K C bmB = true
  tak : takerIn K C "why" = some none
  sa : findIn K (.ref C) "__setattr__" = some (some (.builtin "object.__setattr__"))
  iC : findIn K (.ref C) "__init__" = some (some (.ref fI))
  tC : typeIn K (.ref fI) = some (.type "function")
  kC : keepIn K (.ref C) = true
  exC : subIn K (.ref C) (.type "BaseException") = some true
  tyC : typeIn K (.ref C) = some (.type "type")
  hdC : hasDictIn K C = true
  fn : ∃ (oc : Value) (od : Option Addr) (doc pm : Value) (an : Option Addr) (cdv ct : Value) (osl : Array (Option Value)) (qual : Str) (p1 p2 q1 q2 q3 q4 : Pos),
    K.lookup fI = some ⟨oc, od, .func (fnOf "__init__" qual (iA p1 p2) (iB q1 q2 q3 q4) iS .none .none doc pm an cdv ct), osl⟩ ∧ codeIn K cdv qual = true
theorem one_fits (v : Value) : [v].length ≤ sizeLine := by
  rw [sizeLine_eq]
  exact (by decide : 1 ≤ 16777216)
theorem ld_own {M : Model} {s : Shared} {name : Str} {scope : Scope} {L a : Addr} {cd : Value} {m : Str → Option Value} {x : Str} {pos : Pos} {v : Value} {Q : Value → Shared → Prop} {A : Around} {E : Value → Shared → Prop} (hn : s.heap.Ns L m) (hv : m x = some v) (h : Q v s)
    (hk : scope.kind = .function := by rfl) (hl : (envOfC name scope L a cd).kindOf x = some .local := by rfl) (hd : (x == ("__debug__" : Str)) = false := by decide) :
    wpAny M A (eval (.Name x pos) (envOfC name scope L a cd)) Q E s := wpAny_Name (wpAny_loadName_local hk hl hn hv h) hd
/-- the error's object behind its __init__ -/
structure Inited (h h' : Heap) (x C dx t1 : Addr) (v : Value) : Prop where
  keep : ∀ b o, b ≠ x → h.get? b = some o → h'.get? b = some o
  obj : h'.get? x = some { cls := .ref C, dict := some dx, data := .fields #[.ref t1, .none, .none, .none, .bool false, .none] }
  big : h.objs.size ≤ dx
  ne : dx ≠ x
  ns : h'.Ns1 dx (fun y => if y = "why" then some v else none)
/-- a made error -/
structure Made (h h' : Heap) (e C d : Addr) (v : Value) : Prop where
  keep : ∀ b o, h.get? b = some o → h'.get? b = some o
  new : h.objs.size ≤ e
  obj : ∃ oe vs, h'.get? e = some oe ∧ oe.cls = .ref C ∧ oe.dict = some d ∧ oe.data = .fields vs ∧ vs[1]? = some .none
  big : h.objs.size ≤ d
  ne : d ≠ e
  ns : h'.Ns1 d (fun y => if y = "why" then some v else none)
section
variable {prog : Program} {w : World} {A : Around} {E : Value → Shared → Prop} {R : Result → Shared → Prop} {s : Shared} {K : Frag} {mg : Str → Option Value} {xn : Str} {C fI : Addr} {bmB : List Value} {B newId initId : String}
/-- the first field of such an object: its dict is made -/
theorem store_first {hp : Heap} {g : Array GenState} {d : Drawn} {t : Nat} {os : OsState} {name : Str} {tk : Tok} {v : Value} {x : Addr} {fv : Array Value} (SF : StoreFacts B bmB "object.__setattr__" "object")
    (X : K.In hp) (hx : hp.get? x = some { cls := .ref C, data := .fields fv }) (ho : excOver K C bmB = true) (ht : takerIn K C name = some none) (hh : hasDictIn K C = true)
    (hq : ∀ h' tk' dx, (∀ b o, b ≠ x → hp.get? b = some o → h'.get? b = some o) → hp.objs.size ≤ dx → dx ≠ x → h'.get? x = some { cls := .ref C, dict := some dx, data := .fields fv } →
      h'.Ns1 dx (fun y => if y = name then some v else none) → R (.ok (.ret .none)) ⟨h', g, d, tk', os⟩) :
    codeAny (model prog w) A (.call (.builtin "object.__setattr__") ⟨[.ref x, .str name tk, v], []⟩) R ⟨hp, g, d, t, os⟩ := by
  have J : InstAt hp x { cls := .ref C, data := .fields fv } C none := ⟨hx, rfl, rfl, trivial⟩
  have hxs : x ≠ hp.objs.size := Nat.ne_of_lt (Heap.lt_size hx)
  obtain ⟨cd, hcd, hd⟩ := any_some hh
  have hcls : Looks (model prog w) hp (classData C) cd := looks_clsIn X hcd
  refine osa_openX (s := ⟨hp, g, d, t, os⟩) (od := none) SF X J ho ht fun b => ?_
  obtain ⟨nm, bs, mro, ns, qn, hdd, sn, sb, ab, col, del⟩ := cd
  dsimp only at hd
  subst hd
  show wpAny _ _ (Builtin.ObjectAttr.storeInOwnDict (.ref x) (.ref C) (.str name tk) name v b) _ _ _
  unfold Builtin.ObjectAttr.storeInOwnDict Builtin.ObjectAttr.ownDictForStores
  repeat (first | with_reducible refine HandSPX.store_in_new ?_ ?_ | with_reducible refine wpAny_loadPart_at hx ?_ | with_reducible refine hcls.at ?_ | wp_step)
  · exact ⟨_, #[], _, (Heap.get?_update_ne _ _ _ _ hxs.symm).trans (Heap.get?_push_at rfl rfl), rfl, fun e he => absurd he (by simp), fun _ => rfl⟩
  · intro h' tk' hn' hs
    have hx1 : (hp.push { cls := .type "dict", data := .dict #[] }).get? x = some { cls := .ref C, data := .fields fv } := Heap.get?_push_of_some _ hx
    refine hq h' tk' hp.objs.size (fun b o hb he => ?_) (Nat.le_refl _) hxs.symm ?_ hn'
    · exact (hs.2 b (Nat.ne_of_lt (Heap.lt_size he))).trans ((Heap.get?_update_ne _ _ _ _ hb).trans (Heap.get?_push_of_some _ he))
    · exact (hs.2 x hxs).trans (Heap.get?_update_self _ hx1 rfl)
theorem own_init (SF : StoreFacts B bmB "object.__setattr__" "object") (T : OwnX K mg xn C fI bmB newId) {x t0 : Addr} {v : Value} (X : K.In s.heap) (hlim : s.heap.NoLimit) (hx : s.heap.get? x = some (HandSPX.excO C t0)) (hroom : A.depth < recursionLimit)
    (hq : ∀ h' tk dx, Inited s.heap h' x C dx t0 v → R (.ok (.ret .none)) { s with heap := h', toks := tk }) :
    codeAny (model prog w) A (.call (.ref fI) ⟨[.ref x, v], []⟩) R s := by
  obtain ⟨oc, od, doc, pm, an, cdv, ct, osl, qual, p1, p2, q1, q2, q3, q4, ho, hcd⟩ := T.fn
  refine Att.call_fn (binds := [("self", .ref x), ("why", v)]) X hlim ho hcd hroom (BindsTo.of_eq (by first | rfl | with_unfolding_all rfl)) (by first | rfl | decide | with_unfolding_all rfl) (fun s1 IC => ?_) rfl rfl rfl
  obtain ⟨h1, tk1, rfl⟩ := IC.toInCall.same
  have k : ∀ b o, s.heap.get? b = some o → h1.get? b = some o := IC.toInCall.keep
  have hn := IC.toInCall.ns
  have X1 : K.In h1 := X.keeps k
  have hx1 := k _ _ hx
  show wpAny _ _ (execs _ _) _ _ _
  refine wpAny_execs_cons (plainObj_wpAny_Assign_Attribute ?_)
  refine ld_own (v := v) hn (by first | rfl | with_unfolding_all rfl | kernel_rfl) (ld_own (v := .ref x) hn (by first | rfl | with_unfolding_all rfl | kernel_rfl) ?_)
  refine set_plain X1 (ox := HandSPX.excO C t0) (od := none) ⟨hx1, rfl, rfl, trivial⟩ T.sa ?_
  refine store_first SF X1 hx1 T.over T.tak T.hdC (fun h3 tk3 dx k3 dn dne hx3 hn3 => ?_)
  show wpAny _ _ (execs _ _) _ _ _
  have z : s.heap.objs.size < h1.objs.size := hn.lt
  exact wpAny_execs_nil (hq h3 tk3 dx ⟨fun b o hb e => k3 b o hb (k b o e), hx3, Nat.le_of_lt (Nat.lt_of_lt_of_le z dn), dne, hn3⟩)
theorem own_made (F : ExcBaseFacts B newId initId bmB) (SF : StoreFacts B bmB "object.__setattr__" "object") (T : OwnX K mg xn C fI bmB newId) {v : Value} (X : K.In s.heap) (hlim : s.heap.NoLimit) (hroom : A.depth + 1 < recursionLimit)
    (hq : ∀ h' tk e d, Made s.heap h' e C d v → R (.ok (.ret (.ref e))) { s with heap := h', toks := tk }) :
    codeAny (model prog w) A (.call (.ref C) ⟨[v], []⟩) R s := by
  obtain ⟨nm, N, qn, bs, bm, hdct, sn, sub, ab, col, dd, k0, k1, k2, k3, k5, hC, hT⟩ := excInit_of X T.ini
  obtain ⟨hp, g, dr, tk, os⟩ := s
  have k : ∀ b o, hp.get? b = some o → ((hp.push (kdv_tup [v])).push (HandSPX.excO C hp.objs.size)).get? b = some o := fun b o e => Heap.get?_push_of_some _ (Heap.get?_push_of_some _ e)
  have hget : ((hp.push (kdv_tup [v])).push (HandSPX.excO C hp.objs.size)).get? (hp.objs.size + 1) = some (HandSPX.excO C hp.objs.size) := by heap_get
  refine HandSPX.call_own F hT hC (looks_findIn X T.iC) (fun self => bind_fn X self T.tC) (one_fits v) ?_
  refine own_init SF (s := ⟨(hp.push (kdv_tup [v])).push (HandSPX.excO C hp.objs.size), g, dr, tk, os⟩) T (X.keeps k) (hlim.keeps k) hget ?_ fun h' tk' dx ⟨k', hx, dn, dne, hns⟩ => ?_
  · show A.depth + 1 < recursionLimit
    exact hroom
  · have old : ∀ b o, hp.get? b = some o → h'.get? b = some o := fun b o e => k' b o (Nat.ne_of_lt (Nat.lt_succ_of_lt (Heap.lt_size e))) (k b o e)
    have z : hp.objs.size + 1 + 1 ≤ dx := by
      first
        | (simpa only [Heap.size_push] using dn)
        | exact dn
        | (have q := dn; rw [Heap.size_push, Heap.size_push] at q; exact q)
    exact ⟨rfl, hq h' tk' (hp.objs.size + 1) dx ⟨old, Nat.le_succ _, ⟨_, _, hx, rfl, rfl, rfl, rfl⟩, Nat.le_trans (Nat.le_trans (Nat.le_succ _) (Nat.le_succ _)) z, dne, hns⟩⟩
end
end Cw

namespace Cw
open PySem PySem.Spec PyProof.Rows L2
section
variable {X : Cx} {C fI : Addr} {B newId initId : String} {bmB : List Value}
abbrev St := L2.St
/-- x(e), x an own error's class: a new error, whose own dict holds why -/
def tMkX (C : Addr) (ta : TA) : St → Hp → XK → Prop := fun σ H Q => ta σ H fun vs H1 => ∃ v, vs = [v] ∧ ∀ d, H1 d = none → Q (.ref C) (some d) (upd H1 d (.xd [(("why" : Str), v)]))
theorem relO_why {v : V} {v' : Value} (r : RelV v v') (f : Str) : RelO (List.lookup f [(("why" : Str), v)]) (if f = "why" then some v' else none) := by
  by_cases hw : f = "why"
  · subst hw
    rw [if_pos rfl, show List.lookup ("why" : Str) [(("why" : Str), v)] = some v by simp [List.lookup]]
    exact r
  · have qw : (f == ("why" : Str)) = false := by simpa using hw
    rw [if_neg hw, show List.lookup f [(("why" : Str), v)] = none by simp [List.lookup, qw]]
    trivial
theorem pmk_x {x : Str} {a : Expr} {ta : TA} {p pos : Pos} {k : Nat} (F : ExcBaseFacts B newId initId bmB) (SF : StoreFacts B bmB "object.__setattr__" "object") (T : OwnX X.K X.mg x C fI bmB newId) (hr : Room k X.A) (ha : PA X [a] ta) (hg : Gl X x := by rfl) (hdb : (x == ("__debug__" : Str)) = false := by decide)
    (he : starEach (a :: []) X.env = (false, eval a X.env) :: starEach [] X.env := by rfl) (hpl : (backTo pos (starEach [] X.env)).any (·.1) = false := by rfl) :
    PMk X (.Call (.Name x p) [a] [] pos) (tMkX C ta) := by
  intro pins s σ H Q I h
  refine wpAny_Call_Name_kw (ld_glob I hg T.gC ?_ hdb)
  refine PySem.W.callWith_K (h₀ := X.base) I.ok.mod.kin T.kC (thn (ha.run pos pins s σ H _ I h) fun us s1 hh => ?_) he hpl
  obtain ⟨vs, H1, I1, r1, v, rfl, q1⟩ := hh
  obtain ⟨v', rfl, rv⟩ := vals1 r1
  refine ⟨I1.kIn, ?_⟩
  show wpAny _ _ (call (.ref C) [v']) _ _ _
  have hlim := I1.nolimit
  obtain ⟨hp, g, dr, tk, os⟩ := s1
  refine wpAny_call (own_made F SF T I1.kIn hlim (by have := hr.dp; omega) fun h' tk' e d M => ?_)
  show MkP X pins σ Q (.ref e) ⟨h', g, dr, tk', os⟩
  obtain ⟨oe, fv, hoe, hc, hd, hdat, h1⟩ := M.obj
  have hns := M.ns
  obtain ⟨G, g1, g2⟩ := restrict h' fun b => decide (b ≠ e)
  have gk : ∀ b, b ≠ e → G.get? b = h'.get? b := fun b hb => g1 b (decide_eq_true hb)
  have ge : G.get? e = none := g2 e (by simp)
  have old : ∀ b o, hp.get? b = some o → G.get? b = some o := fun b o q => (gk b (Nat.ne_of_lt (Nat.lt_of_lt_of_le (Heap.lt_size q) M.new))).trans (M.keep b o q)
  have ob : ObjOk X.prog X.w (upd H1 d (.xd [(("why" : Str), v)])) G d (.xd [(("why" : Str), v)]) := ⟨_, hns.at (fun o q => (gk d M.ne).trans q), fun f => relO_why rv f⟩
  have J : Inv X pins σ (upd H1 d (.xd [(("why" : Str), v)])) ⟨G, g, dr, tk', os⟩ := I1.laid (t' := tk') old M.big ob
  refine ⟨e, oe, fv, ⟨G, g, dr, tk', os⟩, _, .ref C, some d, rfl, J, fun b o q => ?_, ge, hoe, ⟨hc, hd⟩, hdat, h1, ?_, rfl, I1.bare, raises_own T.exC T.tyC, q1 d (I1.hok.fresh M.big)⟩
  · by_cases hb : b = e
    · have q' : G.get? b = some o := q
      rw [hb, ge] at q'; cases q'
    · exact (gk b hb).symm.trans q
  · rw [upd_ne (Ne.symm M.ne)]
    exact I1.hok.fresh M.new
/-- raise x(e) -/
def tRaX (C : Addr) (W : WX) (ta : TA) : TS := fun _ σ H => tMkX C ta σ H fun cls d H' => W cls d σ H'
theorem ps_raX {x : Str} {a : Expr} {ta : TA} {W : WX} {p pos pos2 : Pos} {k : Nat} (hc : X.calm = true) (F : ExcBaseFacts B newId initId bmB) (SF : StoreFacts B bmB "object.__setattr__" "object") (T : OwnX X.K X.mg x C fI bmB newId) (hr : Room k X.A) (tk : Takes X W) (ha : PA X [a] ta) (hg : Gl X x := by rfl) (hdb : (x == ("__debug__" : Str)) = false := by decide)
    (he : starEach (a :: []) X.env = (false, eval a X.env) :: starEach [] X.env := by rfl) (hpl : (backTo pos (starEach [] X.env)).any (·.1) = false := by rfl) :
    PS X (.Raise (some (.Call (.Name x p) [a] [] pos)) none pos2) (tRaX C W ta) := ps_raise hc tk (pmk_x F SF T hr ha hg hdb he hpl)
/-- f(k = e, ..): keywords alone -/
theorem pe_kw0 {CX : CXT} {k : Nat} {f : Addr} {fd : FuncData} {ps ks : List Str} {sp : Sp} {E : XK} {x : Str} {p pos : Pos} {kws : List Keyword} {tk : TA} {g : List Value → List Value → List Value} {gV : List V → List V → List V}
    (F : FnOk X.prog X.w X.K X.mg X.base CX k f fd ps sp) (hr : Room k X.A) (hg : Gl X x) (hm : X.mg x = some (.ref f)) (hk : PySem.W.keepIn X.K (.ref f) = true) (hb : KBinds X.K fd ps ks g gV) (hx : Passes CX X E)
    (hkw : PK X kws tk) (hall : (backToKw pos (keywordEach kws X.env)).all (·.1.isSome) = true := by rfl) (hks : (backToKw pos (keywordEach kws X.env)).filterMap (·.1) = ks := by rfl)
    (hdb : (x == ("__debug__" : Str)) = false := by decide) (hpl : ((backTo pos (starEach [] X.env)).any (·.1) || (backToKw pos (keywordEach kws X.env)).any (·.1.isNone)) = false := by rfl) :
    PE X (.Call (.Name x p) [] kws pos) (tCallK sp gV E tNil tk) := by
  refine ⟨fun pins s σ H Q I h => ?_⟩
  refine wpAny_Call_Name_kw (ld_glob I hg hm ?_ hdb)
  refine PySem.W.callWith_KW0 (h₀ := X.base) I.ok.mod.kin hk hall ?_ hpl
  refine thn (hkw.run pos pins s σ H _ I h) fun ws s2 ⟨zs, H2, I2, rz, q2⟩ => ⟨I2.kIn, ?_⟩
  rw [hks]
  exact run_fnk (us := []) (vs := []) F hr hb hx I2 .nil rz q2
/-- a // b, b of any sign, below 2 ^ 9000 -/
def CDivZ : Int → Int → Prop := fun _ j => j ≠ 0 ∧ j.natAbs.log2 < 9000
theorem op_fdivZ : OpR X (binaryOp .FloorDiv) (rI CDivZ fun i j => .int (i.fdiv j)) := opI fun i j _ _ _ _ _ hc q => floordiv_int hc.1 q (.inl (PyProof.noPylong_of_log2 hc.2))
theorem div_z {i j : Int} {b : Nat} (h : j ≠ 0) (hb : j.natAbs < 2 ^ b) (h0 : 0 < b) (h9 : b ≤ 9000) : CDivZ i j := ⟨h, Nat.lt_of_lt_of_le (PySem.Flt.log2_lt_of h0 hb) h9⟩
end
end Cw
/-! Rules that the layer lacks: an error kept behind its clause; repr of great numbers. -/
namespace Cw
open PySem PySem.Spec PyProof.Rows L2
/-- at a: an exception of the class cls, its own dict at d -/
def xo (a : Addr) (cls : Value) (d : Option Addr) : HO := .ext fun h => ∃ (oe : Obj) (vs : Array Value), h.get? a = some oe ∧ oe.cls = cls ∧ oe.dict = d ∧ oe.data = .fields vs
theorem xo_at {P : Program} {w : World} {H : Hp} {h : Heap} {a : Addr} {cls : Value} {d : Option Addr} (k : HOk P w H h) (e : H a = some (xo a cls d)) : ∃ (oe : Obj) (vs : Array Value), h.get? a = some oe ∧ oe.cls = cls ∧ oe.dict = d ∧ oe.data = .fields vs := by
  have z : ObjOk P w H h a (.ext fun h => ∃ (oe : Obj) (vs : Array Value), h.get? a = some oe ∧ oe.cls = cls ∧ oe.dict = d ∧ oe.data = .fields vs) := k a _ e
  exact z.1
section
variable {X : Cx} {pins : List (Addr × Obj)} {σ : St} {H : Hp} {s : Shared} {a : Addr} {oe : Obj} {vs : Array Value} {cls : Value} {d : Option Addr}
/-- what was pinned is tracked from now on -/
theorem kept_ok (J : L2.Inv X ((a, oe) :: pins) σ H s) (e1 : oe.cls = cls) (e2 : oe.dict = d) (e3 : oe.data = .fields vs) (h0 : X.s_0.heap.get? a = none) (hp : ∀ p ∈ X.pn ++ pins, p.1 ≠ a) : L2.Inv X pins σ (upd H a (xo a cls d)) s := by
  obtain ⟨ha, na, nL, nF, nC⟩ := J.pin (a, oe) (List.mem_append_right _ List.mem_cons_self)
  have ha : s.heap.get? a = some oe := ha
  have na : H a = none := na
  have nA : ∀ {b : Addr} {u : HO}, H b = some u → b ≠ a := fun q => ne_of_none q na
  refine ⟨J.ok, J.os, J.bare, ⟨J.base.keep, J.base.slot, fun b o q n hx => ?_, J.base.there, fun b xs q => ?_, fun b o u q => ?_, fun b ps q => ?_⟩, J.loc, J.cell, ?_, fun x c q => ?_, fun p hp' => ?_, fun b o q => ?_, J.len⟩
  · have nb : b ≠ a := fun z => by rw [z, h0] at q; cases q
    rw [upd_ne nb]
    exact J.base.free b o q n hx
  · have z := J.base.tups b xs q
    rw [upd_ne (nA z)]; exact z
  · have z := J.base.frzs b o u q
    rw [upd_ne (nA z)]; exact z
  · obtain ⟨more, z⟩ := J.base.tbls b ps q
    exact ⟨more, by rw [upd_ne (nA z)]; exact z⟩
  · rw [upd_ne (Ne.symm nL)]; exact J.free
  · obtain ⟨v, o, ho, hd⟩ := J.cell x c q
    have nc : c ≠ a := fun z => by
      rw [z, ha] at ho
      cases ho
      exact nC v hd
    rw [upd_ne nc]; exact J.freeC x c q
  · have hp2 : p ∈ X.pn ++ (a, oe) :: pins := by
      rcases List.mem_append.mp hp' with z | z
      · exact List.mem_append_left _ z
      · exact List.mem_append_right _ (List.mem_cons_of_mem _ z)
    obtain ⟨q1, q2, q3, q4, q5⟩ := J.pin p hp2
    exact ⟨q1, by rw [upd_ne (hp p hp')]; exact q2, q3, q4, q5⟩
  · by_cases hb : b = a
    · subst hb
      rw [upd_same] at q
      cases q
      exact ⟨⟨oe, vs, ha, e1, e2, e3⟩, ⟨oe, ha⟩, fun h1 h2 ⟨o, w', x1, x2, x3, x4⟩ k => ⟨o, w', k _ x1, x2, x3, x4⟩⟩
    · rw [upd_ne hb] at q
      exact (J.hok b o q).stay (fun _ _ _ z => z) (fun c z => by rw [upd_ne (nA z)]; exact z) fun c xs z => by rw [upd_ne (nA z)]; exact z
end
/-- what the clause «except (x1, x2) as n» wishes of an exception of the body, which it always takes: slot i is n's; behind the suite the exception is tracked -/
def wPair (K : PySem.W.Frag) (c1 c2 : Value) (i : Nat) (ts : Addr → Value → Option Addr → TS) (D : Ends) : WX := fun cls d σ H =>
  PySem.W.exmAny K cls [c1, c2] = some true ∧ ∀ a, H a = none → ts a cls d { nx := fun σ' H' => D.nx (σ'.set i none) (upd H' a (xo a cls d)), rt := fun _ _ => False } (σ.set i (some (.ref a))) H
section
variable {X : Cx} {x1 x2 n : Str} {c1 c2 : Value} {i kk : Nat} {body suite : List Stmt} {b₀ : Stmt} {np1 np2 np pos pos' : Pos} {tb : WX → TS} {ts : Addr → Value → Option Addr → TS}
theorem name_is {Y : Cx} {x : Str} {c : Value} {p : Pos} {pins : List (Addr × Obj)} {σ : St} {H : Hp} {s : Shared} {Q : Value → Shared → Prop} {E : Value → Shared → Prop} (hc : Names Y x c) (I : L2.Inv Y pins σ H s) (q : Q c s) : wpAny (model Y.prog Y.w) Y.A (eval (.Name x p) Y.env) Q E s := by
  obtain ⟨hg, hdbg, hm | ⟨hm, hv, hnn⟩⟩ := hc
  · exact ld_glob I hg hm q hdbg
  · exact ld_blt I hg hm hv q hnn hdbg
theorem fly_kept {B h h' : Heap} {l : List Env} {e : Addr} {Z : Obj → Prop} (f : HandSPX.FlyingZ B l e Z h) (k : ∀ b o, h.get? b = some o → h'.get? b = some o) : HandSPX.FlyingZ B l e Z h' := by
  obtain ⟨f1, f2, f3, oe, ws, T, oT, ts, he, hz, hd, h1, hn, hne, hT, hdT, h3⟩ := f
  exact ⟨fun b o q => k b o (f1 b o q), f2, f3.of_keeps fun b o q _ => ⟨o, k b o q, rfl⟩, oe, ws, T, oT, ts, k _ _ he, hz, hd, h1, hn, hne, k _ _ hT, hdT, h3⟩
theorem ps_try_pair (hs : X.stack = X.env :: X.outer) (hf : X.env.frame = some X.env.locals) (hex : X.ex = []) (hN : X.N.Nodup) (hi : X.N[i]? = some n) (hln : X.env.kindOf n = some .local) (hc1 : Names X x1 c1) (hc2 : Names X x2 c2)
    (hb : ∀ (W : WX) (pn : List (Addr × Obj)) (xe : Value → Shared → Prop), Takes (X.tr pn xe) W → PassesOwn (model X.prog X.w) X.A X.env xe → PSs (X.tr pn xe) body (tb W))
    (hsu : ∀ (a : Addr) (oe : Obj) (cls : Value) (d : Option Addr) (pn : List (Addr × Obj)), Zc cls d oe → (∃ vs, oe.data = .fields vs) → PSs (X.suite a ((a, oe) :: pn)) (b₀ :: suite) (ts a cls d)) :
    PS X (.Try body [.ExceptHandler (some (.Tuple [.Name x1 np1, .Name x2 np2] kk np)) (some n) (b₀ :: suite) pos'] [] [] pos) (fun D σ H => tb (wPair X.K c1 c2 i ts D) D σ H) := by
  refine ⟨fun pins s σ H D I h => ?_⟩
  have ok := I.ok
  have hfr : X.A.frames = some (X.env :: X.outer) := by rw [ok.frames, hs]
  refine wpAny_Try_except ?_
  refine wpAny_mono ((hb (wPair X.K c1 c2 i ts D) (X.pn ++ pins) (fun e s1 => wpAny (model X.prog X.w) X.A (noteFrame e X.env) (fun _ s2 => wpAny (model X.prog X.w) X.A (setFlight e none) (fun _ s3 =>
    wpAny (model X.prog X.w) X.A (handleBy e X.env [.ExceptHandler (some (.Tuple [.Name x1 np1, .Name x2 np2] kk np)) (some n) (b₀ :: suite) pos']) (SP X pins D) X.xe s3) X.xe s2) X.xe s1) (fun u s' xx => ?_) PassesOwn.looking).run [] s σ H D (I.toTry _) h) (fun f s1 hsp => ?_) (fun e s1 he => he)
  · obtain ⟨a, B, sI, pins', σ', H', cls, d, rfl, J', nb, up, sky, na, os, ag, hm, hyes⟩ := xx
    have J : L2.Inv X pins σ' H' sI := J'.ofTry ok
    have sky' : Sky B (X.env :: X.outer) a (Zc cls d) X.env.locals s'.heap := by rw [← hs]; exact sky
    show wpAny (model X.prog X.w) X.A (noteFrame (.ref a) X.env) _ _ _
    refine Sky.land Zc.steady hfr hf sky' fun h3 fl3 up3 => ?_
    have J3 : L2.Inv X pins σ' H' { s' with heap := h3 } := J.landed nb fl3.1 (up.trans up3) os ag
    obtain ⟨oe3, vs3, he3, hz3, hd3⟩ := fl3.there
    have nfr : a ∉ frs (X.env :: X.outer) := fun hm => by
      obtain ⟨_, o', e', hnf⟩ := fl3.2.2.1.mem hm
      rw [he3] at e'
      cases e'
      exact hnf _ hd3
    have nL : a ≠ X.env.locals := fun z => nfr (List.mem_filterMap.mpr ⟨X.env, List.mem_cons_self, by rw [hf, z]⟩)
    have nF : a ∉ X.fs := fun hm => by
      obtain ⟨e, he, q⟩ := List.mem_filterMap.mp hm
      exact nfr (List.mem_filterMap.mpr ⟨e, List.mem_cons_of_mem _ he, q⟩)
    -- it is new
    have newI : sI.heap.get? a = none := by
      cases e : sI.heap.get? a with
      | none => rfl
      | some o =>
        have z := nb a o e (by rw [hs]; exact nfr)
        rw [fl3.2.1] at z
        cases z
    have new0 : X.s_0.heap.get? a = none := by
      cases e : X.s_0.heap.get? a with
      | none => rfl
      | some o =>
        obtain ⟨o', z⟩ := J.base.there a o e (by rw [hex]; simp)
        rw [newI] at z
        cases z
    have noP : ∀ p ∈ X.pn ++ pins, p.1 ≠ a := fun p hp z => by
      obtain ⟨q, _⟩ := J.pin p hp
      rw [z, newI] at q
      cases q
    have S3 := J3.suite he3 hd3 na nL nF
    refine wpAny_handleBy_cons (codeAny_handlers_test ?_) (by intro q; cases q)
    -- the test: a new tuple of both classes
    refine wpAny_Tuple ?_
    refine wpAny_items_cons (name_is (Y := X.suite a ((a, oe3) :: (X.pn ++ pins))) hc1 S3 ?_)
    refine wpAny_items_cons (name_is (Y := X.suite a ((a, oe3) :: (X.pn ++ pins))) hc2 S3 ?_)
    refine wpAny_items_nil ⟨by size_fits, ?_⟩
    have kp : ∀ b o, h3.get? b = some o → (h3.push { cls := .type "tuple", data := .seq [c1, c2].toArray }).get? b = some o := fun _ _ z => Heap.get?_push_of_some _ z
    generalize hh5 : h3.push { cls := .type "tuple", data := .seq [c1, c2].toArray } = h5 at kp
    have hT5 : h5.get? h3.objs.size = some { cls := .type "tuple", data := .seq [c1, c2].toArray } := by rw [← hh5]; exact Heap.get?_push_size h3 rfl
    have fl5 := fly_kept fl3 kp
    have up5 : s'.heap.UpToSlots h5 := up3.trans (Heap.UpToSlots.of_keeps kp)
    have LT : PySem.W.Looks (model X.prog X.w) h5 (typeOf (.ref a)) cls := fun A Q E s k q => wpAny_typeOf_ref (k _ _ (kp _ _ he3)) (by rw [hz3.1]; exact q)
    have LM := PySem.W.exm_tup2 (M := model X.prog X.w) (J3.kIn.keeps kp) LT hT5 hm
    show wpAny _ _ (excMatches (.ref a) (.ref h3.objs.size)) _ _ { s' with heap := h5 }
    refine LM.here ?_
    refine codeAny_handlers_suite_as ?_
    refine HandSPX.lands_againZ fl5 fun h4 fl4 up4 => ?_
    have J4 : L2.Inv X pins σ' H' { s' with heap := h4 } := J.landed nb fl4.1 ((up.trans up5).trans up4) os ag
    obtain ⟨oe4, vs4, he4, hz4, hd4⟩ := fl4.there
    have S4 := J4.suite he4 hd4 na nL nF
    refine store_ok (X := X.suite a ((a, oe4) :: (X.pn ++ pins))) (v := .ref a) S4 hN hi (.inl hln) rfl (fun s5 S5 => ?_) (.inr hln)
    refine wpAny_mono ((hsu a oe4 cls d (X.pn ++ pins) hz4 ⟨_, hd4⟩).run [] s5 _ H' _ S5 (hyes a na)) (fun f s6 hsp => ?_) (fun _ _ z => False.elim z)
    cases f with
    | next =>
      obtain ⟨σ6, H6, S6, q6⟩ := hsp
      have J6 : L2.Inv X ((a, oe4) :: pins) σ6 H6 s6 := ⟨ok, S6.os, S6.bare, S6.base, S6.loc, S6.cell, S6.free, S6.freeC, fun p hp => by
        refine S6.pin p (List.mem_append_left _ ?_)
        rcases List.mem_append.mp hp with z | z
        · exact List.mem_cons_of_mem _ (List.mem_append_left _ z)
        · rcases List.mem_cons.mp z with z | z
          · rw [z]; exact List.mem_cons_self
          · exact List.mem_cons_of_mem _ (List.mem_append_right _ z), S6.hok, S6.len⟩
      refine gone_ok J6 hN hi hln fun s7 J7 => ⟨_, _, kept_ok J7 hz4.1 hz4.2 hd4 new0 noP, q6⟩
    | brk =>
      obtain ⟨_, _, _, z⟩ := hsp
      exact False.elim z
    | cont =>
      obtain ⟨_, _, _, z⟩ := hsp
      exact False.elim z
    | ret u =>
      obtain ⟨_, _, _, _, _, z⟩ := hsp
      exact False.elim z
  · cases f with
    | next =>
      obtain ⟨σ', H', J', q⟩ := hsp
      exact wpAny_execs_nil ⟨σ', H', J'.ofTry ok, q⟩
    | brk =>
      obtain ⟨σ', H', J', q⟩ := hsp
      exact ⟨σ', H', J'.ofTry ok, q⟩
    | cont =>
      obtain ⟨σ', H', J', q⟩ := hsp
      exact ⟨σ', H', J'.ofTry ok, q⟩
    | ret u =>
      obtain ⟨v, σ', H', J', r, q⟩ := hsp
      exact ⟨v, σ', H', J'.ofTry ok, r, q⟩
end
/-- what isinstance asks of an own error's class -/
structure IsX (K : PySem.W.Frag) (D : Addr) : Prop where
  cl : (PySem.W.clsIn K D).isSome = true
  ga : PySem.W.findIn K (.ref D) "__getattribute__" = some (some (.builtin "BaseException.__getattribute__"))
  gg : PySem.W.findIn K (.ref D) "__getattr__" = some none
  sb : PySem.W.subIn K (.ref D) (.type "BaseException") = some true
  ca : PySem.W.findIn K (.ref D) "__class__" = some (some (.builtin "object.__class__"))
  gt : PySem.W.specialIn K (.builtin "object.__class__") "__get__" = some (some (.builtin "getset_descriptor.__get__"))
  tk : PySem.W.takesIn K (.builtin "object.__class__") = some true
  mr : PySem.W.mroIn K D (.type "object") = some true
/-- isinstance(e, C), e a kept error, C an own class -/
def rIsX (K : PySem.W.Frag) : List V → Hp → VK → Prop := fun xs H Q => ∃ (a D C d : Addr) (fs : List (Str × V)) (b : Bool), xs = [.ref a, .ref C] ∧ H a = some (xo a (.ref D) (some d)) ∧ H d = some (.xd fs) ∧ IsX K D ∧ PySem.W.kitOne K (.ref D) (.ref C) = some b ∧ Q (.bl b) H
theorem call_isX {X : Cx} : CallR X (.builtin "isinstance") (rIsX X.K) := by
  intro pins s σ H xs us Q I r h
  obtain ⟨a, D, C, d, fs, b, rfl, ha, hd, T, e, q⟩ := h
  obtain ⟨u1, u2, rfl, r1, r2⟩ := vals2 r
  cases (show u1 = Value.ref a from r1)
  cases (show u2 = Value.ref C from r2)
  obtain ⟨oe, vs, g1, g2, g3, g4⟩ := xo_at I.hok ha
  have x : ObjOk X.prog X.w H s.heap d (.xd fs) := I.hok d _ hd
  obtain ⟨mA, ⟨od, es, ep, ho, _⟩, _⟩ := x
  have J : PySem.W.InstAt s.heap a oe D (some od) := ⟨g1, g2, by unfold PySem.W.notCls; rw [g4] <;> rfl, by rw [g3]; exact ho⟩
  exact PySem.W.kia_one (PySem.W.kitx_exc T.cl T.ga T.gg T.sb T.ca T.gt T.tk T.mr) I.kIn J e (fun z => nomatch z) fun tk => ⟨.bl b, H, I.tok tk, rfl, q⟩
end Cw
/-! Fractions on the heap; their repr, however many figures up to 4,300. -/
namespace Cw
open PySem PySem.Spec PyProof.Rows L2
/-- v is the fraction p, as the heap stands -/
def Frac (H : Hp) (v : V) (p : Int × Int) : Prop := (p.2 = 1 ∧ v = .int p.1) ∨ (p.2 ≠ 1 ∧ ∃ a, v = .ref a ∧ H a = some (.tup [.int p.1, .int p.2]))
theorem Frac.ext {H H' : Hp} {v : V} {p : Int × Int} (f : Frac H v p) (k : ∀ b xs, H b = some (.tup xs) → H' b = some (.tup xs)) : Frac H' v p := by
  rcases f with ⟨h1, h2⟩ | ⟨h1, a, h2, h3⟩
  · exact .inl ⟨h1, h2⟩
  · exact .inr ⟨h1, a, h2, k _ _ h3⟩
theorem Frac.same {H H' : Hp} {v : V} {p : Int × Int} (f : Frac H v p) (k : Same H H') : Frac H' v p := f.ext fun b xs e => k b _ e
theorem Frac.int (H : Hp) (i : Int) : Frac H (.int i) (i, 1) := .inl ⟨rfl, rfl⟩
def shown (p : Int × Int) : Str := if p.2 = 1 then (toString p.1 : String) else tupleText [(toString p.1 : String), (toString p.2 : String)]
/-- few enough figures -/
def Sm (i : Int) : Prop := i.natAbs < 2 ^ 4100
theorem sm_lt {i : Int} (h : Sm i) : i.natAbs < 10 ^ 4300 := Nat.lt_of_lt_of_le h (by decide +kernel)
theorem sm_text {i : Int} (h : Sm i) : (Str.ofString (toString i)).length ≤ 4301 := by
  have e := int_text_length_le10 (k := 4300) (by decide) (sm_lt h)
  rw [PySem.ofString_length]
  exact e
theorem bd_sm {p : Int × Int} {k : Nat} (h : Bd k p) (hk : k ≤ 4100) : Sm p.1 ∧ Sm p.2 := h.mono hk
section
variable {prog : Program} {w : World} {A : Around} {E : Value → Shared → Prop} {s : Shared} {a : Int} {t : Tok}
theorem big_repr {Q : Value → Shared → Prop} (hn : s.heap.NoDigits) (hs : Sm a) (h : Q (.str (toString a) s.toks) { s with toks := s.toks + 1 }) :
    wpAny (model prog w) A (call (.builtin "int.__repr__") [.int a t]) Q E s := by
  have hlt := sm_lt hs
  refine wpAny_call_entry F.slot_int_repr (typeIs_int s a t) F.entry_int_repr ?_ (F.args_int_repr_1 _)
  unfold Builtin.«int.__repr__»
  show wpAny _ _ (do let r ← Builtin.overDigitLimit? a; _) _ _ s
  refine wpAny_bind (overDigitLimit_any hn (fun _ => ?_) (fun hge => absurd hlt (Nat.not_lt.mpr hge)))
  exact wpAny_bind (wpAny_mkStr (wpAny_pure ⟨_, rfl, h⟩) (int_text_fits10 hlt))
theorem reprK_big {h₀ : Heap} (hn : h₀.NoDigits) (hs : Sm a) : ReprK prog w [] h₀ 0 (.int a t) (toString a) := by
  intro base hb A g E s Q hg hcl hu hk hQ
  rw [pyReprUnder_leaf (v := .int a t) (by omega) (fun _ e => nomatch e)]
  unfold pyRepr
  refine wpAny_bind (wpAny_pyReprObj_slot (by omega) (typeIs_int s a t) F.slot_int_repr.toG (big_repr (hn.keeps hk) hs ⟨_, _, rfl, wpAny_pure ?_⟩))
  exact hQ s.heap _ fun _ _ e => e
end
section
variable {P : Program} {w : World} {H : Hp} {h : Heap} {v : V} {u : Value} {p : Int × Int}
theorem tup_text {i j : Int} (hi : Sm i) (hj : Sm j) : (tupleText [(toString i : String), (toString j : String)]).length ≤ 9000 := by
  have e1 := sm_text hi
  have e2 := sm_text hj
  generalize Str.ofString (toString i) = x at e1
  generalize Str.ofString (toString j) = y at e2
  have z := join_length_add [x, y] (by simp)
  have z2 : piled [x, y] = x.length + 2 + (y.length + 2) := by simp [piled]
  have z3 : (tupleText [x, y]).length = 1 + (Str.join ", " [x, y]).length + 1 := by
    unfold tupleText
    rw [strLen_append, strLen_append]
    rfl
  omega
theorem shown_len (hs : Sm p.1 ∧ Sm p.2) : (shown p).length ≤ 9000 := by
  unfold shown
  split
  · exact Nat.le_trans (sm_text hs.1) (by decide)
  · exact tup_text hs.1 hs.2
theorem reprAllK_pair {i j : Int} {ti tj : Tok} (hn : h.NoDigits) (hi : Sm i) (hj : Sm j) : ReprAllK P w [] h 0 [.int i ti, .int j tj] [(toString i : String), (toString j : String)] :=
  .cons (reprK_big hn hi) (.cons (reprK_big hn hj) .nil)
theorem two_ints {i j : Int} {us : List Value} (r : Vals [.int i, .int j] us) : ∃ ti tj, us = [.int i ti, .int j tj] := by
  obtain ⟨u1, u2, rfl, ⟨ti, r1⟩, ⟨tj, r2⟩⟩ := vals2 r
  exact ⟨ti, tj, by rw [r1, r2]⟩
theorem reprK_frac (k : HOk P w H h) (hn : h.NoDigits) (f : Frac H v p) (r : RelV v u) (hs : Sm p.1 ∧ Sm p.2) : ∃ bs, ReprK P w bs h 1 u (shown p) ∧ ∀ b ∈ bs, ∃ xs, H b = some (.tup xs) := by
  rcases f with ⟨h1, rfl⟩ | ⟨h1, a, rfl, ha⟩
  · obtain ⟨t, rfl⟩ := r
    refine ⟨[], ?_, fun b hb => nomatch hb⟩
    unfold shown
    rw [if_pos h1]
    exact (reprK_big hn hs.1).level_le (by decide)
  · obtain rfl : u = Value.ref a := r
    obtain ⟨_, its, rv, o, e1, e2, n, e3⟩ := (show ObjOk P w H h a (.tup [.int p.1, .int p.2]) from k a _ ha)
    obtain ⟨ti, tj, rfl⟩ := two_ints rv
    refine ⟨[a], ?_, fun b hb => ⟨[.int p.1, .int p.2], by rw [List.mem_singleton.mp hb]; exact ha⟩⟩
    unfold shown
    rw [if_neg h1]
    exact ReprK.tuple e1 e2 e3 (by simp) (reprAllK_pair hn hs.1 hs.2)
end
section
variable {X : Cx}
/-- repr of a fraction -/
def rReprF : List V → Hp → VK → Prop := fun xs H Q => ∃ v p, xs = [v] ∧ Frac H v p ∧ (Sm p.1 ∧ Sm p.2) ∧ Q (.str (shown p)) H
theorem call_reprF (hg : X.A.guards = some []) (hu : X.A.units + 64 < cLine) (hd : X.base.NoDigits) : CallR X (.builtin "repr") rReprF := by
  intro pins s σ H xs us Q I r h
  obtain ⟨v, p, rfl, f, hs, q⟩ := h
  obtain ⟨u, rfl, ru⟩ := vals1 r
  have hn : s.heap.NoDigits := hd.keeps I.bk
  rcases f with ⟨h1, rfl⟩ | ⟨h1, a, rfl, ha⟩
  · obtain ⟨t, rfl⟩ := ru
    unfold shown at q
    rw [if_pos h1] at q
    exact call_repr_slot (by omega) (typeIs_int s p.1 t) F.slot_int_repr.toG (big_repr hn hs.1 ⟨_, _, rfl, .str _, H, I.tok _, ⟨_, rfl⟩, q⟩)
  · obtain rfl : u = Value.ref a := ru
    obtain ⟨_, its, rv, o, e1, e2, n, e3⟩ := (show ObjOk X.prog X.w H s.heap a (.tup [.int p.1, .int p.2]) from I.hok a _ ha)
    obtain ⟨ti, tj, rfl⟩ := two_ints rv
    unfold shown at q
    rw [if_neg h1] at q
    refine call_repr_slot (by omega) ⟨o, e1, e2⟩ F.slot_tuple_repr (call_tuple_reprK e1 e2 e3 (by simp) (reprAllK_pair hn hs.1 hs.2) hg (fun b _ => Clear.nil b) (by show X.A.units + 1 + (0 + 1) < cLine; omega) (fun _ _ e => e) (fun h' u tk kp => ⟨_, _, rfl, .str _, H, I.kept kp, ⟨_, rfl⟩, q⟩) ?_)
    exact Nat.le_trans (tup_text hs.1 hs.2) (by rw [sizeLine_eq]; decide)
/-- repr of a list of two fractions -/
def rReprL : List V → Hp → VK → Prop := fun xs H Q => ∃ l v1 v2 p1 p2, xs = [.ref l] ∧ H l = some (.lst [v1, v2]) ∧ Frac H v1 p1 ∧ Frac H v2 p2 ∧ (Sm p1.1 ∧ Sm p1.2) ∧ (Sm p2.1 ∧ Sm p2.2) ∧ Q (.str (listText [shown p1, shown p2])) H
theorem listText_two {x y : Str} (hx : x.length ≤ 9000) (hy : y.length ≤ 9000) : (listText [x, y]).length ≤ 20000 := by
  show (textFrom 0 "[" [x, y] ++ "]").length ≤ 20000
  have e : (textFrom 0 "[" [x, y] ++ "]").length = 1 + 0 + x.length + 2 + y.length + 1 := by
    simp only [textFrom, strLen_append]
    rfl
  omega
theorem call_reprL (hg : X.A.guards = some []) (hu : X.A.units + 64 < cLine) (hd : X.base.NoDigits) : CallR X (.builtin "repr") rReprL := by
  intro pins s σ H xs us Q I r h
  obtain ⟨l, v1, v2, p1, p2, rfl, hl, f1, f2, s1, s2, q⟩ := h
  obtain ⟨u, rfl, ru⟩ := vals1 r
  obtain rfl : u = Value.ref l := ru
  have hn : s.heap.NoDigits := hd.keeps I.bk
  obtain ⟨_, its, n, rv, e1⟩ := (show ObjOk X.prog X.w H s.heap l (.lst [v1, v2]) from I.hok l _ hl)
  obtain ⟨u1, u2, rfl, r1, r2⟩ := vals2 rv
  obtain ⟨b1, k1, t1⟩ := reprK_frac I.hok hn f1 r1 s1
  obtain ⟨b2, k2, t2⟩ := reprK_frac I.hok hn f2 r2 s2
  have na : l ∉ b1 ++ b2 := fun m => by
    rcases List.mem_append.mp m with m | m
    · obtain ⟨xs, z⟩ := t1 l m
      rw [hl] at z
      cases z
    · obtain ⟨xs, z⟩ := t2 l m
      rw [hl] at z
      cases z
  have k1' : ReprK X.prog X.w (b1 ++ b2) s.heap 1 u1 (shown p1) := k1.more fun b hb => List.mem_append_left _ hb
  have k2' : ReprK X.prog X.w (b1 ++ b2) s.heap 1 u2 (shown p2) := k2.more fun b hb => List.mem_append_right _ hb
  refine call_repr_slot (by omega) ⟨_, e1, rfl⟩ F.slot_list_repr.toG (call_list_reprK (x := u1) (l := [u2]) (ts := [shown p1, shown p2]) e1 rfl rfl na rfl (fun i y e => ?_) hg (fun b _ => Clear.nil b) (by show X.A.units + 1 + (1 + 1) < cLine; omega) (fun _ _ e => e) (fun h' u tk kp => ⟨_, _, rfl, .str _, H, I.kept kp, ⟨_, rfl⟩, q⟩) ?_)
  · match i, e with
    | 0, e =>
      have z : u1 = y := by simpa using e
      exact ⟨_, rfl, z ▸ k1'⟩
    | 1, e =>
      have z : u2 = y := by simpa using e
      exact ⟨_, rfl, z ▸ k2'⟩
    | i + 2, e => simp at e
  · exact Nat.le_trans (listText_two (shown_len s1) (shown_len s2)) (by rw [sizeLine_eq]; decide)
end
end Cw
/-! The program's defs, one by one. -/
namespace Cw
open PySem PySem.Spec PyProof.Rows L2
def top (i : Nat) : Stmt := PySem.Challenge.pw_cubicway_k05_whole_powers.main.body.getD i (.Pass ⟨0, 0, 0, 0⟩)
abbrev sNum : Stmt := top 8
abbrev sCom : Stmt := top 9
abbrev sIsF : Stmt := top 10
abbrev sNeed : Stmt := top 11
abbrev sPair : Stmt := top 12
abbrev sLow : Stmt := top 13
abbrev sPro : Stmt := top 14
abbrev sQuo : Stmt := top 15
abbrev sTim : Stmt := top 16
abbrev sPow : Stmt := top 17
theorem yes {c : Bool} {A B : Prop} (hc : c = true) (h : A) : if c = true then A else B := by
  rw [if_pos hc]
  exact h
theorem no {c : Bool} {A B : Prop} (hc : c = false) (h : B) : if c = true then A else B := by
  rw [hc, if_neg Bool.false_ne_true]
  exact h
/-- a def of the module -/
structure Df (K : PySem.W.Frag) (mg : Str → Option Value) (x : Str) (st : Stmt) (f : Addr) (fd : FuncData) : Prop where
  F : Fun K x x st f fd
  g : mg x = some (.ref f)
/-- the built-ins that the text uses are the built-ins -/
structure Bi (mg : Str → Option Value) : Prop where
  isi : mg "isinstance" = none
  int : mg "int" = none
  bool : mg "bool" = none
  tup : mg "tuple" = none
  abs : mg "abs" = none
  len : mg "len" = none
  all : mg "all" = none
  rng : mg "range" = none
  rep : mg "repr" = none
/-- what kind of thing a value is -/
inductive Kn (H : Hp) : V → String → Prop where
  | non : Kn H .non "NoneType"
  | bl (b : Bool) : Kn H (.bl b) "bool"
  | int (i : Int) : Kn H (.int i) "int"
  | str (x : Str) : Kn H (.str x) "str"
  | lst {a : Addr} {xs : List V} (e : H a = some (.lst xs)) : Kn H (.ref a) "list"
  | tup {a : Addr} {xs : List V} (e : H a = some (.tup xs)) : Kn H (.ref a) "tuple"
  | dK {a : Addr} {kvs : List (Key × V)} (e : H a = some (.dK kvs)) : Kn H (.ref a) "dict"
theorem Kn.ty {K : PySem.W.Frag} {H : Hp} {v : V} {t : String} (k : Kn H v t) : TyX K H v (.type t) := by
  cases k with
  | non => exact .base .non
  | bl b => exact .base (.bl b)
  | int i => exact .base (.int i)
  | str x => exact .base (.str x)
  | lst e => exact .base (.lst e)
  | tup e => exact .base (.tup e)
  | dK e => exact .base (.dK e)
theorem Kn.int? {H : Hp} {v : V} {t : String} (k : Kn H v t) : kitB t "int" = some (decide (t = "int") || decide (t = "bool")) := by
  cases k <;> decide +kernel
theorem Kn.bool? {H : Hp} {v : V} {t : String} (k : Kn H v t) : kitB t "bool" = some (decide (t = "bool")) := by
  cases k <;> decide +kernel
theorem Kn.tup? {H : Hp} {v : V} {t : String} (k : Kn H v t) : kitB t "tuple" = some (decide (t = "tuple")) := by
  cases k <;> decide +kernel
section
variable {P : Program} {w : World} {K : PySem.W.Frag} {mg : Str → Option Value} {base : Heap}
/-! ### is_number -/
def spNum : Sp := fun vs H Q _ => ∃ v t, vs = [v] ∧ Kn H v t ∧ Q (.bl (decide (t = "int"))) H
theorem scNum : FnScope ["thing"] ["thing"] (defScope sNum) := ⟨rfl, rfl, rfl, by decide +kernel, rfl, by decide +kernel, by decide +kernel⟩
theorem ok_num {f : Addr} {fd : FuncData} (D : Df K mg "is_number" sNum f fd) (B : Bi mg) : FnOk P w K mg base CX0 1 f fd ["thing"] spNum := by
  refine D.F.ok scNum (fun vs H Q E h => ?_) (fun cdv A outer s H vs Q E hr h => ?_)
  · obtain ⟨v, t, rfl, _⟩ := h
    rfl
  · obtain ⟨v, t, rfl, k, q⟩ := h
    refine ⟨_, pss_one (ps_ret (pe_and (pe_callB call_isi (by rfl) B.isi (by decide +kernel) (pa_cons (pv 0) (pa_cons (pe_bltn (v := .ty "int") (by rfl) B.int (by decide +kernel) rfl) pa_nil)))
      (pe_one (pe_not (pe_callB call_isi (by rfl) B.isi (by decide +kernel) (pa_cons (pv 0) (pa_cons (pe_bltn (v := .ty "bool") (by rfl) B.bool (by decide +kernel) rfl) pa_nil))))))), ?_⟩
    refine ⟨v, rfl, v, .ty "int", .type t, .type "int", _, rfl, .ty _, k.ty, kit_ty k.int?, _, rfl, ?_⟩
    by_cases c : (decide (t = "int") || decide (t = "bool")) = true
    · rw [if_pos c]
      refine ⟨v, rfl, v, .ty "bool", .type t, .type "bool", _, rfl, .ty _, k.ty, kit_ty k.bool?, _, rfl, ?_⟩
      have e : (!decide (t = "bool")) = decide (t = "int") := by
        cases k <;> first | rfl | decide | (simp at c)
      rw [e]
      exact q
    · rw [if_neg c]
      have e : decide (t = "int") = false := by
        cases k <;> first | rfl | decide | (simp at c)
      rw [e] at q
      exact q
/-! ### common -/
def spCom : Sp := fun vs H Q _ => ∃ a b : Int, vs = [.int a, .int b] ∧ Q (.int (Int.gcd a b)) H
theorem scCom : FnScope ["one", "other"] ["one", "other"] (defScope sCom) := ⟨rfl, rfl, rfl, by decide +kernel, rfl, by decide +kernel, by decide +kernel⟩
theorem ok_com {f : Addr} {fd : FuncData} (D : Df K mg "common" sCom f fd) (B : Bi mg) : FnOk P w K mg base CX0 1 f fd ["one", "other"] spCom := by
  refine D.F.ok scCom (fun vs H Q E h => ?_) (fun cdv A outer s H vs Q E hr h => ?_)
  · obtain ⟨a, b, rfl, _⟩ := h
    rfl
  · obtain ⟨a, b, rfl, q⟩ := h
    refine ⟨_, pss_cons (ps_while PassesOwn.never (pt_cmpR op_ne (pv 1) pe_int (nomark _))
        (pss_one (ps_par (i := 0) (j := 1) (by rfl) scCom.nd rfl rfl (by decide) rfl rfl (pa_cons (pv 1) (pa_cons (pe_op op_modN (pv 0) (pv 1)) pa_nil)) (by rfl))))
      (pss_one (ps_ret (pe_callB call_abs (by rfl) B.abs (by decide +kernel) (pa_cons (pv 0) pa_nil)))), ?_⟩
    refine ⟨fun m σ H1 => H1 = H ∧ ∃ x y : Int, σ = [some (.int x), some (.int y)] ∧ Int.gcd x y = Int.gcd a b ∧ m = y.natAbs, ⟨_, rfl, a, b, rfl, rfl, rfl⟩, ?_⟩
    rintro m σ H1 ⟨rfl, x, y, rfl, eg, rfl⟩
    refine ⟨_, rfl, rfl, _, rfl, ?_⟩
    by_cases hy : y = 0
    · subst hy
      refine iteF ?_
      refine ⟨_, rfl, x, rfl, ?_⟩
      have e : (if x < 0 then -x else x) = ((Int.gcd a b : Nat) : Int) := by
        rw [← eg, Int.gcd_zero_right]
        split <;> omega
      rw [e]
      exact q
    · have c : (!decide (V.int y = V.int 0)) = true := by simp [hy]
      refine yes c ?_
      refine ⟨fun σ' H' => H' = H1 ∧ σ' = [some (.int y), some (.int (x.fmod y))], ?_, ?_⟩
      · rintro σ' H' ⟨rfl, rfl⟩
        exact ⟨_, fmod_abs hy, rfl, y, x.fmod y, rfl, by rw [gcd_fmod, eg], rfl⟩
      · exact ⟨_, rfl, _, rfl, _, rfl, _, _, rfl, rfl, hy, _, _, rfl, rfl, rfl⟩
end
end Cw
namespace Cw
open PySem PySem.Spec PyProof.Rows L2
section
variable {P : Program} {w : World} {K : PySem.W.Frag} {mg : Str → Option Value} {base : Heap}
/-! ### is_fraction -/
/-- what is_fraction says of a tuple of these -/
def frB : List V → Bool
  | [.int t, .int b] => decide (1 < b) && decide ((Int.gcd t b : Int) = 1)
  | _ => false
theorem Kn.isInt {H : Hp} {v : V} {t : String} (k : Kn H v t) (h : t = "int") : ∃ i, v = .int i := by
  cases k <;> first | exact ⟨_, rfl⟩ | exact absurd h (by decide)
theorem frB_two (t b : Int) : frB [.int t, .int b] = (decide (1 < b) && decide ((Int.gcd t b : Int) = 1)) := rfl
theorem frB_len {xs : List V} (h : xs.length ≠ 2) : frB xs = false := by
  match xs, h with
  | [], _ => rfl
  | [_], _ => unfold frB; simp
  | _ :: _ :: _ :: _, _ => unfold frB; simp
/-- what is_fraction says of a value -/
inductive IsF (H : Hp) : V → Bool → Prop where
  | int (i : Int) : IsF H (.int i) true
  | no {v : V} {t : String} (k : Kn H v t) (h1 : t ≠ "int") (h2 : t ≠ "tuple") : IsF H v false
  | tup {a : Addr} {xs : List V} (e : H a = some (.tup xs)) (hx : ∀ x ∈ xs, ∃ t, Kn H x t) : IsF H (.ref a) (frB xs)
def spIsF : Sp := fun vs H Q _ => ∃ v b, vs = [v] ∧ IsF H v b ∧ Q (.bl b) H
theorem scIsF : FnScope ["thing"] ["thing"] (defScope sIsF) := ⟨rfl, rfl, rfl, by decide +kernel, rfl, by decide +kernel, by decide +kernel⟩
theorem bd1 {st : Stmt} {x q : Str} {f : Addr} {fd : FuncData} {p1 : Str} (F : Fun K x q st f fd) (h : ∀ (kV doc pm : Value) (an : Option Addr) (cdv ct : Value) (us : List Value), us.length = [p1].length → bindArgs (PySem.W.fnOf x q (defArgs st) (defBody st) (defScope st) .none kV doc pm an cdv ct) ⟨us, []⟩ = pure ([p1].zip us)) : Binds K fd [p1] [] := F.binds h
theorem ok_isf {f fN fC : Addr} {fd fdN fdC : FuncData} (D : Df K mg "is_fraction" sIsF f fd) (B : Bi mg) (DN : Df K mg "is_number" sNum fN fdN) (DC : Df K mg "common" sCom fC fdC) (bN : Binds K fdN ["thing"] []) (bC : Binds K fdC ["one", "other"] []) :
    FnOk P w K mg base CX0 2 f fd ["thing"] spIsF := by
  have GN : FnOk P w K mg base CX0 1 fN fdN ["thing"] spNum := ok_num DN B
  have GC : FnOk P w K mg base CX0 1 fC fdC ["one", "other"] spCom := ok_com DC B
  refine D.F.ok scIsF (fun vs H Q E h => ?_) (fun cdv A outer s H vs Q E hr h => ?_)
  · obtain ⟨v, b, rfl, _⟩ := h
    rfl
  · obtain ⟨v, b, rfl, k, q⟩ := h
    refine ⟨_, pss_cons (ps_if (pt_not (pt_val (pe_callB call_isi (by rfl) B.isi (by decide +kernel) (pa_cons (pv 0) (pa_cons (pe_bltn (v := .ty "tuple") (by rfl) B.tup (by decide +kernel) rfl) pa_nil)))))
          (pss_one (ps_ret (pe_call GN hr (by rfl) DN.g DN.F.kp bN .nil pass0 (pa_cons (pv 0) pa_nil)))) pss_nil)
      (pss_cons (ps_if (PW.pt (pw_or (pt_cmpR op_ne (pe_callB call_len_seq (by rfl) B.len PySem.boot_len (pa_cons (pv 0) pa_nil)) pe_int (nomark _))
            (pw_or (pt_not (pt_val (pe_call GN hr (by rfl) DN.g DN.F.kp bN .nil pass0 (pa_cons (pe_ix ix_tup (pv 0) pe_int (fun _ _ => rfl)) pa_nil))))
            (pw_or1 (pt_not (pt_val (pe_call GN hr (by rfl) DN.g DN.F.kp bN .nil pass0 (pa_cons (pe_ix ix_tup (pv 0) pe_int (fun _ _ => rfl)) pa_nil))))))))
          (pss_one (ps_ret pe_bl)) pss_nil)
      (pss_one (ps_ret (pe_and (pe_cmpR op_gt (pe_ix ix_tup (pv 0) pe_int (fun _ _ => rfl)) pe_int (nomark _))
        (pe_one (pe_cmpR op_eq (pe_call GC hr (by rfl) DC.g DC.F.kp bC .nil pass0 (pa_cons (pe_ix ix_tup (pv 0) pe_int (fun _ _ => rfl)) (pa_cons (pe_ix ix_tup (pv 0) pe_int (fun _ _ => rfl)) pa_nil))) pe_int (nomark _))))))), ?_⟩
    cases k with
    | int i =>
      refine ⟨_, rfl, _, .ty "tuple", .type "int", .type "tuple", false, rfl, .ty _, .base (.int i), kit_ty (by decide +kernel), _, rfl, iteT ?_⟩
      exact ⟨_, rfl, _, _, rfl, .int i, q⟩
    | @no _ t k h1 h2 =>
      refine ⟨_, rfl, v, .ty "tuple", .type t, .type "tuple", _, rfl, .ty _, k.ty, kit_ty k.tup?, _, rfl, yes (by simp [h2]) ?_⟩
      refine ⟨_, rfl, v, t, rfl, k, ?_⟩
      rw [decide_eq_false h1]
      exact q
    | @tup a xs e hx =>
      have hT : SqT K H a xs := .inl (.inl e)
      refine ⟨_, rfl, _, .ty "tuple", .type "tuple", .type "tuple", true, rfl, .ty _, .base (.tup e), kit_ty (by decide +kernel), _, rfl, iteF ?_⟩
      refine ⟨_, rfl, a, xs, rfl, .inr hT, rfl, _, rfl, ?_⟩
      by_cases hl : xs.length = 2
      · obtain ⟨x, y, rfl⟩ : ∃ x y, xs = [x, y] := by
          match xs, hl with
          | [x, y], _ => exact ⟨x, y, rfl⟩
        obtain ⟨tx, kx⟩ := hx x (by simp)
        obtain ⟨ty, ky⟩ := hx y (by simp)
        refine no (by simp) ?_
        refine ⟨_, rfl, a, _, 0, x, rfl, rfl, hT, atI_nat (j := 0) rfl, x, tx, rfl, kx, _, rfl, ?_⟩
        by_cases cx : tx = "int"
        · obtain ⟨i, rfl⟩ := kx.isInt cx
          have ex := decide_eq_true cx
          refine no (by simp [cx]) ?_
          refine ⟨_, rfl, a, _, 1, y, rfl, rfl, hT, atI_nat (j := 1) rfl, y, ty, rfl, ky, _, rfl, ?_⟩
          by_cases cy : ty = "int"
          · obtain ⟨j, rfl⟩ := ky.isInt cy
            have ey := decide_eq_true cy
            refine no (by simp [cy]) ?_
            refine ⟨_, rfl, a, _, 1, .int j, rfl, rfl, hT, atI_nat (j := 1) rfl, j, 1, rfl, rfl, _, rfl, ?_⟩
            by_cases c1 : 1 < j
            · refine yes (decide_eq_true c1) ?_
              refine ⟨_, rfl, a, _, 0, .int i, rfl, rfl, hT, atI_nat (j := 0) rfl, _, rfl, a, _, 1, .int j, rfl, rfl, hT, atI_nat (j := 1) rfl, i, j, rfl, rfl, ?_⟩
              have z : frB [.int i, .int j] = decide (V.int (Int.gcd i j : Int) = V.int 1) := by
                rw [frB_two, decide_eq_true c1, Bool.true_and]
                by_cases g : (Int.gcd i j : Int) = 1
                · rw [decide_eq_true g, decide_eq_true (by rw [g])]
                · rw [decide_eq_false g, decide_eq_false (fun z => g (V.int.inj z))]
              rw [z] at q
              exact q
            · refine no (decide_eq_false c1) ?_
              have z : frB [.int i, .int j] = false := by
                rw [frB_two, decide_eq_false c1, Bool.false_and]
              rw [z] at q
              exact q
          · refine yes (by simp [cy]) ?_
            have z : frB [V.int i, y] = false := by
              cases ky <;> first | rfl | exact absurd rfl cy
            rw [z] at q
            exact q
        · refine yes (by simp [cx]) (iteT ?_)
          have z : frB [x, y] = false := by
            cases kx <;> first | rfl | exact absurd rfl cx
          rw [z] at q
          exact q
      · refine yes ?_ (iteT ?_)
        · have n : ¬ (V.int (xs.length : Int) = V.int 2) := fun z => hl (by have := V.int.inj z; omega)
          simp only [decide_eq_false n, Bool.not_false]
        · rw [frB_len hl] at q
          exact q
end
end Cw
namespace Cw
open PySem PySem.Spec PyProof.Rows L2
section
variable {P : Program} {w : World} {K : PySem.W.Frag} {mg : Str → Option Value} {base : Heap}
/-! ### need_fractions -/
theorem Kn.same {H H' : Hp} {v : V} {t : String} (k : Kn H v t) (s : Same H H') : Kn H' v t := by
  cases k with
  | non => exact .non
  | bl b => exact .bl b
  | int i => exact .int i
  | str x => exact .str x
  | lst e => exact .lst (s _ _ e)
  | tup e => exact .tup (s _ _ e)
  | dK e => exact .dK (s _ _ e)
theorem IsF.same {H H' : Hp} {v : V} {b : Bool} (k : IsF H v b) (s : Same H H') : IsF H' v b := by
  cases k with
  | int i => exact .int i
  | no k h1 h2 => exact .no (k.same s) h1 h2
  | tup e hx => exact .tup (s _ _ e) fun x m => (hx x m).imp fun _ z => z.same s
theorem same_new {H : Hp} {p : Addr} {o : HO} (h : H p = none) : Same H (upd H p o) := fun b x e => by
  rw [upd_ne (ne_of_none e h)]
  exact e
/-- an error of the class at C came out: its dict is new -/
def Out (E : XK) (C : Addr) (H : Hp) : Prop := ∀ (d : Addr) (H' : Hp) (v : V), Same H H' → H' d = some (.xd [(("why" : Str), v)]) → E (.ref C) (some d) H'
theorem Out.mono {E : XK} {C : Addr} {H H1 : Hp} (o : Out E C H) (s : Same H H1) : Out E C H1 := fun d H' v a b => o d H' v (s.trans a) b
def spNeed (CB : Addr) : Sp := fun vs H Q E => ∃ (a : Addr) (xs : List V) (bs : List Bool), vs = [.ref a] ∧ H a = some (.tup xs) ∧ xs.length ≤ 10 ∧ bs.length = xs.length ∧ (∀ (i : Nat) (x : V), xs[i]? = some x → ∃ b, bs[i]? = some b ∧ IsF H x b) ∧
  (bs.all id = true → ∀ H', Same H H' → Q .non H') ∧ (bs.all id = false → Out E CB H)
theorem scNeed : FnScope ["things", "thing"] ["things"] (defScope sNeed) := ⟨rfl, rfl, rfl, by decide +kernel, rfl, by decide +kernel, by decide +kernel⟩
abbrev OwnF (K : PySem.W.Frag) (mg : Str → Option Value) (CB iB : Addr) : Prop := OwnX K mg "BadFraction" CB iB [.type "ValueError", .type "Exception", .type "BaseException", .type "object"] "ValueError.__new__"
abbrev OwnN (K : PySem.W.Frag) (mg : Str → Option Value) (CB iB : Addr) : Prop := OwnX K mg "BadNumber" CB iB [.type "ValueError", .type "Exception", .type "BaseException", .type "object"] "ValueError.__new__"
abbrev OwnP (K : PySem.W.Frag) (mg : Str → Option Value) (CB iB : Addr) : Prop := OwnX K mg "NoParts" CB iB [.type "ArithmeticError", .type "Exception", .type "BaseException", .type "object"] "ArithmeticError.__new__"
theorem ok_need {f fF CB iB : Addr} {fd fdF : FuncData} (D : Df K mg "need_fractions" sNeed f fd) (B : Bi mg) (T : OwnF K mg CB iB) (DF : Df K mg "is_fraction" sIsF fF fdF) (bF : Binds K fdF ["thing"] []) (GF : FnOk P w K mg base CX0 2 fF fdF ["thing"] spIsF) :
    FnOk P w K mg base (L2.CX P w) 3 f fd ["things"] (spNeed CB) := by
  refine D.F.okX scNeed (fun vs H Q E h => ?_) (fun cdv A outer s H vs Q E hr h => ?_)
  · obtain ⟨a, xs, bs, rfl, _⟩ := h
    rfl
  · obtain ⟨a, xs, bs, rfl, ha, hl, hlb, hb, kT, kF⟩ := h
    refine ⟨_, pss_one (ps_if (pt_not (pt_val (pe_callB (cr_all rfl) (by rfl) B.all (by decide +kernel)
        (pa_cons (pe_lc (own := [("thing", 1)]) (g := gName 1) (tt := tYes) rfl scNeed.nd (pi_tup (pv 0)) (blkOk_by (N := ["things", "thing"]) (sc := defScope sNeed) (by decide +kernel)) (fun _ _ _ _ _ => pg_name (i := 1) scNeed.nd rfl (Or.inl rfl)) (fun _ _ _ _ _ => pts_nil)
          (fun _ _ _ _ _ => pe_call GF hr (by rfl) DF.g DF.F.kp bF .nil pass0 (pa_cons (pv 1) pa_nil))) pa_nil))))
      (pss_one (ps_raX rfl F.excBase_ValueError F.store_ValueError T hr (takes_of rfl rfl rfl rfl) (pa_cons pe_str pa_nil))) pss_nil), ?_⟩
    have hT : ∀ H', Same H H' → SqT K H' a xs := fun H' s => .inl (.inl (s _ _ ha))
    refine ⟨_, rfl, a, rfl, ⟨_, hT H (Same.refl H)⟩, fun L nL => lc_tup (K := K) (a := a) (xs := xs) (fun i H1 => Same H H1 ∧ H1 L = some (.lst ((bs.take i).map V.bl))) ⟨same_new nL, upd_same⟩ (fun i H1 _ ⟨s, _⟩ => hT _ s) ?_ ?_⟩
    · rintro i x H1 hi ⟨s, eL⟩
      obtain ⟨b, eb, kb⟩ := hb i x hi
      refine ⟨rfl, ?_⟩
      refine ⟨x, rfl, x, b, rfl, kb.same s, ?_⟩
      refine ⟨_, eL, ?_, fun c o e => ?_, ?_⟩
      · rw [List.length_map, List.length_take]
        exact small1000 (by omega)
      · rw [upd_ne (ne_of_none e nL)]
        exact s c o e
      · rw [upd_same, List.take_add_one, eb, List.map_append]
        rfl
    · rintro H1 ⟨s, eL⟩
      rw [← hlb, List.take_length] at eL
      refine ⟨L, bs, rfl, .inl (.inl eL), _, rfl, ?_⟩
      by_cases c : bs.all id = true
      · refine no (by rw [c]; rfl) ?_
        exact kT c H1 s
      · have c' : bs.all id = false := by simpa using c
        refine yes (by rw [c']; rfl) ?_
        exact ⟨_, rfl, fun d nd => kF c' d _ _ (s.trans (same_new nd)) upd_same⟩
end
end Cw
namespace Cw
open PySem PySem.Spec PyProof.Rows L2
section
variable {P : Program} {w : World} {K : PySem.W.Frag} {mg : Str → Option Value} {base : Heap}
/-! ### pair_of -/
def spPair : Sp := fun vs H Q _ => ∃ v p, vs = [v] ∧ Frac H v p ∧ ∀ t H', Same H H' → H' t = some (.tup [.int p.1, .int p.2]) → Q (.ref t) H'
theorem scPair : FnScope ["a"] ["a"] (defScope sPair) := ⟨rfl, rfl, rfl, by decide +kernel, rfl, by decide +kernel, by decide +kernel⟩
theorem ok_pair {f : Addr} {fd : FuncData} (D : Df K mg "pair_of" sPair f fd) (B : Bi mg) : FnOk P w K mg base CX0 1 f fd ["a"] spPair := by
  refine D.F.ok scPair (fun vs H Q E h => ?_) (fun cdv A outer s H vs Q E hr h => ?_)
  · obtain ⟨v, p, rfl, _⟩ := h
    rfl
  · obtain ⟨v, p, rfl, fr, q⟩ := h
    refine ⟨_, pss_one (ps_ret (pe_ifExp (pt_val (pe_callB call_isi (by rfl) B.isi (by decide +kernel) (pa_cons (pv 0) (pa_cons (pe_bltn (v := .ty "tuple") (by rfl) B.tup (by decide +kernel) rfl) pa_nil)))) (pv 0) (pe_tup (pa_cons (pv 0) (pa_cons pe_int pa_nil))))), ?_⟩
    rcases fr with ⟨h1, rfl⟩ | ⟨h1, a, rfl, ha⟩
    · refine ⟨_, rfl, _, .ty "tuple", .type "int", .type "tuple", false, rfl, .ty _, .base (.int _), kit_ty (by decide +kernel), _, rfl, iteF ?_⟩
      refine ⟨_, rfl, (by show 2 ≤ sizeLine; decide), fun t nt => q t _ (same_new nt) ?_⟩
      rw [upd_same, h1]
    · refine ⟨_, rfl, _, .ty "tuple", .type "tuple", .type "tuple", true, rfl, .ty _, .base (.tup ha), kit_ty (by decide +kernel), _, rfl, iteT ?_⟩
      exact ⟨_, rfl, q a H (Same.refl H) ha⟩
/-! ### lowest -/
def spLow : Sp := fun vs H Q _ => ∃ t b : Int, vs = [.int t, .int b] ∧ b ≠ 0 ∧ b.natAbs < 2 ^ 8500 ∧ ∀ v H', Same H H' → Frac H' v (low t b) → Q v H'
theorem scLow : FnScope ["top", "bottom", "by"] ["top", "bottom"] (defScope sLow) := ⟨rfl, rfl, rfl, by decide +kernel, rfl, by decide +kernel, by decide +kernel⟩
theorem div_by {t b : Int} (h : b ≠ 0) (hb : b.natAbs < 2 ^ 8500) (x : Int) : CDivZ x (byI t b) := by
  refine div_z (b := 8500) (by_ne h) ?_ (by decide) (by decide)
  rw [by_abs]
  exact gcd_lt h hb
theorem ok_low {f fC : Addr} {fd fdC : FuncData} (D : Df K mg "lowest" sLow f fd) (B : Bi mg) (DC : Df K mg "common" sCom fC fdC) (bC : Binds K fdC ["one", "other"] []) (GC : FnOk P w K mg base CX0 1 fC fdC ["one", "other"] spCom) :
    FnOk P w K mg base CX0 2 f fd ["top", "bottom"] spLow := by
  refine D.F.ok scLow (fun vs H Q E h => ?_) (fun cdv A outer s H vs Q E hr h => ?_)
  · obtain ⟨t, b, rfl, _⟩ := h
    rfl
  · obtain ⟨t, b, rfl, n, hb, q⟩ := h
    refine ⟨_, pss_cons (ps_set (i := 2) scLow.nd rfl (.inl rfl) (pe_ifExp (pt_cmpR op_gt (pv 1) pe_int (nomark _))
          (pe_call GC hr (by rfl) DC.g DC.F.kp bC .nil pass0 (pa_cons (pv 0) (pa_cons (pv 1) pa_nil)))
          (pe_un un_neg (pe_call GC hr (by rfl) DC.g DC.F.kp bC .nil pass0 (pa_cons (pv 0) (pa_cons (pv 1) pa_nil))))))
      (pss_one (ps_ret (pe_ifExp (pt_cmpR op_eq (pe_op op_fdivZ (pv 1) (pv 2)) pe_int (nomark _)) (pe_op op_fdivZ (pv 0) (pv 2)) (pe_tup (pa_cons (pe_op op_fdivZ (pv 0) (pv 2)) (pa_cons (pe_op op_fdivZ (pv 1) (pv 2)) pa_nil)))))), ?_⟩
    have e1 : t.fdiv (byI t b) = (low t b).1 := Int.fdiv_eq_ediv_of_dvd (by_dvd_t t b)
    have e2 : b.fdiv (byI t b) = (low t b).2 := Int.fdiv_eq_ediv_of_dvd (by_dvd_b t b)
    -- what stands behind by = ..
    have rest : ∀ g : Int, g = byI t b → tRet (tIf (tTest (tOp rEq (tOp (rI CDivZ fun i j => .int (i.fdiv j)) (tVar 1) (tVar 2)) (tC (.int 1)))) (tOp (rI CDivZ fun i j => .int (i.fdiv j)) (tVar 0) (tVar 2)) (tTup (tCons (tOp (rI CDivZ fun i j => .int (i.fdiv j)) (tVar 0) (tVar 2)) (tCons (tOp (rI CDivZ fun i j => .int (i.fdiv j)) (tVar 1) (tVar 2)) tNil))))
        { nx := fun _ H' => Q .non H', rt := Q } [some (.int t), some (.int b), some (.int g)] H := by
      rintro g rfl
      refine ⟨_, rfl, _, rfl, _, _, rfl, rfl, div_by n hb _, rfl, _, rfl, ?_⟩
      by_cases c : (low t b).2 = 1
      · refine yes (decide_eq_true (show V.int (b.fdiv (byI t b)) = V.int 1 from by rw [e2, c])) ?_
        refine ⟨_, rfl, _, rfl, _, _, rfl, rfl, div_by n hb _, ?_⟩
        dsimp only
        rw [e1]
        exact q _ H (Same.refl H) (.inl ⟨c, rfl⟩)
      · refine no (decide_eq_false fun z => c (e2.symm.trans (V.int.inj z))) ?_
        refine ⟨_, rfl, _, rfl, _, _, rfl, rfl, div_by n hb _, _, rfl, _, rfl, _, _, rfl, rfl, div_by n hb _, (by show 2 ≤ sizeLine; decide), fun p np => ?_⟩
        dsimp only
        rw [e1, e2]
        exact q _ _ (same_new np) (.inr ⟨c, p, rfl, upd_same⟩)
    refine ⟨_, rfl, _, _, rfl, rfl, _, rfl, ?_⟩
    by_cases c : (0 : Int) < b
    · refine yes (decide_eq_true c) ?_
      refine ⟨_, rfl, _, rfl, t, b, rfl, ?_⟩
      exact rest _ (by unfold byI; rw [if_pos c])
    · refine no (decide_eq_false c) ?_
      refine ⟨_, rfl, _, rfl, t, b, rfl, _, rfl, ?_⟩
      exact rest _ (by unfold byI; rw [if_neg c])
/-! ### product -/
def spPro : Sp := fun vs H Q _ => ∃ v p u r, vs = [v, u] ∧ Frac H v p ∧ Frac H u r ∧ Low p ∧ Low r ∧ Bd 4200 p ∧ Bd 4200 r ∧ ∀ z H', Same H H' → Frac H' z (mul p r) → Q z H'
theorem scPro : FnScope ["a", "b", "top", "bottom", "other", "under"] ["a", "b"] (defScope sPro) := ⟨rfl, rfl, rfl, by decide +kernel, rfl, by decide +kernel, by decide +kernel⟩
theorem ok_pro {f fP fL : Addr} {fd fdP fdL : FuncData} (D : Df K mg "product" sPro f fd) (DP : Df K mg "pair_of" sPair fP fdP) (bP : Binds K fdP ["a"] []) (GP : FnOk P w K mg base CX0 1 fP fdP ["a"] spPair)
    (DL : Df K mg "lowest" sLow fL fdL) (bL : Binds K fdL ["top", "bottom"] []) (GL : FnOk P w K mg base CX0 2 fL fdL ["top", "bottom"] spLow) : FnOk P w K mg base CX0 3 f fd ["a", "b"] spPro := by
  refine D.F.ok scPro (fun vs H Q E h => ?_) (fun cdv A outer s H vs Q E hr h => ?_)
  · obtain ⟨v, p, u, r, rfl, _⟩ := h
    rfl
  · obtain ⟨v, p, u, r, rfl, fv, fu, lp, lr, bp, br, q⟩ := h
    have hr1 : Room 1 _ := hr.mono (by decide)
    refine ⟨_, pss_cons (ps_asg (pe_tup (pa_cons (pe_call GP hr1 (by rfl) DP.g DP.F.kp bP .nil pass0 (pa_cons (pv 0) pa_nil)) (pa_cons (pe_call GP hr1 (by rfl) DP.g DP.F.kp bP .nil pass0 (pa_cons (pv 1) pa_nil)) pa_nil)))
          (pg_tup rfl (pgs_cons (pg_tup rfl (pgs_cons (pg_name (i := 2) scPro.nd rfl (.inl rfl)) (pgs_cons (pg_name (i := 3) scPro.nd rfl (.inl rfl)) pgs_nil)))
            (pgs_cons (pg_tup rfl (pgs_cons (pg_name (i := 4) scPro.nd rfl (.inl rfl)) (pgs_cons (pg_name (i := 5) scPro.nd rfl (.inl rfl)) pgs_nil))) pgs_nil))))
      (pss_one (ps_ret (pe_call GL hr (by rfl) DL.g DL.F.kp bL .nil pass0 (pa_cons (pe_op op_mulW (pv 2) (pv 4)) (pa_cons (pe_op op_mulW (pv 3) (pv 5)) pa_nil))))), ?_⟩
    refine ⟨_, rfl, v, p, rfl, fv, fun t1 H1 s1 e1 => ⟨_, rfl, u, r, rfl, fu.same s1, fun t2 H2 s2 e2 => ⟨(by show 2 ≤ sizeLine; decide), fun t3 n3 => ?_⟩⟩⟩
    have s3 : Same H2 (upd H2 t3 (.tup [.ref t1, .ref t2])) := same_new n3
    refine ⟨t3, _, rfl, .inl (.inl upd_same), rfl, _, _, rfl, ⟨t1, _, rfl, .inl (.inl (s3 _ _ (s2 _ _ e1))), rfl, _, _, rfl, _, _, rfl, rfl, ?_⟩⟩
    refine ⟨_, _, rfl, t2, _, rfl, .inl (.inl (s3 _ _ e2)), rfl, _, _, rfl, _, _, rfl, rfl, rfl, ?_⟩
    refine ⟨_, rfl, _, rfl, _, _, rfl, rfl, wide_mul bp.1 br.1 (by decide) (by decide) (by decide), _, rfl, _, rfl, _, _, rfl, rfl, wide_mul bp.2 br.2 (by decide) (by decide) (by decide), ?_⟩
    refine ⟨_, _, rfl, mul_ne lp lr, Nat.lt_of_lt_of_le (mul_lt bp.2 br.2) (Nat.pow_le_pow_right (by decide) (by decide)), fun z H' s4 fz => ?_⟩
    exact q z H' ((s1.trans s2).trans (s3.trans s4)) fz
end
end Cw
namespace Cw
open PySem PySem.Spec PyProof.Rows L2
/-! ### what a fraction's value is to the built-ins -/
theorem Low.top_ne {p : Int × Int} (l : Low p) (h : p.2 ≠ 1) : p.1 ≠ 0 := fun z => by
  have c := l.cop
  have q := l.pos
  rw [z, Int.gcd_zero_left] at c
  omega
theorem Frac.isF {H : Hp} {v : V} {p : Int × Int} (f : Frac H v p) (l : Low p) : IsF H v true := by
  rcases f with ⟨h1, rfl⟩ | ⟨h1, a, rfl, ha⟩
  · exact .int _
  · have z : frB [.int p.1, .int p.2] = true := by
      have q := l.pos
      rw [frB_two, decide_eq_true (show (1 : Int) < p.2 by omega), decide_eq_true (show ((Int.gcd p.1 p.2 : Nat) : Int) = 1 by rw [l.cop]; rfl)]
      rfl
    have k := IsF.tup ha (fun x m => by
      rcases List.mem_cons.mp m with e | m
      · exact ⟨_, e ▸ Kn.int _⟩
      · exact ⟨_, (List.mem_singleton.mp m) ▸ Kn.int _⟩)
    rw [z] at k
    exact k
theorem Frac.zero? {K : PySem.W.Frag} {H : Hp} {v : V} {p : Int × Int} (f : Frac H v p) (l : Low p) : ∃ d, Dp K H v d ∧ SeqAt.shaped d = true ∧ PyData.eqv d (.int 0) = decide (p.1 = 0) := by
  rcases f with ⟨h1, rfl⟩ | ⟨h1, a, rfl, ha⟩
  · refine ⟨.int p.1, .int _, rfl, ?_⟩
    show (p.1 == 0) = decide (p.1 = 0)
    by_cases c : p.1 = 0
    · rw [c]; rfl
    · rw [decide_eq_false c]; exact beq_eq_false_iff_ne.mpr c
  · refine ⟨.tuple [.int p.1, .int p.2], .tup (.inl (.inl ha)) (.cons (.int _) (.cons (.int _) .nil)), rfl, ?_⟩
    rw [decide_eq_false (l.top_ne h1)]
    rfl
section
variable {P : Program} {w : World} {K : PySem.W.Frag} {mg : Str → Option Value} {base : Heap}
/-! ### quotient -/
def spQuo : Sp := fun vs H Q _ => ∃ v p u r, vs = [v, u] ∧ Frac H v p ∧ Frac H u r ∧ Low p ∧ Low r ∧ r.1 ≠ 0 ∧ Bd 4200 p ∧ Bd 4200 r ∧ ∀ z H', Same H H' → Frac H' z (mul p (low r.2 r.1)) → Q z H'
theorem scQuo : FnScope ["a", "b", "top", "bottom"] ["a", "b"] (defScope sQuo) := ⟨rfl, rfl, rfl, by decide +kernel, rfl, by decide +kernel, by decide +kernel⟩
theorem ok_quo {f fP fL fM : Addr} {fd fdP fdL fdM : FuncData} (D : Df K mg "quotient" sQuo f fd) (DP : Df K mg "pair_of" sPair fP fdP) (bP : Binds K fdP ["a"] []) (GP : FnOk P w K mg base CX0 1 fP fdP ["a"] spPair)
    (DL : Df K mg "lowest" sLow fL fdL) (bL : Binds K fdL ["top", "bottom"] []) (GL : FnOk P w K mg base CX0 2 fL fdL ["top", "bottom"] spLow)
    (DM : Df K mg "product" sPro fM fdM) (bM : Binds K fdM ["a", "b"] []) (GM : FnOk P w K mg base CX0 3 fM fdM ["a", "b"] spPro) : FnOk P w K mg base CX0 4 f fd ["a", "b"] spQuo := by
  refine D.F.ok scQuo (fun vs H Q E h => ?_) (fun cdv A outer s H vs Q E hr h => ?_)
  · obtain ⟨v, p, u, r, rfl, _⟩ := h
    rfl
  · obtain ⟨v, p, u, r, rfl, fv, fu, lp, lr, n, bp, br, q⟩ := h
    have hr1 : Room 1 _ := hr.mono (by decide)
    have hr2 : Room 2 _ := hr.mono (by decide)
    refine ⟨_, pss_cons (ps_asg (pe_call GP hr1 (by rfl) DP.g DP.F.kp bP .nil pass0 (pa_cons (pv 1) pa_nil))
          (pg_tup rfl (pgs_cons (pg_name (i := 2) scQuo.nd rfl (.inl rfl)) (pgs_cons (pg_name (i := 3) scQuo.nd rfl (.inl rfl)) pgs_nil))))
      (pss_one (ps_ret (pe_call GM hr (by rfl) DM.g DM.F.kp bM .nil pass0 (pa_cons (pv 0) (pa_cons (pe_call GL hr2 (by rfl) DL.g DL.F.kp bL .nil pass0 (pa_cons (pv 3) (pa_cons (pv 2) pa_nil))) pa_nil))))), ?_⟩
    refine ⟨_, rfl, u, r, rfl, fu, fun t1 H1 s1 e1 => ?_⟩
    refine ⟨t1, _, rfl, .inl (.inl e1), rfl, _, _, rfl, _, _, rfl, rfl, ?_⟩
    refine ⟨_, rfl, _, rfl, _, rfl, _, _, rfl, n, Nat.lt_of_lt_of_le br.1 (Nat.pow_le_pow_right (by decide) (by decide)), fun z H2 s2 fz => ?_⟩
    exact ⟨_, p, _, _, rfl, fv.same (s1.trans s2), fz, lp, low_ok n, bp, low_bd br.2 br.1, fun z' H3 s3 fz' => q z' H3 ((s1.trans s2).trans s3) fz'⟩
/-! ### times -/
def spTim : Sp := fun vs H Q _ => ∃ v p u r, vs = [v, u] ∧ Frac H v p ∧ Frac H u r ∧ Low p ∧ Low r ∧ Bd 4200 p ∧ Bd 4200 r ∧ ∀ z H', Same H H' → Frac H' z (mul p r) → Q z H'
theorem scTim : FnScope ["a", "b"] ["a", "b"] (defScope sTim) := ⟨rfl, rfl, rfl, by decide +kernel, rfl, by decide +kernel, by decide +kernel⟩
theorem ok_tim {f fN fM CB : Addr} {fd fdN fdM : FuncData} (D : Df K mg "times" sTim f fd) (DN : Df K mg "need_fractions" sNeed fN fdN) (bN : Binds K fdN ["things"] []) (GN : FnOk P w K mg base (L2.CX P w) 3 fN fdN ["things"] (spNeed CB))
    (DM : Df K mg "product" sPro fM fdM) (bM : Binds K fdM ["a", "b"] []) (GM : FnOk P w K mg base CX0 3 fM fdM ["a", "b"] spPro) : FnOk P w K mg base (L2.CX P w) 4 f fd ["a", "b"] spTim := by
  refine D.F.okX scTim (fun vs H Q E h => ?_) (fun cdv A outer s H vs Q E hr h => ?_)
  · obtain ⟨v, p, u, r, rfl, _⟩ := h
    rfl
  · obtain ⟨v, p, u, r, rfl, fv, fu, lp, lr, bp, br, q⟩ := h
    refine ⟨_, pss_cons (ps_expr (pe_callS GN hr (by rfl) DN.g DN.F.kp bN (fun σ => passAt (takes_of rfl rfl rfl rfl) σ) (pa_cons (pe_tup (pa_cons (pv 0) (pa_cons (pv 1) pa_nil))) pa_nil)))
      (pss_one (ps_ret (pe_call GM hr (by rfl) DM.g DM.F.kp bM .nil pass0 (pa_cons (pv 0) (pa_cons (pv 1) pa_nil))))), ?_⟩
    refine ⟨_, rfl, _, rfl, (by show 2 ≤ sizeLine; decide), fun t nt => ?_⟩
    have s1 : Same H (upd H t (.tup [v, u])) := same_new nt
    refine ⟨t, [v, u], [true, true], rfl, upd_same, by simp, rfl, fun i x hi => ?_, fun _ H' s2 => ?_, fun z => absurd z (by simp)⟩
    · match i, hi with
      | 0, hi =>
        have e : v = x := Option.some.inj hi
        exact ⟨true, rfl, e ▸ (fv.isF lp).same s1⟩
      | 1, hi =>
        have e : u = x := Option.some.inj hi
        exact ⟨true, rfl, e ▸ (fu.isF lr).same s1⟩
      | i + 2, hi => simp at hi
    · refine ⟨_, rfl, _, rfl, v, p, u, r, rfl, (fv.same s1).same s2, (fu.same s1).same s2, lp, lr, bp, br, fun z H3 s3 fz => q z H3 ((s1.trans s2).trans s3) fz⟩
end
end Cw
namespace Cw
open PySem PySem.Spec PyProof.Rows L2
section
variable {P : Program} {w : World} {K : PySem.W.Frag} {mg : Str → Option Value} {base : Heap}
/-! ### power -/
/-- what power does of a value and a count: refuses the one, then the other, then 0 below 0; else the power -/
inductive PowC (CF CN CP : Addr) (H : Hp) (Q : VK) (E : XK) : V → V → Prop where
  | badF {v c : V} (h : IsF H v false) (o : Out E CF H) : PowC CF CN CP H Q E v c
  | badN {v c : V} {p : Int × Int} {t : String} (f : Frac H v p) (l : Low p) (k : Kn H c t) (n : t = "int" → ∃ i, c = .int i ∧ ¬ (-20 ≤ i ∧ i ≤ 20)) (o : Out E CN H) : PowC CF CN CP H Q E v c
  | zero {v : V} {i : Int} (f : Frac H v (0, 1)) (h : i < 0) (h2 : -20 ≤ i) (o : Out E CP H) : PowC CF CN CP H Q E v (.int i)
  | good {v : V} {p : Int × Int} {i : Int} (k : Nat) (f : Frac H v p) (l : Low p) (h1 : -20 ≤ i) (h2 : i ≤ 20) (h3 : 0 ≤ i ∨ p.1 ≠ 0) (b : Bd k p) (hk : k ≤ 4000) (hki : k * i.natAbs ≤ 4000) (q : ∀ z H', Same H H' → Frac H' z (pz p i) → Q z H') : PowC CF CN CP H Q E v (.int i)
def spPow (CF CN CP : Addr) : Sp := fun vs H Q E => ∃ v c, vs = [v, c] ∧ PowC CF CN CP H Q E v c
theorem scPow : FnScope ["a", "count", "found", "by", "turn"] ["a", "count"] (defScope sPow) := ⟨rfl, rfl, rfl, by decide +kernel, rfl, by decide +kernel, by decide +kernel⟩
theorem ok_pow {f fN fI fQ fM CF CN CP iN iP : Addr} {fd fdN fdI fdQ fdM : FuncData} {mp : Tok} (D : Df K mg "power" sPow f fd) (B : Bi mg) (hmp : mg "MOST_POWER" = some (.int 20 mp)) (TN : OwnN K mg CN iN) (TP : OwnP K mg CP iP)
    (DN : Df K mg "need_fractions" sNeed fN fdN) (bN : Binds K fdN ["things"] []) (GN : FnOk P w K mg base (L2.CX P w) 3 fN fdN ["things"] (spNeed CF))
    (DI : Df K mg "is_number" sNum fI fdI) (bI : Binds K fdI ["thing"] []) (GI : FnOk P w K mg base CX0 1 fI fdI ["thing"] spNum)
    (DQ : Df K mg "quotient" sQuo fQ fdQ) (bQ : Binds K fdQ ["a", "b"] []) (GQ : FnOk P w K mg base CX0 4 fQ fdQ ["a", "b"] spQuo)
    (DM : Df K mg "product" sPro fM fdM) (bM : Binds K fdM ["a", "b"] []) (GM : FnOk P w K mg base CX0 3 fM fdM ["a", "b"] spPro) : FnOk P w K mg base (L2.CX P w) 5 f fd ["a", "count"] (spPow CF CN CP) := by
  refine D.F.okX scPow (fun vs H Q E h => ?_) (fun cdv A outer s H vs Q E hr h => ?_)
  · obtain ⟨v, c, rfl, _⟩ := h
    rfl
  · obtain ⟨v, c, rfl, h⟩ := h
    have hr1 : Room 1 _ := hr.mono (by decide)
    have hr3 : Room 3 _ := hr.mono (by decide)
    refine ⟨_, pss_cons (ps_expr (pe_callS GN hr3 (by rfl) DN.g DN.F.kp bN (fun σ => passAt (takes_of rfl rfl rfl rfl) σ) (pa_cons (pe_tup (pa_cons (pv 0) pa_nil)) pa_nil)))
      (pss_cons (ps_if (PW.pt (pw_or (pt_not (pt_val (pe_call GI hr1 (by rfl) DI.g DI.F.kp bI .nil pass0 (pa_cons (pv 1) pa_nil))))
            (pw_or1 (pt_not (pt_chain op_le op_le (pe_un un_neg (pe_glob (v := .int 20) rfl hmp ⟨_, rfl⟩)) (pv 1) (pe_glob (v := .int 20) rfl hmp ⟨_, rfl⟩))))))
          (pss_one (ps_raX rfl F.excBase_ValueError F.store_ValueError TN hr (takes_of rfl rfl rfl rfl) (pa_cons pe_str pa_nil))) pss_nil)
      (pss_cons (ps_if (PW.pt (pw_and (pt_cmpR (op_eqD hr.units) (pv 0) pe_int (nomark _)) (pw_and1 (pt_cmpR op_lt (pv 1) pe_int (nomark _)))))
          (pss_one (ps_raX rfl F.excBase_ArithmeticError F.store_ArithmeticError TP hr (takes_of rfl rfl rfl rfl) (pa_cons pe_str pa_nil))) pss_nil)
      (pss_cons (ps_par (i := 2) (j := 3) (by rfl) scPow.nd rfl rfl (by decide) rfl rfl (pa_cons pe_int (pa_cons (pe_ifExp (pt_cmpR op_ge (pv 1) pe_int (nomark _)) (pv 0) (pe_call GQ hr (by rfl) DQ.g DQ.F.kp bQ .nil pass0 (pa_cons pe_int (pa_cons (pv 0) pa_nil)))) pa_nil)) (by rfl))
      (pss_cons (ps_for (passes_of rfl) rfl (pi_range1 (by rfl) B.rng (pa_cons (pe_callB call_abs (by rfl) B.abs (by decide +kernel) (pa_cons (pv 1) pa_nil)) pa_nil)) (pg_name (i := 4) scPow.nd rfl (.inl rfl))
          (pss_one (ps_set (i := 2) scPow.nd rfl (.inl rfl) (pe_call GM hr3 (by rfl) DM.g DM.F.kp bM .nil pass0 (pa_cons (pv 2) (pa_cons (pv 3) pa_nil))))))
      (pss_one (ps_ret (pv 2))))))), ?_⟩
    refine ⟨_, rfl, (by show 1 ≤ sizeLine; decide), fun t nt => ?_⟩
    have s1 : Same H (upd H t (.tup [v])) := same_new nt
    have items : ∀ b, IsF H v b → ∀ (i : Nat) (x : V), [v][i]? = some x → ∃ b', [b][i]? = some b' ∧ IsF (upd H t (.tup [v])) x b' := fun b kb i x hi => by
      match i, hi with
      | 0, hi =>
        have e : v = x := Option.some.inj hi
        exact ⟨b, rfl, e ▸ kb.same s1⟩
      | i + 1, hi => simp at hi
    cases h with
    | badF hF o => exact ⟨t, [v], [false], rfl, upd_same, by simp, rfl, items false hF, fun z => absurd z (by simp), fun _ => o.mono s1⟩
    | badN fr l k n o =>
      rename_i p t'
      refine ⟨t, [v], [true], rfl, upd_same, by simp, rfl, items true (fr.isF l), fun _ H1 s2' => ?_, fun z => absurd z (by simp)⟩
      have s2 := s1.trans s2'
      refine ⟨_, rfl, c, _, rfl, k.same s2, _, rfl, ?_⟩
      by_cases ct : t' = "int"
      · obtain ⟨i, rfl, hi⟩ := n ct
        refine no (by simp [ct]) ?_
        refine ⟨20, rfl, _, rfl, _, _, rfl, rfl, _, rfl, ?_⟩
        by_cases c1 : (-20 : Int) ≤ i
        · refine yes (decide_eq_true c1) ?_
          refine ⟨_, _, rfl, rfl, _, rfl, ?_⟩
          refine yes (by rw [decide_eq_false (show ¬ i ≤ 20 from fun z => hi ⟨c1, z⟩)]; rfl) ?_
          exact ⟨_, rfl, fun d nd => o _ _ _ (s2.trans (same_new nd)) upd_same⟩
        · refine no (decide_eq_false c1) ?_
          refine ⟨_, rfl, iteT ?_⟩
          exact ⟨_, rfl, fun d nd => o _ _ _ (s2.trans (same_new nd)) upd_same⟩
      · refine yes (by simp [ct]) (iteT ?_)
        exact ⟨_, rfl, fun d nd => o _ _ _ (s2.trans (same_new nd)) upd_same⟩
    | zero fr h h2 o =>
      rename_i i
      refine ⟨t, [v], [true], rfl, upd_same, by simp, rfl, items true (fr.isF ⟨by decide, by decide⟩), fun _ H1 s2' => ?_, fun z => absurd z (by simp)⟩
      have s2 := s1.trans s2'
      refine ⟨_, rfl, _, _, rfl, .int i, _, rfl, no (by simp) ?_⟩
      refine ⟨20, rfl, _, rfl, _, _, rfl, rfl, _, rfl, yes (decide_eq_true h2) ?_⟩
      refine ⟨_, _, rfl, rfl, _, rfl, no (by rw [decide_eq_true (show i ≤ 20 by omega)]; rfl) ?_⟩
      obtain ⟨d, e1, e2, e3⟩ := Frac.zero? (K := K) (fr.same s2) ⟨by decide, by decide⟩
      refine ⟨_, rfl, d, .int 0, e1, .int 0, e2, rfl, _, rfl, yes (by rw [e3]; rfl) ?_⟩
      refine ⟨_, rfl, _, _, rfl, rfl, _, rfl, yes (decide_eq_true h) ?_⟩
      exact ⟨_, rfl, fun d nd => o _ _ _ (s2.trans (same_new nd)) upd_same⟩
    | good k fr l h1 h2 h3 bd hk hki q =>
      rename_i p i
      refine ⟨t, [v], [true], rfl, upd_same, by simp, rfl, items true (fr.isF l), fun _ H1 s2' => ?_, fun z => absurd z (by simp)⟩
      have s2 := s1.trans s2'
      have f2 := fr.same s2
      refine ⟨_, rfl, _, _, rfl, .int i, _, rfl, no (by simp) ?_⟩
      refine ⟨20, rfl, _, rfl, _, _, rfl, rfl, _, rfl, yes (decide_eq_true h1) ?_⟩
      refine ⟨_, _, rfl, rfl, _, rfl, no (by rw [decide_eq_true h2]; rfl) ?_⟩
      -- the loop, by whatever is multiplied
      have go : ∀ (vb : V) (r : Int × Int) (H3 : Hp), Same H H3 → Frac H3 vb r → Low r → Bd (k + 1) r → pw r i.natAbs = pz p i →
          tSeq (tFor (iRng1 (tCons (tCB (fun xs H Q => ∃ i, xs = [V.int i] ∧ Q (V.int (if i < 0 then -i else i)) H) (tCons (tVar 1) tNil)) tNil)) (gName 4) (tAsg (tCall spPro [] E0 (tCons (tVar 2) (tCons (tVar 3) tNil))) (gName 2))) (tRet (tVar 2))
            { nx := fun _ H' => Q .non H', rt := Q } [some v, some (.int i), some (.int 1), some vb, none] H3 := fun vb r H3 s3 f3 l3 b3 e3 => by
        have ej : (if i < 0 then -i else i).toNat = i.natAbs := by split <;> omega
        refine ⟨_, rfl, i, rfl, _, rfl, by split <;> omega, by split <;> omega, ?_⟩
        rw [ej]
        refine for_range (lo := 0) (n := i.natAbs) (fun n σ H4 => Same H H4 ∧ ∃ vf vt, σ = [some v, some (.int i), some vf, some vb, vt] ∧ Frac H4 vf (pw r n) ∧ Frac H4 vb r) ⟨s3, _, _, rfl, by rw [pw_zero]; exact Frac.int _ _, f3⟩ ?_ ?_
        · rintro n σ H4 hn ⟨s4, vf, vt, rfl, f4, f5⟩
          have hb : Bd 4200 (pw r n) := (pw_bd b3 n).mono (by
            have e : (k + 1) * n ≤ (k + 1) * i.natAbs := Nat.mul_le_mul_left _ (by omega)
            have e2 : (k + 1) * i.natAbs = k * i.natAbs + i.natAbs := Nat.succ_mul ..
            omega)
          refine ⟨_, rfl, _, rfl, _, _, _, _, rfl, f4, f5, pw_low l3 n, l3, hb, b3.mono (by omega), fun z H5 s5 fz => ?_⟩
          refine ⟨s4.trans s5, _, _, rfl, ?_, f5.same s5⟩
          rw [← pw_succ l3]
          exact fz
        · rintro σ H4 ⟨s4, vf, vt, rfl, f4, f5⟩
          rw [e3] at f4
          exact ⟨_, rfl, q _ _ s4 f4⟩
      -- found, by = ..
      have par : tSeq (tPar 2 3 (tCons (tC (.int 1)) (tCons (tIf (tTest (tOp (rI0 fun i j => V.bl (decide (j ≤ i))) (tVar 1) (tC (.int 0)))) (tVar 0) (tCall spQuo [] E0 (tCons (tC (.int 1)) (tCons (tVar 0) tNil)))) tNil)))
          (tSeq (tFor (iRng1 (tCons (tCB (fun xs H Q => ∃ i, xs = [V.int i] ∧ Q (V.int (if i < 0 then -i else i)) H) (tCons (tVar 1) tNil)) tNil)) (gName 4) (tAsg (tCall spPro [] E0 (tCons (tVar 2) (tCons (tVar 3) tNil))) (gName 2))) (tRet (tVar 2)))
          { nx := fun _ H' => Q .non H', rt := Q } [some v, some (.int i), none, none, none] H1 := by
        refine ⟨_, rfl, _, _, rfl, rfl, _, rfl, ?_⟩
        by_cases hi : 0 ≤ i
        · refine yes (decide_eq_true hi) ?_
          refine ⟨_, rfl, _, _, rfl, ?_⟩
          exact go v p H1 s2 f2 l (bd.mono (by omega)) (by unfold pz; rw [if_pos hi])
        · have n0 : p.1 ≠ 0 := h3.resolve_left hi
          refine no (decide_eq_false hi) ?_
          refine ⟨_, rfl, _, (1, 1), _, p, rfl, Frac.int _ _, f2, low_one, l, n0, ⟨by decide, by decide⟩, bd.mono (by omega), fun z H3 s3 fz => ?_⟩
          refine ⟨_, _, rfl, ?_⟩
          exact go z (inv p) H3 (s2.trans s3) fz (inv_low l n0) (by have := inv_bd bd; rw [Nat.add_comm] at this; exact this) (by rw [pw_inv l n0]; unfold pz; rw [if_neg hi])
      obtain ⟨d, e1, e2, e3⟩ := Frac.zero? (K := K) f2 l
      refine ⟨_, rfl, d, .int 0, e1, .int 0, e2, rfl, _, rfl, ?_⟩
      by_cases c : p.1 = 0
      · refine yes (by rw [e3]; exact decide_eq_true c) ?_
        refine ⟨_, rfl, _, _, rfl, rfl, _, rfl, no (decide_eq_false (by have := h3.resolve_right (fun z => z c); omega)) ?_⟩
        exact par
      · refine no (by rw [e3]; exact decide_eq_false c) (iteF ?_)
        exact par
end
end Cw
/-! The law's own defs: what all is drawn by. -/
namespace Cw
open PySem PySem.Spec PyProof.Rows L2
abbrev sBeg : Stmt := top 19
abbrev sDraw : Stmt := top 20
abbrev sLLow : Stmt := top 21
abbrev sLPair : Stmt := top 22
abbrev sWhole : Stmt := top 23
abbrev sFra : Stmt := top 24
abbrev sSaid : Stmt := top 25
abbrev sOdd : Stmt := top 26
abbrev sLPow : Stmt := top 27
abbrev sRef : Stmt := top 28
abbrev sLaw : Stmt := top 29
def kvM (g : Addr) (sm k : Int) : List (Key × V) := [(Sum.inr "great", .ref g), (Sum.inr "small", .int sm), (Sum.inr "at", .int k)]
/-- what is drawn by: the dict at m, its list at g -/
structure Dr (H : Hp) (m g : Addr) (gs : List Int) (sm k : Int) : Prop where
  em : H m = some (.dK (kvM g sm k))
  eg : H g = some (.lst (gs.map V.int))
  len : gs.length ≤ 63
  s0 : 0 ≤ sm
  s1 : sm.natAbs < 2 ^ 4000
  k0 : 0 ≤ k
theorem Dr.ne {H : Hp} {m g : Addr} {gs : List Int} {sm k : Int} (d : Dr H m g gs sm k) : m ≠ g := ne_of d.em d.eg (fun z => by cases z)
/-- all that is tracked stands, but the dict at m and the list at g -/
def Kp (m g : Addr) (H H' : Hp) : Prop := ∀ b o, b ≠ m → b ≠ g → H b = some o → H' b = some o
theorem Kp.refl (m g : Addr) (H : Hp) : Kp m g H H := fun _ _ _ _ e => e
theorem Kp.trans {m g : Addr} {H H1 H2 : Hp} (a : Kp m g H H1) (b : Kp m g H1 H2) : Kp m g H H2 := fun c o h1 h2 e => b c o h1 h2 (a c o h1 h2 e)
theorem Same.kp {m g : Addr} {H H' : Hp} (s : Same H H') : Kp m g H H' := fun b o _ _ e => s b o e
theorem Kp.set {m g p : Addr} {H : Hp} {o : HO} (h : p = m ∨ p = g) : Kp m g H (upd H p o) := fun b x h1 h2 e => by
  rw [upd_ne (by rintro rfl; exact h.elim h1 h2)]
  exact e
theorem Dr.same {H H' : Hp} {m g : Addr} {gs : List Int} {sm k : Int} (d : Dr H m g gs sm k) (s : Same H H') : Dr H' m g gs sm k := ⟨s _ _ d.em, s _ _ d.eg, d.len, d.s0, d.s1, d.k0⟩
theorem Dr.frac {H H' : Hp} {m g : Addr} {gs : List Int} {sm k : Int} {v : V} {p : Int × Int} (d : Dr H m g gs sm k) (f : Frac H v p) (s : Kp m g H H') : Frac H' v p := f.ext fun b xs e =>
  s b _ (ne_of e d.em (fun z => by cases z)) (ne_of e d.eg (fun z => by cases z)) e
theorem Dr.free {H : Hp} {m g : Addr} {gs : List Int} {sm k : Int} (d : Dr H m g gs sm k) {p : Addr} (h : H p = none) : p ≠ m ∧ p ≠ g := by
  refine ⟨fun z => ?_, fun z => ?_⟩
  · rw [z, d.em] at h
    cases h
  · rw [z, d.eg] at h
    cases h
theorem ne1 : ¬ (("great" : Str) = "small") := by decide +kernel
theorem ne2 : ¬ (("great" : Str) = "at") := by decide +kernel
theorem ne3 : ¬ (("small" : Str) = "at") := by decide +kernel
theorem kne {x y : Str} (h : ¬ x = y) : ¬ ((Sum.inr x : Key) = Sum.inr y) := fun z => h (Sum.inr.inj z)
theorem get_great (g : Addr) (sm k : Int) : valV (kvM g sm k) (Sum.inr "great") = some (.ref g) := valV_pos rfl
theorem get_small (g : Addr) (sm k : Int) : valV (kvM g sm k) (Sum.inr "small") = some (.int sm) := (valV_neg (kne ne1)).trans (valV_pos rfl)
theorem get_at (g : Addr) (sm k : Int) : valV (kvM g sm k) (Sum.inr "at") = some (.int k) := (valV_neg (kne ne2)).trans ((valV_neg (kne ne3)).trans (valV_pos rfl))
theorem put_small (g : Addr) (sm k y : Int) : putK (kvM g sm k) (Sum.inr "small") (.int y) = kvM g y k := by
  have a : ((kvM g sm k).any fun kv => decide (kv.1 = (Sum.inr "small" : Key))) = true := by rw [valV_any, get_small]; rfl
  unfold putK
  rw [if_pos a]
  unfold kvM
  simp only [List.map_cons, List.map_nil, if_neg (kne ne1), if_neg (kne (fun z => ne3 z.symm)), if_true]
theorem put_at (g : Addr) (sm k y : Int) : putK (kvM g sm k) (Sum.inr "at") (.int y) = kvM g sm y := by
  have a : ((kvM g sm k).any fun kv => decide (kv.1 = (Sum.inr "at" : Key))) = true := by rw [valV_any, get_at]; rfl
  unfold putK
  rw [if_pos a]
  unfold kvM
  simp only [List.map_cons, List.map_nil, if_neg (kne ne2), if_neg (kne ne3), if_true]
theorem merge_m (g : Addr) : mergeK [] (kvM g 0 0) = kvM g 0 0 := by
  unfold mergeK kvM
  simp only [List.foldl_cons, List.foldl_nil]
  rw [putK_new _ valV_nil, List.nil_append, putK_new _ ((valV_neg (kne ne1)).trans valV_nil), List.cons_append, List.nil_append, putK_new _ ((valV_neg (kne ne2)).trans ((valV_neg (kne ne3)).trans valV_nil))]
  rfl
theorem Dr.great {H : Hp} {m g : Addr} {gs : List Int} {sm k : Int} (d : Dr H m g gs sm k) : DGet H m (kV (Sum.inr "great")) (some (.ref g)) := by
  have z := DGet.k (k := Sum.inr "great") d.em
  rw [get_great] at z
  exact z
theorem Dr.small {H : Hp} {m g : Addr} {gs : List Int} {sm k : Int} (d : Dr H m g gs sm k) : DGet H m (kV (Sum.inr "small")) (some (.int sm)) := by
  have z := DGet.k (k := Sum.inr "small") d.em
  rw [get_small] at z
  exact z
theorem Dr.at' {H : Hp} {m g : Addr} {gs : List Int} {sm k : Int} (d : Dr H m g gs sm k) : DGet H m (kV (Sum.inr "at")) (some (.int k)) := by
  have z := DGet.k (k := Sum.inr "at") d.em
  rw [get_at] at z
  exact z
theorem e18 : (10 : Int) ^ (18 : Int).toNat = 1000000000000000000 := by decide
section
variable {P : Program} {w : World} {K : PySem.W.Frag} {mg : Str → Option Value} {base : Heap}
/-! ### _law_begun -/
def spBeg (K : PySem.W.Frag) : Sp := fun vs H Q _ => ∃ (a : Addr) (ns : List Int), vs = [.ref a] ∧ SqL K H a (ns.map V.int) ∧ ns.length ≤ 63 ∧ ∀ m g gs sm H', Same H H' → Dr H' m g gs sm 0 → Q (.ref m) H'
theorem scBeg : FnScope ["_law_script", "_law_cell", "_law_m"] ["_law_script"] (defScope sBeg) := ⟨rfl, rfl, rfl, by decide +kernel, rfl, by decide +kernel, by decide +kernel⟩
theorem small_step {a z B : Int} (h0 : 0 ≤ a) (h1 : a + 1 ≤ B) : a * 1000000000000000000 + z % 1000000000000000000 + 1 + 1 ≤ B * 1152921504606846976 := by omega
theorem ok_beg {f : Addr} {fd : FuncData} (D : Df K mg "_law_begun" sBeg f fd) : FnOk P w K mg base CX0 1 f fd ["_law_script"] (spBeg K) := by
  refine D.F.ok scBeg (fun vs H Q E h => ?_) (fun cdv A outer s H vs Q E hr h => ?_)
  · obtain ⟨a, ns, rfl, _⟩ := h
    rfl
  · obtain ⟨a, ns, rfl, hS, hl, q⟩ := h
    have hu := hu_of hr
    refine ⟨_, pss_cons (ps_set (i := 2) scBeg.nd rfl (.inl rfl) (pe_disp (pps_cons pe_str
          (pe_lc (own := [("_law_cell", 1)]) (g := gName 1) rfl scBeg.nd (pi_list (pv 0)) (blkOk_by (N := ["_law_script", "_law_cell", "_law_m"]) (sc := defScope sBeg) (by decide +kernel)) (fun _ _ _ _ _ => pg_name (i := 1) scBeg.nd rfl (Or.inl rfl))
            (fun _ _ _ _ _ => pts_one (pt_cmpR op_ge (pv 1) (pe_op op_pow pe_int pe_int) (nomark _))) (fun _ _ _ _ _ => pv 1))
          (pps_cons pe_str pe_int (pps_cons pe_str pe_int pps_nil))) (by rfl) (by rfl) (fun z => by cases z) (by decide)))
      (pss_cons (ps_for PassesOwn.never rfl (pi_list (pv 0)) (pg_name (i := 1) scBeg.nd rfl (.inl rfl))
          (pss_one (ps_if (pt_cmpR op_lt (pv 1) (pe_op op_pow pe_int pe_int) (nomark _))
            (pss_one (ps_dput hu (pv 2) pe_str (pe_op op_add (pe_op op_add (pe_op op_mulW (pe_dget hu (pv 2) pe_str (fun _ _ => rfl)) (pe_op op_pow pe_int pe_int)) (pe_op op_mod (pv 1) (pe_op op_pow pe_int pe_int))) pe_int) rfl)) pss_nil)))
      (pss_one (ps_ret (pv 2)))), ?_⟩
    intro m nm
    have hS1 : ∀ H', Same H H' → SqL K H' a (ns.map V.int) := fun H' s => s.seq hS
    have sm1 : Same H (upd H m (.dK [])) := same_new nm
    refine ⟨_, rfl, a, rfl, ⟨_, hS1 _ sm1⟩, fun g ng => lc_list (K := K) (a := a) (xs := ns.map V.int) (fun i H1 => Same (upd H m (.dK [])) H1 ∧ ∃ gs : List Int, H1 g = some (.lst (gs.map V.int)) ∧ gs.length ≤ i) ⟨same_new ng, [], upd_same, Nat.le_refl _⟩ (fun i H1 _ ⟨s, _⟩ => hS1 _ (sm1.trans s)) ?_ ?_⟩
    · rintro i x H1 hi ⟨s, gs, eg, lg⟩
      obtain ⟨z, hz, rfl⟩ : ∃ z, ns[i]? = some z ∧ V.int z = x := by
        rw [List.getElem?_map] at hi
        exact Option.map_eq_some_iff.mp hi
      refine ⟨rfl, _, rfl, _, _, rfl, rfl, (by show 0 ≤ (18 : Int) ∧ _; decide), _, _, rfl, rfl, _, rfl, ?_⟩
      by_cases c : (10 : Int) ^ (18 : Int).toNat ≤ z
      · refine yes (decide_eq_true c) ?_
        have hi2 : i < ns.length := (List.getElem?_eq_some_iff.mp hz).1
        refine ⟨_, rfl, _, eg, small1000 (by rw [List.length_map]; omega), fun b o e => ?_, gs ++ [z], ?_, by simp; omega⟩
        · rw [upd_ne (ne_of_none e ng)]
          exact s b o e
        · rw [upd_same, List.map_append]
          rfl
      · refine no (decide_eq_false c) ?_
        exact ⟨s, gs, eg, by omega⟩
    · rintro H1 ⟨s, gs, eg, lg⟩
      rw [List.length_map] at lg
      refine ⟨s _ _ upd_same, kvM g 0 0, rfl, by show 3 ≤ 15; decide, ?_⟩
      rw [merge_m]
      have gm : g ≠ m := ne_of eg (s _ _ upd_same) (fun z => by cases z)
      have s2 : Same H (upd H1 m (.dK (kvM g 0 0))) := fun b o e => by
        rw [upd_ne (ne_of_none e nm)]
        exact s _ _ (sm1 _ _ e)
      have d0 : Dr (upd H1 m (.dK (kvM g 0 0))) m g gs 0 0 := ⟨upd_same, by rw [upd_ne gm]; exact eg, by omega, by decide, by decide +kernel, by decide⟩
      refine ⟨_, rfl, a, rfl, ⟨_, hS1 _ s2⟩, for_list (K := K) (a := a) (xs := ns.map V.int) (fun i σ H3 => ∃ (sm : Int) (v1 : Option V), σ = [some (.ref a), v1, some (.ref m)] ∧ Same H H3 ∧ Dr H3 m g gs sm 0 ∧ sm + 1 ≤ ((2 ^ (60 * i) : Nat) : Int)) ⟨0, none, rfl, s2, d0, by simp⟩ (fun i σ H3 _ ⟨_, _, _, s, _⟩ => hS1 _ s) ?_ ?_⟩
      · rintro i x σ H3 hi ⟨sm, v1, rfl, s3, d3, b3⟩
        have hi2 : i < ns.length := by
          have := (List.getElem?_eq_some_iff.mp hi).1
          rwa [List.length_map] at this
        obtain ⟨z, hz, rfl⟩ : ∃ z, ns[i]? = some z ∧ V.int z = x := by
          rw [List.getElem?_map] at hi
          exact Option.map_eq_some_iff.mp hi
        have grow : ((2 ^ (60 * (i + 1)) : Nat) : Int) = ((2 ^ (60 * i) : Nat) : Int) * 1152921504606846976 := by
          rw [show 60 * (i + 1) = 60 * i + 60 from by omega, Nat.pow_add, Int.natCast_mul]
          rfl
        have one : (1 : Int) ≤ ((2 ^ (60 * i) : Nat) : Int) := by
          have : 0 < 2 ^ (60 * i) := Nat.pow_pos (by decide)
          omega
        refine ⟨_, rfl, _, _, rfl, rfl, (by show 0 ≤ (18 : Int) ∧ _; decide), _, _, rfl, rfl, _, rfl, ?_⟩
        by_cases c : z < (10 : Int) ^ (18 : Int).toNat
        · refine yes (decide_eq_true c) ?_
          refine ⟨_, rfl, m, _, rfl, d3.small, _, _, rfl, rfl, (by show 0 ≤ (18 : Int) ∧ _; decide), _, _, rfl, rfl, ?_, _, rfl, _, _, rfl, rfl, (by show 0 ≤ (18 : Int) ∧ _; decide), _, _, rfl, rfl, ?_, _, _, rfl, rfl, _, _, rfl, rfl, _, rfl, m, _, rfl, DPut.k (k := Sum.inr "small") d3.em (by show 3 < sizeLine; decide), ?_⟩
          · exact wide_mul (a := 4000) (b := 60) d3.s1 (by decide) (by decide) (by decide) (by decide)
          · show (0 : Int) < 10 ^ (18 : Int).toNat
            rw [e18]
            decide
          · have z1 := small_step (z := z) d3.s0 b3
            rw [← grow] at z1
            show ∃ (sm' : Int) (v1 : Option V), _ = _ ∧ Same H (upd H3 m (.dK (putK (kvM g sm 0) (Sum.inr "small") (.int (sm * 10 ^ (18 : Int).toNat + z % 10 ^ (18 : Int).toNat + 1))))) ∧ _ ∧ _
            rw [put_small, e18]
            have p63 : 2 ^ (60 * (i + 1)) ≤ 2 ^ 4000 := Nat.pow_le_pow_right (by decide) (by omega)
            have nn : 0 ≤ sm * 1000000000000000000 + z % 1000000000000000000 + 1 := by have := d3.s0; omega
            refine ⟨_, _, rfl, fun b o e => ?_, ⟨upd_same, by rw [upd_ne d3.ne.symm]; exact d3.eg, d3.len, nn, ?_, by decide⟩, z1⟩
            · rw [upd_ne (ne_of_none e nm)]
              exact s3 _ _ e
            · generalize 2 ^ (60 * (i + 1)) = B at p63 z1
              generalize 2 ^ 4000 = C at p63
              omega
        · refine no (decide_eq_false c) ?_
          exact ⟨sm, _, rfl, s3, d3, by rw [grow]; omega⟩
      · rintro σ H3 ⟨sm, v1, rfl, s3, d3, b3⟩
        exact ⟨_, rfl, q m g gs sm H3 s3 d3⟩
end
end Cw
namespace Cw
open PySem PySem.Spec PyProof.Rows L2
def DrE (H : Hp) (m g : Addr) : Prop := ∃ gs sm k, Dr H m g gs sm k
theorem DrE.same {H H' : Hp} {m g : Addr} (d : DrE H m g) (s : Same H H') : DrE H' m g := by
  obtain ⟨gs, sm, k, d⟩ := d
  exact ⟨gs, sm, k, d.same s⟩
theorem DrE.frac {H H' : Hp} {m g : Addr} {v : V} {p : Int × Int} (d : DrE H m g) (f : Frac H v p) (s : Kp m g H H') : Frac H' v p := by
  obtain ⟨gs, sm, k, d⟩ := d
  exact d.frac f s
theorem dp_ints {K : PySem.W.Frag} {H : Hp} : ∀ gs : List Int, DpAll K H (gs.map V.int) (gs.map PyData.int)
  | [] => .nil
  | x :: r => .cons (.int x) (dp_ints r)
theorem can_ints : ∀ gs : List Int, PyData.canLayAll0 (gs.map PyData.int) = true ∧ PyData.depthAll (gs.map PyData.int) ≤ 1
  | [] => ⟨rfl, by decide⟩
  | x :: r => by
    obtain ⟨h1, h2⟩ := can_ints r
    refine ⟨?_, ?_⟩
    · simp only [List.map_cons, PyData.canLayAll0, h1, PyData.canLay0, Bool.and_true]
    · simp only [List.map_cons, PyData.depthAll, PyData.depth]
      omega
theorem shaped_ints (gs : List Int) : SeqAt.shaped (.list (gs.map PyData.int)) = true := by
  obtain ⟨h1, h2⟩ := can_ints gs
  unfold SeqAt.shaped
  simp only [PyData.canLay0, h1, PyData.depth, Bool.true_and]
  exact decide_eq_true (by omega)
theorem eqv_nil (gs : List Int) : PyData.eqv (.list (gs.map PyData.int)) (.list []) = gs.isEmpty := by
  cases gs <;> rfl
def P8 : List Int := [2147483647, 2147483629, 2147483587, 2147483579, 2147483563, 2147483549, 2147483543, 2147483497]
theorem p8_at (k : Int) : ∃ p, atI (P8.map V.int) (k % 8) = some (.int p) ∧ 0 < p ∧ p < 2147483648 := by
  have h1 : 0 ≤ k % 8 := Int.emod_nonneg k (by decide)
  have h2 : k % 8 < 8 := Int.emod_lt_of_pos k (by decide)
  obtain ⟨j, e⟩ : ∃ j : Nat, k % 8 = (j : Int) := ⟨(k % 8).toNat, by omega⟩
  have hj : j < 8 := by omega
  rw [e]
  match j, hj with
  | 0, _ => exact ⟨_, atI_nat (j := 0) rfl, by decide, by decide⟩
  | 1, _ => exact ⟨_, atI_nat (j := 1) rfl, by decide, by decide⟩
  | 2, _ => exact ⟨_, atI_nat (j := 2) rfl, by decide, by decide⟩
  | 3, _ => exact ⟨_, atI_nat (j := 3) rfl, by decide, by decide⟩
  | 4, _ => exact ⟨_, atI_nat (j := 4) rfl, by decide, by decide⟩
  | 5, _ => exact ⟨_, atI_nat (j := 5) rfl, by decide, by decide⟩
  | 6, _ => exact ⟨_, atI_nat (j := 6) rfl, by decide, by decide⟩
  | 7, _ => exact ⟨_, atI_nat (j := 7) rfl, by decide, by decide⟩
theorem rest_lt (x : Int) {p : Int} (h : 0 < p) : 0 ≤ x % p ∧ x % p < p := ⟨Int.emod_nonneg x (by omega), Int.emod_lt_of_pos x h⟩
theorem e64 {x : Int} (h0 : 0 ≤ x) (h1 : x < 2147483648) : -(2 ^ 64) < x ∧ x < 2 ^ 64 := ⟨by omega, by omega⟩
section
variable {P : Program} {w : World} {K : PySem.W.Frag} {mg : Str → Option Value} {base : Heap}
/-! ### _law_draw -/
def spDraw : Sp := fun vs H Q _ => ∃ (m g : Addr) (many : Int), vs = [.ref m, .int many] ∧ DrE H m g ∧ 1 ≤ many ∧ many ≤ 1000000000000000 ∧ ∀ r H', 0 ≤ r → r < many → DrE H' m g → Kp m g H H' → Q (.int r) H'
theorem scDraw : FnScope ["_law_m", "_law_many", "_law_k", "_law_at", "_law_cell", "_law_primes", "_law_mixed"] ["_law_m", "_law_many"] (defScope sDraw) := ⟨rfl, rfl, rfl, by decide +kernel, rfl, by decide +kernel, by decide +kernel⟩
theorem ok_draw {f : Addr} {fd : FuncData} (D : Df K mg "_law_draw" sDraw f fd) (B : Bi mg) : FnOk P w K mg base CX0 1 f fd ["_law_m", "_law_many"] spDraw := by
  refine D.F.ok scDraw (fun vs H Q E h => ?_) (fun cdv A outer s H vs Q E hr h => ?_)
  · obtain ⟨m, g, many, rfl, _⟩ := h
    rfl
  · obtain ⟨m, g, many, rfl, ⟨gs, sm, k, d⟩, m1, m2, q⟩ := h
    have hu := hu_of hr
    refine ⟨_, pss_cons (ps_set (i := 2) scDraw.nd rfl (.inl rfl) (pe_dget hu (pv 0) pe_str (fun _ _ => rfl)))
      (pss_cons (ps_dput hu (pv 0) pe_str (pe_op op_add (pv 2) pe_int) rfl)
      (C8.pss_cut (ps_if (pt_cmpR (op_neD hr.units) (pe_dget hu (pv 0) pe_str (fun _ _ => rfl)) (pe_lst pa_nil) (nomark _))
          (pss_cons (ps_set (i := 3) scDraw.nd rfl (.inl rfl) (pe_op op_mod (pv 2) (pe_callB call_len_seq (by rfl) B.len PySem.boot_len (pa_cons (pe_dget hu (pv 0) pe_str (fun _ _ => rfl)) pa_nil))))
          (pss_cons (ps_set (i := 4) scDraw.nd rfl (.inl rfl) (pe_ix ix_list (pe_dget hu (pv 0) pe_str (fun _ _ => rfl)) (pv 3) (fun _ _ => rfl)))
          (pss_one (ps_if (pt_cmpR op_gt (pv 4) pe_int (nomark _))
            (pss_cons (ps_asg (pe_op op_fdivW (pv 4) (pv 1)) (pg_sub (pe_dget hu (pv 0) pe_str (fun _ _ => rfl)) (pv 3) set_list))
            (pss_one (ps_ret (pe_op op_mod (pv 4) (pv 1))))) pss_nil)))) pss_nil)
      (pss_cons (ps_set (i := 5) scDraw.nd rfl (.inl rfl) (pe_lst (pa_cons pe_int (pa_cons pe_int (pa_cons pe_int (pa_cons pe_int (pa_cons pe_int (pa_cons pe_int (pa_cons pe_int (pa_cons pe_int pa_nil))))))))))
      (pss_cons (ps_set (i := 6) scDraw.nd rfl (.inl rfl) (pe_op op_mod (pe_op op_add (pe_op op_add (pe_dget hu (pv 0) pe_str (fun _ _ => rfl)) (pe_op op_mul pe_int (pv 2))) pe_int) (pe_ix ix_list (pv 5) (pe_op op_mod (pv 2) pe_int) (fun _ _ => rfl))))
      (pss_cons (ps_set (i := 6) scDraw.nd rfl (.inl rfl) (pe_op op_mod (pe_op op_add (pe_op op_mul (pv 6) (pe_op op_add pe_int (pe_op op_mul pe_int (pv 2)))) (pe_op op_mul pe_int (pv 2))) (pe_ix ix_list (pv 5) (pe_op op_mod (pv 2) pe_int) (fun _ _ => rfl))))
      (pss_one (ps_ret (pe_op op_mod (pe_op op_fdiv (pe_op op_mod (pe_op op_mul (pe_op op_mul (pv 6) (pv 6)) (pv 6)) (pe_ix ix_list (pv 5) (pe_op op_mod (pv 2) pe_int) (fun _ _ => rfl))) pe_int) (pv 1))))))))), ?_⟩
    refine ⟨_, rfl, m, _, rfl, d.at', ?_⟩
    refine ⟨_, rfl, _, _, rfl, rfl, _, rfl, m, _, rfl, DPut.k (k := Sum.inr "at") d.em (by show 3 < sizeLine; decide), ?_⟩
    rw [put_at]
    have d1 : Dr (upd H m (.dK (kvM g sm (k + 1)))) m g gs sm (k + 1) := ⟨upd_same, by rw [upd_ne d.ne.symm]; exact d.eg, d.len, d.s0, d.s1, by have := d.k0; omega⟩
    have k1 : Kp m g H (upd H m (.dK (kvM g sm (k + 1)))) := Kp.set (.inl rfl)
    generalize upd H m (.dK (kvM g sm (k + 1))) = H1 at d1 k1
    -- behind the if: the rest, from slots 3 and 4 whatever they are
    refine ⟨fun σ' H' => ∃ y3 y4, σ' = [some (.ref m), some (.int many), some (.int k), y3, y4, none, none] ∧ Kp m g H H' ∧ Dr H' m g gs sm (k + 1), ?_, ?_⟩
    · refine ⟨_, rfl, m, _, rfl, d1.great, Nat.zero_le _, fun l nl => ?_⟩
      have d2 := d1.same (same_new (o := .lst []) nl)
      have k2 : Kp m g H (upd H1 l (.lst [])) := k1.trans (Same.kp (same_new nl))
      have el : (upd H1 l (.lst [])) l = some (.lst []) := upd_same
      generalize upd H1 l (.lst []) = H2 at d2 k2 el
      refine ⟨.list (gs.map PyData.int), .list [], .lst (.inl (.inl d2.eg)) (dp_ints gs), .lst (.inl (.inl el)) .nil, shaped_ints gs, rfl, _, rfl, ?_⟩
      rw [eqv_nil]
      cases gs with
      | nil => exact iteF ⟨none, none, rfl, k2, d2⟩
      | cons x0 r0 =>
        refine iteT ?_
        generalize hgs : x0 :: r0 = gs at d2 d1 d
        have hne : 0 < gs.length := by rw [← hgs]; simp
        have hl0 : (0 : Int) < ((gs.map V.int).length : Int) := by rw [List.length_map]; omega
        obtain ⟨j0, j1⟩ := rest_lt k hl0
        obtain ⟨j, ej⟩ : ∃ j : Nat, k % ((gs.map V.int).length : Int) = (j : Int) := ⟨(k % ((gs.map V.int).length : Int)).toNat, by omega⟩
        have hj : j < gs.length := by
          rw [ej, List.length_map] at j1
          omega
        have hat : (gs.map V.int)[j]? = some (.int gs[j]) := by
          rw [List.getElem?_map, List.getElem?_eq_getElem hj]
          rfl
        refine ⟨_, rfl, _, rfl, m, _, rfl, d2.great, g, _, rfl, .inl (.inl (.inl d2.eg)), _, _, rfl, rfl, hl0, ?_⟩
        dsimp only
        rw [ej]
        refine ⟨_, rfl, m, _, rfl, d2.great, _, rfl, g, _, _, _, rfl, rfl, .inl (.inl d2.eg), atI_nat hat, ?_⟩
        refine ⟨_, rfl, _, _, rfl, rfl, _, rfl, ?_⟩
        by_cases c : 0 < gs[j]
        · refine yes (decide_eq_true c) ?_
          refine ⟨_, rfl, _, rfl, _, _, rfl, rfl, wide_div (b := 60) (by omega) (by omega) (by decide) (by decide), ?_⟩
          refine ⟨_, rfl, m, _, rfl, d2.great, _, rfl, g, _, _, j, rfl, rfl, d2.eg, by unfold ixN; rw [if_pos (by omega), if_pos (by rw [List.length_map]; omega)]; simp, ?_⟩
          refine ⟨_, rfl, _, rfl, _, _, rfl, rfl, (by show (0 : Int) < many; omega), ?_⟩
          have d3 : Dr (upd H2 g (.lst ((gs.map V.int).set j (.int (gs[j] / many))))) m g (gs.set j (gs[j] / many)) sm (k + 1) := ⟨by rw [upd_ne d2.ne]; exact d2.em, by rw [upd_same, List.map_set], by rw [List.length_set]; exact d2.len, d2.s0, d2.s1, d2.k0⟩
          obtain ⟨r0, r1⟩ := rest_lt gs[j] (show (0 : Int) < many by omega)
          exact q _ _ r0 r1 ⟨_, _, _, d3⟩ (k2.trans (Kp.set (.inr rfl)))
        · refine no (decide_eq_false c) ?_
          exact ⟨_, _, rfl, k2, d2⟩
    · rintro σ' H' ⟨y3, y4, rfl, k3, d3⟩
      refine ⟨by show 8 ≤ sizeLine; decide, fun l nl => ?_⟩
      have d4 := d3.same (same_new (o := .lst (P8.map V.int)) nl)
      have k4 : Kp m g H (upd H' l (.lst (P8.map V.int))) := k3.trans (Same.kp (same_new nl))
      have el : SqL K (upd H' l (.lst (P8.map V.int))) l (P8.map V.int) := .inl (.inl upd_same)
      obtain ⟨p, hp, p0, p1⟩ := p8_at k
      have h8 : (0 : Int) < 8 := by decide
      refine ⟨_, rfl, m, _, rfl, d4.small, _, rfl, _, _, rfl, rfl, .inl ⟨by decide, by decide⟩, _, _, rfl, rfl, _, _, rfl, rfl, _, rfl, _, rfl, _, _, rfl, rfl, h8, _, _, _, _, rfl, rfl, el, hp, _, _, rfl, rfl, p0, ?_⟩
      dsimp only
      obtain ⟨a0, a1⟩ := rest_lt (sm + 7919 * k + 17) p0
      generalize (sm + 7919 * k + 17) % p = x1 at a0 a1
      refine ⟨_, rfl, _, rfl, _, _, rfl, rfl, .inl ⟨by decide, by decide⟩, _, _, rfl, rfl, _, _, rfl, rfl, .inl (e64 a0 (by omega)), _, rfl, _, _, rfl, rfl, .inl ⟨by decide, by decide⟩, _, _, rfl, rfl, _, rfl, _, rfl, _, _, rfl, rfl, h8, _, _, _, _, rfl, rfl, el, hp, _, _, rfl, rfl, p0, ?_⟩
      dsimp only
      obtain ⟨b0, b1⟩ := rest_lt (x1 * (48271 + 2 * k) + 104729 * k) p0
      generalize (x1 * (48271 + 2 * k) + 104729 * k) % p = x2 at b0 b1
      refine ⟨_, rfl, _, rfl, _, _, rfl, rfl, .inl (e64 b0 (by omega)), _, rfl, _, _, rfl, rfl, .inr (e64 b0 (by omega)), _, rfl, _, rfl, _, _, rfl, rfl, h8, _, _, _, _, rfl, rfl, el, hp, _, _, rfl, rfl, p0, _, _, rfl, rfl, ⟨by decide, by decide⟩, _, rfl, _, _, rfl, rfl, (by show (0 : Int) < many; omega), ?_⟩
      obtain ⟨r0, r1⟩ := rest_lt (x2 * x2 * x2 % p / 7) (show (0 : Int) < many by omega)
      exact q _ _ r0 r1 ⟨_, _, _, d4⟩ k4
end
end Cw
namespace Cw
open PySem PySem.Spec PyProof.Rows L2
theorem gcd_emod (a b : Int) : Int.gcd b (a % b) = Int.gcd a b := by
  rw [Int.emod_def, Int.gcd_sub_mul_left_right, Int.gcd_comm]
section
variable {P : Program} {w : World} {K : PySem.W.Frag} {mg : Str → Option Value} {base : Heap}
/-! ### _law_lowest -/
theorem scLLow : FnScope ["_law_high", "_law_low", "_law_u", "_law_v", "_law_by"] ["_law_high", "_law_low"] (defScope sLLow) := ⟨rfl, rfl, rfl, by decide +kernel, rfl, by decide +kernel, by decide +kernel⟩
theorem ok_llow {f : Addr} {fd : FuncData} (D : Df K mg "_law_lowest" sLLow f fd) : FnOk P w K mg base CX0 1 f fd ["_law_high", "_law_low"] spLow := by
  refine D.F.ok scLLow (fun vs H Q E h => ?_) (fun cdv A outer s H vs Q E hr h => ?_)
  · obtain ⟨t, b, rfl, _⟩ := h
    rfl
  · obtain ⟨t, b, rfl, n, hb, q⟩ := h
    refine ⟨_, pss_cons (ps_asg (pe_ifExp (pt_cmpR op_ge (pv 0) pe_int (nomark _)) (pe_tup (pa_cons (pv 0) (pa_cons (pv 1) pa_nil))) (pe_tup (pa_cons (pe_op op_sub pe_int (pv 0)) (pa_cons (pv 1) pa_nil))))
          (pg_tup rfl (pgs_cons (pg_name (i := 2) scLLow.nd rfl (.inl rfl)) (pgs_cons (pg_name (i := 3) scLLow.nd rfl (.inl rfl)) pgs_nil))))
      (pss_cons (ps_set (i := 3) scLLow.nd rfl (.inl rfl) (pe_ifExp (pt_cmpR op_gt (pv 3) pe_int (nomark _)) (pv 3) (pe_op op_sub pe_int (pv 3))))
      (pss_cons (ps_while PassesOwn.never (pt_cmpR op_gt (pv 3) pe_int (nomark _))
          (pss_one (ps_par (i := 2) (j := 3) (by rfl) scLLow.nd rfl rfl (by decide) rfl rfl (pa_cons (pv 3) (pa_cons (pe_op op_mod (pv 2) (pv 3)) pa_nil)) (by rfl))))
      (pss_cons (ps_set (i := 4) scLLow.nd rfl (.inl rfl) (pe_ifExp (pt_cmpR op_gt (pv 1) pe_int (nomark _)) (pv 2) (pe_op op_sub pe_int (pv 2))))
      (pss_one (ps_ret (pe_ifExp (pt_cmpR op_eq (pe_op op_fdivZ (pv 1) (pv 4)) pe_int (nomark _)) (pe_op op_fdivZ (pv 0) (pv 4)) (pe_tup (pa_cons (pe_op op_fdivZ (pv 0) (pv 4)) (pa_cons (pe_op op_fdivZ (pv 1) (pv 4)) pa_nil))))))))), ?_⟩
    have e1 : t.fdiv (byI t b) = (low t b).1 := Int.fdiv_eq_ediv_of_dvd (by_dvd_t t b)
    have e2 : b.fdiv (byI t b) = (low t b).2 := Int.fdiv_eq_ediv_of_dvd (by_dvd_b t b)
    -- behind by = ..
    have fin : ∀ (u v : Int) (H1 : Hp), Same H H1 → tRet (tIf (tTest (tOp rEq (tOp (rI CDivZ fun i j => .int (i.fdiv j)) (tVar 1) (tVar 4)) (tC (.int 1)))) (tOp (rI CDivZ fun i j => .int (i.fdiv j)) (tVar 0) (tVar 4)) (tTup (tCons (tOp (rI CDivZ fun i j => .int (i.fdiv j)) (tVar 0) (tVar 4)) (tCons (tOp (rI CDivZ fun i j => .int (i.fdiv j)) (tVar 1) (tVar 4)) tNil))))
        { nx := fun _ H' => Q .non H', rt := Q } [some (.int t), some (.int b), some (.int u), some (.int v), some (.int (byI t b))] H1 := by
      intro u v H1 s1
      refine ⟨_, rfl, _, rfl, _, _, rfl, rfl, div_by n hb _, rfl, _, rfl, ?_⟩
      by_cases c : (low t b).2 = 1
      · refine yes (decide_eq_true (show V.int (b.fdiv (byI t b)) = V.int 1 from by rw [e2, c])) ?_
        refine ⟨_, rfl, _, rfl, _, _, rfl, rfl, div_by n hb _, ?_⟩
        dsimp only
        rw [e1]
        exact q _ H1 s1 (.inl ⟨c, rfl⟩)
      · refine no (decide_eq_false fun z => c (e2.symm.trans (V.int.inj z))) ?_
        refine ⟨_, rfl, _, rfl, _, _, rfl, rfl, div_by n hb _, _, rfl, _, rfl, _, _, rfl, rfl, div_by n hb _, (by show 2 ≤ sizeLine; decide), fun p np => ?_⟩
        dsimp only
        rw [e1, e2]
        exact q _ _ (s1.trans (same_new np)) (.inr ⟨c, p, rfl, upd_same⟩)
    -- from u, v on
    have mid : ∀ (u v : Int) (H1 : Hp), Same H H1 → 0 ≤ u → 0 ≤ v → Int.gcd u v = Int.gcd t b →
        tSeq (tWhile (tTest (tOp (rI0 fun i j => V.bl (decide (j < i))) (tVar 3) (tC (.int 0)))) (tPar 2 3 (tCons (tVar 3) (tCons (tOp (rI (fun _ j => 0 < j) fun i j => V.int (i % j)) (tVar 2) (tVar 3)) tNil))))
          (tSeq (tAsg (tIf (tTest (tOp (rI0 fun i j => V.bl (decide (j < i))) (tVar 1) (tC (.int 0)))) (tVar 2) (tOp (rI0 fun i j => V.int (i - j)) (tC (.int 0)) (tVar 2))) (gName 4))
          (tRet (tIf (tTest (tOp rEq (tOp (rI CDivZ fun i j => .int (i.fdiv j)) (tVar 1) (tVar 4)) (tC (.int 1)))) (tOp (rI CDivZ fun i j => .int (i.fdiv j)) (tVar 0) (tVar 4)) (tTup (tCons (tOp (rI CDivZ fun i j => .int (i.fdiv j)) (tVar 0) (tVar 4)) (tCons (tOp (rI CDivZ fun i j => .int (i.fdiv j)) (tVar 1) (tVar 4)) tNil))))))
        { nx := fun _ H' => Q .non H', rt := Q } [some (.int t), some (.int b), some (.int u), some (.int v), none] H1 := by
      intro u v H1 s1 u0 v0 eg
      refine ⟨fun m σ H2 => H2 = H1 ∧ ∃ x y : Int, σ = [some (.int t), some (.int b), some (.int x), some (.int y), none] ∧ 0 ≤ x ∧ 0 ≤ y ∧ Int.gcd x y = Int.gcd t b ∧ m = y.natAbs, ⟨_, rfl, u, v, rfl, u0, v0, eg, rfl⟩, ?_⟩
      rintro m σ H2 ⟨rfl, x, y, rfl, x0, y0, eg, rfl⟩
      refine ⟨_, rfl, _, _, rfl, rfl, _, rfl, ?_⟩
      by_cases hy : 0 < y
      · refine yes (decide_eq_true hy) ?_
        obtain ⟨r0, r1⟩ := rest_lt x hy
        refine ⟨fun σ' H' => H' = H2 ∧ σ' = [some (.int t), some (.int b), some (.int y), some (.int (x % y)), none], ?_, ?_⟩
        · rintro σ' H' ⟨rfl, rfl⟩
          exact ⟨_, by omega, rfl, y, x % y, rfl, y0, r0, by rw [gcd_emod, eg], rfl⟩
        · exact ⟨_, rfl, _, rfl, _, rfl, _, _, rfl, rfl, hy, _, _, rfl, rfl, rfl⟩
      · refine no (decide_eq_false hy) ?_
        have ey : y = 0 := by omega
        subst ey
        have ex : x = (Int.gcd t b : Int) := by
          rw [← eg, Int.gcd_zero_right]
          omega
        refine ⟨_, rfl, _, _, rfl, rfl, _, rfl, ?_⟩
        by_cases c : 0 < b
        · refine yes (decide_eq_true c) ?_
          refine ⟨_, rfl, ?_⟩
          have z : x = byI t b := by
            unfold byI
            rw [if_pos c]
            exact ex
          have f := fin x 0 H2 s1
          rw [← z] at f
          exact f
        · refine no (decide_eq_false c) ?_
          refine ⟨_, rfl, _, _, rfl, rfl, ?_⟩
          have z : 0 - x = byI t b := by
            unfold byI
            rw [if_neg c, ex]
            omega
          have f := fin x 0 H2 s1
          rw [← z] at f
          exact f
    have abs : ∀ (u : Int) (H1 : Hp), Same H H1 → 0 ≤ u → Int.gcd u b = Int.gcd t b →
        tSeq (tAsg (tIf (tTest (tOp (rI0 fun i j => V.bl (decide (j < i))) (tVar 3) (tC (.int 0)))) (tVar 3) (tOp (rI0 fun i j => V.int (i - j)) (tC (.int 0)) (tVar 3))) (gName 3)) (tSeq (tWhile (tTest (tOp (rI0 fun i j => V.bl (decide (j < i))) (tVar 3) (tC (.int 0)))) (tPar 2 3 (tCons (tVar 3) (tCons (tOp (rI (fun _ j => 0 < j) fun i j => V.int (i % j)) (tVar 2) (tVar 3)) tNil))))
          (tSeq (tAsg (tIf (tTest (tOp (rI0 fun i j => V.bl (decide (j < i))) (tVar 1) (tC (.int 0)))) (tVar 2) (tOp (rI0 fun i j => V.int (i - j)) (tC (.int 0)) (tVar 2))) (gName 4))
          (tRet (tIf (tTest (tOp rEq (tOp (rI CDivZ fun i j => .int (i.fdiv j)) (tVar 1) (tVar 4)) (tC (.int 1)))) (tOp (rI CDivZ fun i j => .int (i.fdiv j)) (tVar 0) (tVar 4)) (tTup (tCons (tOp (rI CDivZ fun i j => .int (i.fdiv j)) (tVar 0) (tVar 4)) (tCons (tOp (rI CDivZ fun i j => .int (i.fdiv j)) (tVar 1) (tVar 4)) tNil)))))))
        { nx := fun _ H' => Q .non H', rt := Q } [some (.int t), some (.int b), some (.int u), some (.int b), none] H1 := by
      intro u H1 s1 u0 eg
      refine ⟨_, rfl, _, _, rfl, rfl, _, rfl, ?_⟩
      by_cases c : 0 < b
      · refine yes (decide_eq_true c) ?_
        refine ⟨_, rfl, ?_⟩
        exact mid u b H1 s1 u0 (by omega) eg
      · refine no (decide_eq_false c) ?_
        refine ⟨_, rfl, _, _, rfl, rfl, ?_⟩
        exact mid u (0 - b) H1 s1 u0 (by omega) (by rw [Int.zero_sub, Int.gcd_neg, eg])
    refine ⟨_, rfl, _, _, rfl, rfl, _, rfl, ?_⟩
    by_cases c : 0 ≤ t
    · refine yes (decide_eq_true c) ?_
      refine ⟨_, rfl, _, rfl, (by show 2 ≤ sizeLine; decide), fun p np => ?_⟩
      refine ⟨p, _, rfl, .inl (.inl upd_same), rfl, _, _, rfl, _, _, rfl, rfl, ?_⟩
      exact abs t _ (same_new np) c rfl
    · refine no (decide_eq_false c) ?_
      refine ⟨_, rfl, _, _, rfl, rfl, _, rfl, (by show 2 ≤ sizeLine; decide), fun p np => ?_⟩
      refine ⟨p, _, rfl, .inl (.inl upd_same), rfl, _, _, rfl, _, _, rfl, rfl, ?_⟩
      exact abs (0 - t) _ (same_new np) (by omega) (by rw [Int.zero_sub, Int.neg_gcd])
/-! ### _law_pair -/
theorem scLPair : FnScope ["_law_x"] ["_law_x"] (defScope sLPair) := ⟨rfl, rfl, rfl, by decide +kernel, rfl, by decide +kernel, by decide +kernel⟩
theorem ok_lpair {f : Addr} {fd : FuncData} (D : Df K mg "_law_pair" sLPair f fd) (B : Bi mg) : FnOk P w K mg base CX0 1 f fd ["_law_x"] spPair := by
  refine D.F.ok scLPair (fun vs H Q E h => ?_) (fun cdv A outer s H vs Q E hr h => ?_)
  · obtain ⟨v, p, rfl, _⟩ := h
    rfl
  · obtain ⟨v, p, rfl, fr, q⟩ := h
    refine ⟨_, pss_one (ps_ret (pe_ifExp (pt_val (pe_callB call_isi (by rfl) B.isi (by decide +kernel) (pa_cons (pv 0) (pa_cons (pe_bltn (v := .ty "tuple") (by rfl) B.tup (by decide +kernel) rfl) pa_nil)))) (pv 0) (pe_tup (pa_cons (pv 0) (pa_cons pe_int pa_nil))))), ?_⟩
    rcases fr with ⟨h1, rfl⟩ | ⟨h1, a, rfl, ha⟩
    · refine ⟨_, rfl, _, .ty "tuple", .type "int", .type "tuple", false, rfl, .ty _, .base (.int _), kit_ty (by decide +kernel), _, rfl, iteF ?_⟩
      refine ⟨_, rfl, (by show 2 ≤ sizeLine; decide), fun t nt => q t _ (same_new nt) ?_⟩
      rw [upd_same, h1]
    · refine ⟨_, rfl, _, .ty "tuple", .type "tuple", .type "tuple", true, rfl, .ty _, .base (.tup ha), kit_ty (by decide +kernel), _, rfl, iteT ?_⟩
      exact ⟨_, rfl, q a H (Same.refl H) ha⟩
end
end Cw
namespace Cw
open PySem PySem.Spec PyProof.Rows L2
theorem DrE.kp {H H' : Hp} {m g : Addr} (d : DrE H m g) (s : Same H H') : DrE H' m g := d.same s
section
variable {P : Program} {w : World} {K : PySem.W.Frag} {mg : Str → Option Value} {base : Heap}
/-! ### _law_whole_number -/
def spWhole : Sp := fun vs H Q _ => ∃ (m g : Addr), vs = [.ref m] ∧ DrE H m g ∧ ∀ (W : Int) H', W.natAbs < 2 ^ 200 → DrE H' m g → Kp m g H H' → Q (.int W) H'
theorem scWhole : FnScope ["_law_m", "_law_way", "_law_near", "_law_far"] ["_law_m"] (defScope sWhole) := ⟨rfl, rfl, rfl, by decide +kernel, rfl, by decide +kernel, by decide +kernel⟩
def T60 : Int := 10 ^ (60 : Int).toNat
def T40 : Int := 6 ^ (40 : Int).toNat
theorem t60 : T60 = 1000000000000000000000000000000000000000000000000000000000000 := by decide +kernel
theorem t40 : T40 = 13367494538843734067838845976576 := by decide +kernel
theorem b200 : (2 : Nat) ^ 200 = 1606938044258990275541962092341162602522202993782792835301376 := by decide +kernel
theorem e15 : (10 : Int) ^ (15 : Int).toNat = 1000000000000000 := by decide
theorem at3 (n : Int) : ∃ x : Int, atI [V.int T60, V.int T40, V.int (0 - T60)] (n % 3) = some (.int x) ∧ -T60 ≤ x ∧ x ≤ T60 := by
  have h1 : 0 ≤ n % 3 := Int.emod_nonneg n (by decide)
  have h2 : n % 3 < 3 := Int.emod_lt_of_pos n (by decide)
  obtain ⟨j, e⟩ : ∃ j : Nat, n % 3 = (j : Int) := ⟨(n % 3).toNat, by omega⟩
  have hj : j < 3 := by omega
  rw [e, t60, t40]
  match j, hj with
  | 0, _ => exact ⟨_, atI_nat (j := 0) rfl, by decide, by decide⟩
  | 1, _ => exact ⟨_, atI_nat (j := 1) rfl, by decide, by decide⟩
  | 2, _ => exact ⟨_, atI_nat (j := 2) rfl, by decide, by decide⟩
theorem at6 {way a b c d e f : Int} (h0 : 0 ≤ way) (h1 : way < 6) : ∃ x, atI [V.int a, V.int b, V.int c, V.int d, V.int e, V.int f] way = some (.int x) ∧ (x = a ∨ x = b ∨ x = c ∨ x = d ∨ x = e ∨ x = f) := by
  obtain ⟨j, ej⟩ : ∃ j : Nat, way = (j : Int) := ⟨way.toNat, by omega⟩
  have hj : j < 6 := by omega
  rw [ej]
  match j, hj with
  | 0, _ => exact ⟨a, atI_nat (j := 0) rfl, by simp⟩
  | 1, _ => exact ⟨b, atI_nat (j := 1) rfl, by simp⟩
  | 2, _ => exact ⟨c, atI_nat (j := 2) rfl, by simp⟩
  | 3, _ => exact ⟨d, atI_nat (j := 3) rfl, by simp⟩
  | 4, _ => exact ⟨e, atI_nat (j := 4) rfl, by simp⟩
  | 5, _ => exact ⟨f, atI_nat (j := 5) rfl, by simp⟩
theorem at4 {way a b c d : Int} (h0 : 0 ≤ way) (h1 : way < 4) : ∃ x, atI [V.int a, V.int b, V.int c, V.int d] way = some (.int x) ∧ (x = a ∨ x = b ∨ x = c ∨ x = d) := by
  obtain ⟨j, ej⟩ : ∃ j : Nat, way = (j : Int) := ⟨way.toNat, by omega⟩
  have hj : j < 4 := by omega
  rw [ej]
  match j, hj with
  | 0, _ => exact ⟨a, atI_nat (j := 0) rfl, by simp⟩
  | 1, _ => exact ⟨b, atI_nat (j := 1) rfl, by simp⟩
  | 2, _ => exact ⟨c, atI_nat (j := 2) rfl, by simp⟩
  | 3, _ => exact ⟨d, atI_nat (j := 3) rfl, by simp⟩
theorem pow_ok : CPow 10 15 := by show 0 ≤ (15 : Int) ∧ _; decide
theorem pow_ok60 : CPow 10 60 := by show 0 ≤ (60 : Int) ∧ _; decide
theorem pow_ok40 : CPow 6 40 := by show 0 ≤ (40 : Int) ∧ _; decide
theorem ok_whole {f fD : Addr} {fd fdD : FuncData} (D : Df K mg "_law_whole_number" sWhole f fd) (DD : Df K mg "_law_draw" sDraw fD fdD) (bD : Binds K fdD ["_law_m", "_law_many"] []) (GD : FnOk P w K mg base CX0 1 fD fdD ["_law_m", "_law_many"] spDraw) :
    FnOk P w K mg base CX0 2 f fd ["_law_m"] spWhole := by
  refine D.F.ok scWhole (fun vs H Q E h => ?_) (fun cdv A outer s H vs Q E hr h => ?_)
  · obtain ⟨m, g, rfl, _⟩ := h
    rfl
  · obtain ⟨m, g, rfl, d, q⟩ := h
    refine ⟨_, pss_cons (ps_par3 (i := 1) (j := 2) (l := 3) (by rfl) scWhole.nd rfl rfl rfl (by decide) (by decide) (by decide) rfl rfl rfl
          (pa_cons (pe_call GD hr (by rfl) DD.g DD.F.kp bD .nil pass0 (pa_cons (pv 0) (pa_cons pe_int pa_nil))) (pa_cons (pe_call GD hr (by rfl) DD.g DD.F.kp bD .nil pass0 (pa_cons (pv 0) (pa_cons pe_int pa_nil)))
            (pa_cons (pe_call GD hr (by rfl) DD.g DD.F.kp bD .nil pass0 (pa_cons (pv 0) (pa_cons (pe_op op_pow pe_int pe_int) pa_nil))) pa_nil))) (by rfl))
      (pss_one (ps_ret (pe_ix ix_list (pe_lst (pa_cons pe_int (pa_cons (pv 2) (pa_cons (pe_op op_sub pe_int (pv 2)) (pa_cons (pv 3) (pa_cons (pe_op op_sub pe_int (pv 3)) (pa_cons
          (pe_op op_add (pe_ix ix_list (pe_lst (pa_cons (pe_op op_pow pe_int pe_int) (pa_cons (pe_op op_pow pe_int pe_int) (pa_cons (pe_op op_sub pe_int (pe_op op_pow pe_int pe_int)) pa_nil)))) (pe_op op_mod (pv 2) pe_int) (fun _ _ => rfl)) (pv 3)) pa_nil))))))) (pv 1) (fun _ _ => rfl)))), ?_⟩
    refine ⟨_, rfl, m, g, 6, rfl, d, by decide, by decide, fun way H1 w0 w1 d1 k1 => ?_⟩
    refine ⟨_, rfl, m, g, 12, rfl, d1, by decide, by decide, fun near H2 n0 n1 d2 k2 => ?_⟩
    refine ⟨_, rfl, _, _, rfl, rfl, pow_ok, m, g, _, rfl, d2, by rw [e15]; decide, by rw [e15]; decide, fun far H3 f0 f1 d3 k3 => ?_⟩
    rw [e15] at f1
    refine ⟨_, _, _, rfl, ?_⟩
    obtain ⟨x3, hx3, lo3, hi3⟩ := at3 near
    refine ⟨_, rfl, _, rfl, _, _, rfl, rfl, _, rfl, _, rfl, _, _, rfl, rfl, _, _, rfl, rfl, pow_ok60, _, _, rfl, rfl, pow_ok40, _, _, rfl, rfl, pow_ok60, _, _, rfl, rfl, (by show 3 ≤ sizeLine; decide), fun l nl => ?_⟩
    refine ⟨_, rfl, _, _, rfl, rfl, (by show (0 : Int) < 3; decide), l, _, _, _, rfl, rfl, .inl (.inl upd_same), hx3, ?_⟩
    refine ⟨_, rfl, _, _, rfl, rfl, (by show 6 ≤ sizeLine; decide), fun l2 nl2 => ?_⟩
    obtain ⟨x, hx, cx⟩ := at6 (a := 0) (b := near) (c := 0 - near) (d := far) (e := 0 - far) (f := x3 + far) w0 w1
    refine ⟨_, rfl, l2, _, _, _, rfl, rfl, .inl (.inl upd_same), hx, ?_⟩
    refine q x _ ?_ ((d3.same (same_new nl)).same (same_new nl2)) (((k1.trans k2).trans k3).trans ((Same.kp (same_new nl)).trans (Same.kp (same_new nl2))))
    rw [t60] at lo3 hi3
    rw [b200]
    rcases cx with e | e | e | e | e | e <;> omega
/-! ### _law_fraction -/
def spFra : Sp := fun vs H Q _ => ∃ (m g : Addr), vs = [.ref m] ∧ DrE H m g ∧ ∀ v p H', Frac H' v p → Low p → Bd 200 p → DrE H' m g → Kp m g H H' → Q v H'
theorem scFra : FnScope ["_law_m", "_law_high", "_law_way", "_law_near", "_law_far"] ["_law_m"] (defScope sFra) := ⟨rfl, rfl, rfl, by decide +kernel, rfl, by decide +kernel, by decide +kernel⟩
theorem ok_fra {f fD fW fL : Addr} {fd fdD fdW fdL : FuncData} (D : Df K mg "_law_fraction" sFra f fd) (DD : Df K mg "_law_draw" sDraw fD fdD) (bD : Binds K fdD ["_law_m", "_law_many"] []) (GD : FnOk P w K mg base CX0 1 fD fdD ["_law_m", "_law_many"] spDraw)
    (DW : Df K mg "_law_whole_number" sWhole fW fdW) (bW : Binds K fdW ["_law_m"] []) (GW : FnOk P w K mg base CX0 2 fW fdW ["_law_m"] spWhole) (DL : Df K mg "_law_lowest" sLLow fL fdL) (bL : Binds K fdL ["_law_high", "_law_low"] []) (GL : FnOk P w K mg base CX0 1 fL fdL ["_law_high", "_law_low"] spLow) :
    FnOk P w K mg base CX0 3 f fd ["_law_m"] spFra := by
  refine D.F.ok scFra (fun vs H Q E h => ?_) (fun cdv A outer s H vs Q E hr h => ?_)
  · obtain ⟨m, g, rfl, _⟩ := h
    rfl
  · obtain ⟨m, g, rfl, d, q⟩ := h
    have hr1 : Room 1 _ := hr.mono (by decide)
    refine ⟨_, pss_cons (ps_asg (pe_tup (pa_cons (pe_call GW hr (by rfl) DW.g DW.F.kp bW .nil pass0 (pa_cons (pv 0) pa_nil)) (pa_cons (pe_call GD hr1 (by rfl) DD.g DD.F.kp bD .nil pass0 (pa_cons (pv 0) (pa_cons pe_int pa_nil)))
            (pa_cons (pe_call GD hr1 (by rfl) DD.g DD.F.kp bD .nil pass0 (pa_cons (pv 0) (pa_cons pe_int pa_nil))) (pa_cons (pe_call GD hr1 (by rfl) DD.g DD.F.kp bD .nil pass0 (pa_cons (pv 0) (pa_cons (pe_op op_pow pe_int pe_int) pa_nil))) pa_nil)))))
          (pg_tup rfl (pgs_cons (pg_name (i := 1) scFra.nd rfl (.inl rfl)) (pgs_cons (pg_name (i := 2) scFra.nd rfl (.inl rfl)) (pgs_cons (pg_name (i := 3) scFra.nd rfl (.inl rfl)) (pgs_cons (pg_name (i := 4) scFra.nd rfl (.inl rfl)) pgs_nil))))))
      (pss_one (ps_ret (pe_call GL hr1 (by rfl) DL.g DL.F.kp bL .nil pass0 (pa_cons (pv 1) (pa_cons (pe_ix ix_list (pe_lst (pa_cons pe_int (pa_cons (pe_op op_add pe_int (pv 3)) (pa_cons (pe_op op_add pe_int (pv 3)) (pa_cons (pe_op op_add pe_int (pv 4)) pa_nil))))) (pv 2) (fun _ _ => rfl)) pa_nil))))), ?_⟩
    refine ⟨_, rfl, m, g, rfl, d, fun W H1 hW d1 k1 => ?_⟩
    refine ⟨_, rfl, m, g, 4, rfl, d1, by decide, by decide, fun way H2 w0 w1 d2 k2 => ?_⟩
    refine ⟨_, rfl, m, g, 12, rfl, d2, by decide, by decide, fun near H3 n0 n1 d3 k3 => ?_⟩
    refine ⟨_, rfl, _, _, rfl, rfl, pow_ok, m, g, _, rfl, d3, by rw [e15]; decide, by rw [e15]; decide, fun far H4 f0 f1 d4 k4 => ?_⟩
    rw [e15] at f1
    refine ⟨by show 4 ≤ sizeLine; decide, fun t nt => ?_⟩
    refine ⟨t, _, rfl, .inl (.inl upd_same), rfl, _, _, rfl, _, _, rfl, _, _, rfl, _, _, rfl, rfl, ?_⟩
    refine ⟨_, rfl, _, rfl, _, _, rfl, rfl, _, rfl, _, _, rfl, rfl, _, rfl, _, _, rfl, rfl, (by show 4 ≤ sizeLine; decide), fun l nl => ?_⟩
    obtain ⟨x, hx, cx⟩ := at4 (a := 1) (b := 1 + near) (c := 1 + near) (d := 1 + far) w0 w1
    refine ⟨_, rfl, l, _, _, _, rfl, rfl, .inl (.inl upd_same), hx, ?_⟩
    have x0 : 1 ≤ x := by rcases cx with e | e | e | e <;> omega
    have x1 : x.natAbs < 2 ^ 200 := by
      rw [b200]
      rcases cx with e | e | e | e <;> omega
    have xn : x ≠ 0 := by omega
    refine ⟨W, x, rfl, xn, Nat.lt_of_lt_of_le x1 (Nat.pow_le_pow_right (by decide) (by decide)), fun v H5 s5 fv => ?_⟩
    refine q v (low W x) H5 fv (low_ok xn) (low_bd hW x1) (((d4.same (same_new nt)).same (same_new nl)).same s5) ?_
    exact (((k1.trans k2).trans k3).trans k4).trans (((Same.kp (same_new nt)).trans (Same.kp (same_new nl))).trans (Same.kp s5))
end
end Cw
namespace Cw
open PySem PySem.Spec PyProof.Rows L2
section
variable {P : Program} {w : World} {K : PySem.W.Frag} {mg : Str → Option Value} {base : Heap}
/-! ### _law_power -/
def spLPow : Sp := fun vs H Q _ => ∃ v p i k, vs = [v, .int i] ∧ Frac H v p ∧ Low p ∧ (0 ≤ i ∨ p.1 ≠ 0) ∧ i.natAbs ≤ 1000 ∧ Bd k p ∧ k ≤ 4000 ∧ k * i.natAbs ≤ 4000 ∧ ∀ z H', Same H H' → Frac H' z (pz p i) → Q z H'
theorem scLPow : FnScope ["_law_x", "_law_often", "_law_high", "_law_low", "_law_found", "_law_turn"] ["_law_x", "_law_often"] (defScope sLPow) := ⟨rfl, rfl, rfl, by decide +kernel, rfl, by decide +kernel, by decide +kernel⟩
theorem ok_lpow {f fP fL : Addr} {fd fdP fdL : FuncData} (D : Df K mg "_law_power" sLPow f fd) (B : Bi mg) (DP : Df K mg "_law_pair" sLPair fP fdP) (bP : Binds K fdP ["_law_x"] []) (GP : FnOk P w K mg base CX0 1 fP fdP ["_law_x"] spPair)
    (DL : Df K mg "_law_lowest" sLLow fL fdL) (bL : Binds K fdL ["_law_high", "_law_low"] []) (GL : FnOk P w K mg base CX0 1 fL fdL ["_law_high", "_law_low"] spLow) : FnOk P w K mg base CX0 2 f fd ["_law_x", "_law_often"] spLPow := by
  refine D.F.ok scLPow (fun vs H Q E h => ?_) (fun cdv A outer s H vs Q E hr h => ?_)
  · obtain ⟨v, p, i, k, rfl, _⟩ := h
    rfl
  · obtain ⟨v, p, i, k, rfl, fr, l, h3, hi, bd, hk, hki, q⟩ := h
    refine ⟨_, pss_cons (ps_asg (pe_call GP hr (by rfl) DP.g DP.F.kp bP .nil pass0 (pa_cons (pv 0) pa_nil)) (pg_tup rfl (pgs_cons (pg_name (i := 2) scLPow.nd rfl (.inl rfl)) (pgs_cons (pg_name (i := 3) scLPow.nd rfl (.inl rfl)) pgs_nil))))
      (pss_cons (ps_set (i := 4) scLPow.nd rfl (.inl rfl) (pe_tup (pa_cons pe_int (pa_cons pe_int pa_nil))))
      (pss_cons (ps_for PassesOwn.never rfl (pi_range1 (by rfl) B.rng (pa_cons (pe_ifExp (pt_cmpR op_gt (pv 1) pe_int (nomark _)) (pv 1) (pe_op op_sub pe_int (pv 1))) pa_nil)) (pg_name (i := 5) scLPow.nd rfl (.inl rfl))
          (pss_one (ps_set (i := 4) scLPow.nd rfl (.inl rfl) (pe_tup (pa_cons (pe_op op_mulW (pe_ix ix_tup (pv 4) pe_int (fun _ _ => rfl)) (pv 2)) (pa_cons (pe_op op_mulW (pe_ix ix_tup (pv 4) pe_int (fun _ _ => rfl)) (pv 3)) pa_nil))))))
      (pss_one (ps_ret (pe_ifExp (pt_cmpR op_ge (pv 1) pe_int (nomark _))
        (pe_call GL hr (by rfl) DL.g DL.F.kp bL .nil pass0 (pa_cons (pe_ix ix_tup (pv 4) pe_int (fun _ _ => rfl)) (pa_cons (pe_ix ix_tup (pv 4) pe_int (fun _ _ => rfl)) pa_nil)))
        (pe_call GL hr (by rfl) DL.g DL.F.kp bL .nil pass0 (pa_cons (pe_ix ix_tup (pv 4) pe_int (fun _ _ => rfl)) (pa_cons (pe_ix ix_tup (pv 4) pe_int (fun _ _ => rfl)) pa_nil)))))))), ?_⟩
    have bd1 : Bd (k + 1) p := bd.mono (by omega)
    have pl : ∀ n, n ≤ i.natAbs → (p.1 ^ n).natAbs < 2 ^ 4001 ∧ (p.2 ^ n).natAbs < 2 ^ 4001 := fun n hn => by
      have e : k * n ≤ k * i.natAbs := Nat.mul_le_mul_left _ hn
      have e2 : 2 ^ (k * n + 1) ≤ 2 ^ 4001 := Nat.pow_le_pow_right (by decide) (by omega)
      exact ⟨Nat.lt_of_lt_of_le (pow_lt' bd.1 n) e2, Nat.lt_of_lt_of_le (pow_lt' bd.2 n) e2⟩
    have fit : ∀ {x y : Int}, x.natAbs < 2 ^ 4001 → y.natAbs < 2 ^ (k + 1) → CMulW x y := fun hx hy => wide_mul hx hy (by decide) (by omega) (by omega)
    refine ⟨_, rfl, v, p, rfl, fr, fun t1 H1 s1 e1 => ?_⟩
    refine ⟨t1, _, rfl, .inl (.inl e1), rfl, _, _, rfl, _, _, rfl, rfl, ?_⟩
    refine ⟨by show 2 ≤ sizeLine; decide, fun t2 n2 => ?_⟩
    have s2 : Same H (upd H1 t2 (.tup [.int 1, .int 1])) := s1.trans (same_new n2)
    have e2 : (upd H1 t2 (.tup [.int 1, .int 1])) t2 = some (.tup [.int (p.1 ^ 0), .int (p.2 ^ 0)]) := by
      rw [Int.pow_zero, Int.pow_zero]
      exact upd_same
    generalize upd H1 t2 (.tup [.int 1, .int 1]) = H2 at s2 e2
    refine ⟨_, rfl, _, _, rfl, rfl, _, rfl, ?_⟩
    by_cases ci : (0 : Int) < i
    · refine yes (decide_eq_true ci) ?_
      refine ⟨_, rfl, _, rfl, by omega, by omega, ?_⟩
      rw [show i.toNat = i.natAbs from by omega]
      refine for_range (lo := 0) (n := i.natAbs) (fun n σ H4 => Same H H4 ∧ ∃ a vt, σ = [some v, some (.int i), some (.int p.1), some (.int p.2), some (.ref a), vt] ∧ H4 a = some (.tup [.int (p.1 ^ n), .int (p.2 ^ n)])) ⟨s2, t2, _, rfl, e2⟩ ?_ ?_
      · rintro n σ H4 hn ⟨s4, a, vt, rfl, ea⟩
        have sz := pl n (by omega)
        refine ⟨_, rfl, a, _, _, _, rfl, rfl, .inl (.inl ea), rfl, _, rfl, _, _, rfl, rfl, fit sz.1 bd1.1, ?_⟩
        refine ⟨_, rfl, a, _, _, _, rfl, rfl, .inl (.inl ea), rfl, _, rfl, _, _, rfl, rfl, fit sz.2 bd1.2, (by show 2 ≤ sizeLine; decide), fun t nt => ?_⟩
        refine ⟨s4.trans (same_new nt), t, _, rfl, ?_⟩
        rw [upd_same, Int.pow_succ, Int.pow_succ]
      · rintro σ H4 ⟨s4, a, vt, rfl, ea⟩
        refine ⟨_, rfl, _, _, rfl, rfl, _, rfl, ?_⟩
        have sz := pl i.natAbs (Nat.le_refl _)
        by_cases c : (0 : Int) ≤ i
        · refine yes (decide_eq_true c) ?_
          refine ⟨_, rfl, a, _, _, _, rfl, rfl, .inl (.inl ea), rfl, ?_⟩
          refine ⟨_, rfl, a, _, _, _, rfl, rfl, .inl (.inl ea), rfl, ?_⟩
          refine ⟨_, _, rfl, pow_ne l.ne _, Nat.lt_of_lt_of_le sz.2 (Nat.pow_le_pow_right (by decide) (by decide)), fun z H5 s5 fz => q z H5 (s4.trans s5) ?_⟩
          unfold pz pw
          rw [if_pos c]
          exact fz
        · refine no (decide_eq_false c) ?_
          refine ⟨_, rfl, a, _, _, _, rfl, rfl, .inl (.inl ea), rfl, ?_⟩
          refine ⟨_, rfl, a, _, _, _, rfl, rfl, .inl (.inl ea), rfl, ?_⟩
          refine ⟨_, _, rfl, pow_ne (h3.resolve_left c) _, Nat.lt_of_lt_of_le sz.1 (Nat.pow_le_pow_right (by decide) (by decide)), fun z H5 s5 fz => q z H5 (s4.trans s5) ?_⟩
          unfold pz
          rw [if_neg c]
          exact fz
    · refine no (decide_eq_false ci) ?_
      refine ⟨_, rfl, _, _, rfl, rfl, _, rfl, by omega, by omega, ?_⟩
      rw [show (0 - i).toNat = i.natAbs from by omega]
      refine for_range (lo := 0) (n := i.natAbs) (fun n σ H4 => Same H H4 ∧ ∃ a vt, σ = [some v, some (.int i), some (.int p.1), some (.int p.2), some (.ref a), vt] ∧ H4 a = some (.tup [.int (p.1 ^ n), .int (p.2 ^ n)])) ⟨s2, t2, _, rfl, e2⟩ ?_ ?_
      · rintro n σ H4 hn ⟨s4, a, vt, rfl, ea⟩
        have sz := pl n (by omega)
        refine ⟨_, rfl, a, _, _, _, rfl, rfl, .inl (.inl ea), rfl, _, rfl, _, _, rfl, rfl, fit sz.1 bd1.1, ?_⟩
        refine ⟨_, rfl, a, _, _, _, rfl, rfl, .inl (.inl ea), rfl, _, rfl, _, _, rfl, rfl, fit sz.2 bd1.2, (by show 2 ≤ sizeLine; decide), fun t nt => ?_⟩
        refine ⟨s4.trans (same_new nt), t, _, rfl, ?_⟩
        rw [upd_same, Int.pow_succ, Int.pow_succ]
      · rintro σ H4 ⟨s4, a, vt, rfl, ea⟩
        refine ⟨_, rfl, _, _, rfl, rfl, _, rfl, ?_⟩
        have sz := pl i.natAbs (Nat.le_refl _)
        by_cases c : (0 : Int) ≤ i
        · refine yes (decide_eq_true c) ?_
          refine ⟨_, rfl, a, _, _, _, rfl, rfl, .inl (.inl ea), rfl, ?_⟩
          refine ⟨_, rfl, a, _, _, _, rfl, rfl, .inl (.inl ea), rfl, ?_⟩
          refine ⟨_, _, rfl, pow_ne l.ne _, Nat.lt_of_lt_of_le sz.2 (Nat.pow_le_pow_right (by decide) (by decide)), fun z H5 s5 fz => q z H5 (s4.trans s5) ?_⟩
          unfold pz pw
          rw [if_pos c]
          exact fz
        · refine no (decide_eq_false c) ?_
          refine ⟨_, rfl, a, _, _, _, rfl, rfl, .inl (.inl ea), rfl, ?_⟩
          refine ⟨_, rfl, a, _, _, _, rfl, rfl, .inl (.inl ea), rfl, ?_⟩
          refine ⟨_, _, rfl, pow_ne (h3.resolve_left c) _, Nat.lt_of_lt_of_le sz.1 (Nat.pow_le_pow_right (by decide) (by decide)), fun z H5 s5 fz => q z H5 (s4.trans s5) ?_⟩
          unfold pz
          rw [if_neg c]
          exact fz
end
end Cw
namespace Cw
open PySem PySem.Spec PyProof.Rows L2
/-! ### things made, whose kind stays, whatever is drawn -/
/-- all stays, but the dict at m, the list at g, and tables of code objects -/
def KN (m g : Addr) (H H' : Hp) : Prop := ∀ b o, b ≠ m → b ≠ g → (∀ ps, o ≠ .tbl ps) → H b = some o → H' b = some o
theorem KN.refl (m g : Addr) (H : Hp) : KN m g H H := fun _ _ _ _ _ e => e
theorem KN.trans {m g : Addr} {H H1 H2 : Hp} (a : KN m g H H1) (b : KN m g H1 H2) : KN m g H H2 := fun c o h1 h2 h3 e => b c o h1 h2 h3 (a c o h1 h2 h3 e)
theorem Kp.kn {m g : Addr} {H H' : Hp} (k : Kp m g H H') : KN m g H H' := fun b o h1 h2 _ e => k b o h1 h2 e
theorem KN.tab {m g : Addr} {H H' : Hp} (k : LamX.ExtN H H') : KN m g H H' := fun b o _ _ h e => k b o e h
/-- R of v holds, and goes on to, whatever is drawn -/
def Stay (m g : Addr) (R : Hp → V → Prop) (H : Hp) (v : V) : Prop := ∀ H', KN m g H H' → R H' v
theorem Stay.kp {m g : Addr} {R : Hp → V → Prop} {H H1 : Hp} {v : V} (h : Stay m g R H v) (k : Kp m g H H1) : Stay m g R H1 v := fun H' k' => h H' (k.kn.trans k')
theorem Stay.now {m g : Addr} {R : Hp → V → Prop} {H : Hp} {v : V} (h : Stay m g R H v) : R H v := h H (KN.refl m g H)
/-- t makes such a thing -/
def Gd (m g : Addr) (R : Hp → V → Prop) (σ : St) (t : TE) : Prop := ∀ (H : Hp) (Q : VK), DrE H m g → (∀ v H', Same H H' → Stay m g R H' v → Q v H') → t σ H Q
/-- n such things -/
def GdA (m g : Addr) (R : Hp → V → Prop) (σ : St) (n : Nat) (t : TA) : Prop := ∀ (H : Hp) (Q : List V → Hp → Prop), DrE H m g → (∀ vs H', Same H H' → vs.length = n → (∀ v ∈ vs, Stay m g R H' v) → Q vs H') → t σ H Q
section
variable {m g : Addr} {R : Hp → V → Prop} {σ : St} {n : Nat} {te : TE} {ta : TA}
theorem gd_nil : GdA m g R σ 0 tNil := fun H Q _ q => q [] H (Same.refl H) rfl (fun v h => by cases h)
theorem gd_cons (h : Gd m g R σ te) (ht : GdA m g R σ n ta) : GdA m g R σ (n + 1) (tCons te ta) := fun H Q d q =>
  h H _ d fun v H1 s1 r1 => ht H1 _ (d.same s1) fun vs H2 s2 hl r2 => q (v :: vs) H2 (s1.trans s2) (by rw [List.length_cons, hl]) fun x hx => by
    rcases List.mem_cons.mp hx with rfl | hx
    · exact r1.kp (Same.kp s2)
    · exact r2 x hx
theorem gd_c {v : V} (h : ∀ H, R H v) : Gd m g R σ (tC v) := fun H Q _ q => q v H (Same.refl H) fun H' _ => h H'
/-- a new thing at a place that was free -/
theorem gd_new {o : HO} {H : Hp} {Q : VK} (d : DrE H m g) (hR : ∀ (a : Addr) (H' : Hp), H' a = some o → R H' (.ref a)) (q : ∀ v H', Same H H' → Stay m g R H' v → Q v H') (ho : ∀ ps, o ≠ .tbl ps := by intro _ z; cases z) : ∀ a, H a = none → Q (.ref a) (upd H a o) := fun a na => by
  obtain ⟨gs, sm, k, d⟩ := d
  obtain ⟨n1, n2⟩ := d.free na
  exact q _ _ (same_new na) fun H' k' => hR a H' (k' a o n1 n2 ho upd_same)
theorem gd_tup {vs : List V} (hl : vs.length ≤ 16777216) (hp : ∀ H Q, Q vs H → ta σ H Q) (hR : ∀ (a : Addr) (H' : Hp), H' a = some (.tup vs) → R H' (.ref a)) : Gd m g R σ (tTup ta) := fun H Q d q =>
  hp H _ ⟨by show vs.length ≤ sizeLine; rw [sizeLine_eq]; exact hl, gd_new d hR q⟩
theorem gd_lst {vs : List V} (hl : vs.length ≤ 16777216) (hp : ∀ H Q, Q vs H → ta σ H Q) (hR : ∀ (a : Addr) (H' : Hp), H' a = some (.lst vs) → R H' (.ref a)) : Gd m g R σ (tLst ta) := fun H Q d q =>
  hp H _ ⟨by show vs.length ≤ sizeLine; rw [sizeLine_eq]; exact hl, gd_new d hR q⟩
theorem gd_dict (hR : ∀ (a : Addr) (H' : Hp), H' a = some (.dK []) → R H' (.ref a)) : Gd m g R σ tDNewK := fun H Q d q => gd_new d hR q
end
/-- a new list of such things -/
theorem gd_list {m g : Addr} {R : Hp → V → Prop} {σ : St} {n : Nat} {ta : TA} {H : Hp} {Q : VK} (h : GdA m g R σ n ta) (hn : n ≤ 1000) (d : DrE H m g)
    (q : ∀ (vs : List V) (H' : Hp) (a : Addr), Same H H' → vs.length = n → (∀ v ∈ vs, Stay m g R H' v) → H' a = some (.lst vs) → (a ≠ m ∧ a ≠ g) → Q (.ref a) H') : tLst ta σ H Q :=
  h H _ d fun vs H1 s1 hl r => ⟨by rw [hl]; exact Nat.le_of_lt (small1000 hn), fun a na => by
    obtain ⟨gs, sm, k, d1⟩ := d.same s1
    exact q vs _ a (s1.trans (same_new na)) hl (fun v hv => (r v hv).kp (Same.kp (same_new na))) upd_same (d1.free na)⟩
theorem st_set {te : TE} {tg : TG} {ts : TS} {D : Ends} {σ : St} {H : Hp} (h : te σ H fun v H1 => tg v σ H1 (ts D)) : tSeq (tAsg te tg) ts D σ H := h
theorem st_ret {te : TE} {D : Ends} {σ : St} {H : Hp} (h : te σ H fun v H1 => D.rt v H1) : tRet te D σ H := h
theorem at_len {xs : List V} {n : Nat} {r : Int} (h : xs.length = n) (h0 : 0 ≤ r) (h1 : r < n) : ∃ x ∈ xs, atI xs r = some x := by
  obtain ⟨j, rfl⟩ : ∃ j : Nat, r = (j : Int) := ⟨r.toNat, by omega⟩
  have hj : j < xs.length := by omega
  exact ⟨xs[j], List.getElem_mem hj, atI_nat (List.getElem?_eq_getElem hj)⟩
/-- no fraction -/
def NoF : Hp → V → Prop := fun H v => IsF H v false
theorem nof {H : Hp} {v : V} {t : String} (k : Kn H v t) (h1 : t ≠ "int" := by decide) (h2 : t ≠ "tuple" := by decide) : NoF H v := .no k h1 h2
theorem nof_tup {xs : List V} (hf : frB xs = false) (hx : ∀ H : Hp, ∀ x ∈ xs, ∃ t, Kn H x t) (a : Addr) (H' : Hp) (e : H' a = some (.tup xs)) : NoF H' (.ref a) := by
  have z : IsF H' (.ref a) (frB xs) := .tup e (hx H')
  rw [hf] at z
  exact z
theorem kn_ints {xs : List Int} (H : Hp) : ∀ x ∈ xs.map V.int, ∃ t, Kn H x t := fun x hx => by
  obtain ⟨i, _, rfl⟩ := List.mem_map.mp hx
  exact ⟨_, .int i⟩
section
variable {P : Program} {w : World} {K : PySem.W.Frag} {mg : Str → Option Value} {base : Heap}
/-! ### _law_odd -/
def spOdd : Sp := fun vs H Q _ => ∃ (m g : Addr) (v : V) (p : Int × Int), vs = [.ref m, v] ∧ DrE H m g ∧ Frac H v p ∧ Low p ∧ Bd 200 p ∧ ∀ z H', Stay m g NoF H' z → DrE H' m g → Kp m g H H' → Q z H'
theorem scOdd : FnScope ["_law_m", "_law_x", "_law_some", "_law_high", "_law_low"] ["_law_m", "_law_x"] (defScope sOdd) := ⟨rfl, rfl, rfl, by decide +kernel, rfl, by decide +kernel, by decide +kernel⟩
theorem ok_odd {f fD fP : Addr} {fd fdD fdP : FuncData} (D : Df K mg "_law_odd" sOdd f fd) (DD : Df K mg "_law_draw" sDraw fD fdD) (bD : Binds K fdD ["_law_m", "_law_many"] []) (GD : FnOk P w K mg base CX0 1 fD fdD ["_law_m", "_law_many"] spDraw)
    (DP : Df K mg "_law_pair" sLPair fP fdP) (bP : Binds K fdP ["_law_x"] []) (GP : FnOk P w K mg base CX0 1 fP fdP ["_law_x"] spPair) : FnOk P w K mg base CX0 2 f fd ["_law_m", "_law_x"] spOdd := by
  refine D.F.ok scOdd (fun vs H Q E h => ?_) (fun cdv A outer s H vs Q E hr h => ?_)
  · obtain ⟨m, g, v, p, rfl, _⟩ := h
    rfl
  · obtain ⟨m, g, v, p, rfl, d, fr, l, bd, q⟩ := h
    refine ⟨_, pss_cons (ps_set (i := 2) scOdd.nd rfl (.inl rfl) (pe_lst
        (pa_cons pe_non (pa_cons pe_bl (pa_cons pe_bl (pa_cons pe_str (pa_cons pe_str (pa_cons (pe_lst (pa_cons pe_int (pa_cons pe_int pa_nil)))
        (pa_cons (pe_tup (pa_cons pe_int (pa_cons pe_int pa_nil))) (pa_cons (pe_tup (pa_cons pe_int (pa_cons pe_int pa_nil))) (pa_cons (pe_tup (pa_cons pe_int (pa_cons pe_int pa_nil)))
        (pa_cons (pe_tup (pa_cons pe_int (pa_cons pe_int pa_nil))) (pa_cons (pe_tup (pa_cons pe_int (pa_cons pe_int pa_nil))) (pa_cons (pe_tup (pa_cons pe_int (pa_cons pe_int pa_nil)))
        (pa_cons (pe_tup (pa_cons pe_int (pa_cons (pe_op op_sub pe_int pe_int) pa_nil))) (pa_cons (pe_tup (pa_cons pe_int pa_nil)) pa_nil))))))))))))))))
      (pss_cons (ps_asg (pe_call GP hr (by rfl) DP.g DP.F.kp bP .nil pass0 (pa_cons (pv 1) pa_nil)) (pg_tup rfl (pgs_cons (pg_name (i := 3) scOdd.nd rfl (.inl rfl)) (pgs_cons (pg_name (i := 4) scOdd.nd rfl (.inl rfl)) pgs_nil))))
      (pss_cons (ps_set (i := 2) scOdd.nd rfl (.inl rfl) (pe_op op_cat (pv 2) (pe_lst
        (pa_cons (pe_tup (pa_cons pe_int (pa_cons pe_int (pa_cons pe_int pa_nil)))) (pa_cons (pe_tup (pa_cons pe_bl (pa_cons pe_int pa_nil))) (pa_cons (pe_tup (pa_cons pe_int (pa_cons pe_bl pa_nil)))
        (pa_cons (pe_tup (pa_cons (pe_tup (pa_cons pe_int (pa_cons pe_int pa_nil))) (pa_cons pe_int pa_nil)))
        (pa_cons (pe_tup (pa_cons (pe_op op_mulW (pv 3) pe_int) (pa_cons (pe_op op_mulW (pv 4) pe_int) pa_nil)))
        (pa_cons (pe_tup (pa_cons (pv 3) (pa_cons (pe_op op_sub pe_int (pv 4)) pa_nil)))
        (pa_cons (pe_tup (pa_cons (pv 3) (pa_cons (pv 4) (pa_cons pe_int pa_nil)))) pa_nil))))))))))
      (pss_one (ps_ret (pe_ix ix_list (pe_op op_cat (pv 2) (pe_lst
        (pa_cons pe_dnewK (pa_cons (pe_tup pa_nil) (pa_cons (pe_tup (pa_cons pe_str (pa_cons pe_int pa_nil))) (pa_cons (pe_tup (pa_cons pe_non (pa_cons pe_int pa_nil)))
        (pa_cons (pe_lst (pa_cons (pv 3) (pa_cons (pv 4) pa_nil))) (pa_cons (pe_tup (pa_cons (pe_op op_sub pe_int (pv 3)) (pa_cons pe_int pa_nil))) pa_nil))))))))
        (pe_call GD hr (by rfl) DD.g DD.F.kp bD .nil pass0 (pa_cons (pv 0) (pa_cons pe_int pa_nil))) (fun _ _ => rfl)))))), ?_⟩
    have c2 : ∀ (σ : St) (i j : Int), frB [.int i, .int j] = false → Gd m g NoF σ (tTup (tCons (tC (.int i)) (tCons (tC (.int j)) tNil))) := fun σ i j h => gd_tup (vs := [.int i, .int j]) (by simp) (fun _ _ q => q) (nof_tup h (kn_ints (xs := [i, j])))
    refine st_set (gd_list (m := m) (g := g) (R := NoF) (n := 14) (gd_cons (gd_c fun _ => nof .non) (gd_cons (gd_c fun _ => nof (.bl _)) (gd_cons (gd_c fun _ => nof (.bl _)) (gd_cons (gd_c fun _ => nof (.str _)) (gd_cons (gd_c fun _ => nof (.str _))
      (gd_cons (gd_lst (vs := [.int 1, .int 2]) (by simp) (fun _ _ q => q) fun _ _ e => nof (.lst e)) (gd_cons (c2 _ 2 4 (by decide)) (gd_cons (c2 _ 0 2 (by decide)) (gd_cons (c2 _ 0 1 (by decide)) (gd_cons (c2 _ 1 1 (by decide)) (gd_cons (c2 _ 3 1 (by decide)) (gd_cons (c2 _ 1 0 (by decide))
      (gd_cons (gd_tup (vs := [.int 1, .int (0 - 2)]) (by simp) (fun _ _ q => ⟨_, _, rfl, rfl, q⟩) (nof_tup (by decide) (kn_ints (xs := [1, 0 - 2])))) (gd_cons (gd_tup (vs := [.int 1]) (by simp) (fun _ _ q => q) (nof_tup rfl (kn_ints (xs := [1])))) gd_nil)))))))))))))) (by decide) d fun vs1 H1 a1 s1 l1 r1 e1 n1 => ?_)
    have d1 := d.same s1
    refine ⟨_, rfl, v, p, rfl, fr.same s1, fun t2 H2 s2 e2 => ?_⟩
    refine ⟨t2, _, rfl, .inl (.inl e2), rfl, _, _, rfl, _, _, rfl, rfl, ?_⟩
    have d2 := d1.same s2
    have px : p.2 > 0 := l.pos
    have hw : ∀ x : Int, x.natAbs < 2 ^ 200 → CMulW x 2 := fun x hx => wide_mul (a := 200) (b := 2) hx (by decide) (by decide) (by decide) (by decide)
    have g2 : frB [.int (p.1 * 2), .int (p.2 * 2)] = false := by
      rw [frB_two, Int.gcd_mul_right]
      have z : ¬ (((Int.gcd p.1 p.2 * (2 : Int).natAbs : Nat) : Int) = 1) := by
        rw [l.cop]
        decide
      rw [decide_eq_false z, Bool.and_false]
    have g3 : frB [.int p.1, .int (0 - p.2)] = false := by
      rw [frB_two, decide_eq_false (show ¬ 1 < 0 - p.2 by omega), Bool.false_and]
    have g4 : frB [.int (0 - p.1), .int 0] = false := by
      rw [frB_two, decide_eq_false (show ¬ (1 : Int) < 0 by decide), Bool.false_and]
    dsimp only
    refine st_set ?_
    refine ⟨_, rfl, gd_list (m := m) (g := g) (R := NoF) (n := 7)
      (gd_cons (gd_tup (vs := [.int 1, .int 2, .int 3]) (by simp) (fun _ _ q => q) (nof_tup rfl (kn_ints (xs := [1, 2, 3]))))
      (gd_cons (gd_tup (vs := [.bl true, .int 2]) (by simp) (fun _ _ q => q) (nof_tup rfl fun H x hx => by
        rcases List.mem_cons.mp hx with rfl | hx
        · exact ⟨_, .bl _⟩
        · exact kn_ints (xs := [2]) H x hx))
      (gd_cons (gd_tup (vs := [.int 1, .bl true]) (by simp) (fun _ _ q => q) (nof_tup rfl fun H x hx => by
        rcases List.mem_cons.mp hx with rfl | hx
        · exact ⟨_, .int _⟩
        · rw [List.mem_singleton.mp hx]
          exact ⟨_, .bl _⟩))
      (gd_cons (fun H Q d q => ?_)
      (gd_cons (gd_tup (vs := [.int (p.1 * 2), .int (p.2 * 2)]) (by simp) (fun _ _ q => ⟨_, rfl, _, _, rfl, rfl, hw _ bd.1, _, rfl, _, _, rfl, rfl, hw _ bd.2, q⟩) (nof_tup g2 (kn_ints (xs := [_, _]))))
      (gd_cons (gd_tup (vs := [.int p.1, .int (0 - p.2)]) (by simp) (fun _ _ q => ⟨_, rfl, _, rfl, _, _, rfl, rfl, q⟩) (nof_tup g3 (kn_ints (xs := [_, _]))))
      (gd_cons (gd_tup (vs := [.int p.1, .int p.2, .int 1]) (by simp) (fun _ _ q => ⟨_, rfl, _, rfl, q⟩) (nof_tup rfl (kn_ints (xs := [_, _, _])))) gd_nil))))))) (by decide) d2 fun vs3 H3 a3 s3 l3 r3 e3 n3 => ?_⟩
    · refine ⟨by show 2 ≤ sizeLine; decide, fun a na => ⟨by show 2 ≤ sizeLine; decide, ?_⟩⟩
      obtain ⟨gs, sm, k, d'⟩ := d
      obtain ⟨n1, n2⟩ := d'.free na
      have d2 : Dr (upd H a (.tup [.int 1, .int 2])) m g gs sm k := d'.same (same_new na)
      intro b nb
      obtain ⟨m1, m2⟩ := d2.free nb
      refine q _ _ ((same_new na).trans (same_new nb)) fun H' k' => ?_
      have ea : H' a = some (.tup [.int 1, .int 2]) := k' a _ n1 n2 (by intro _ z; cases z) (same_new nb _ _ upd_same)
      have eb : H' b = some (.tup [.ref a, .int 1]) := k' b _ m1 m2 (by intro _ z; cases z) upd_same
      have z : IsF H' (.ref b) (frB [.ref a, .int 1]) := .tup eb fun x hx => by
        rcases List.mem_cons.mp hx with rfl | hx
        · exact ⟨_, .tup ea⟩
        · rw [List.mem_singleton.mp hx]
          exact ⟨_, .int _⟩
      exact z
    · refine ⟨a1, a3, vs1, vs3, rfl, rfl, (s3 _ _ (s2 _ _ e1)), e3, by rw [l1, l3]; exact Nat.le_of_lt (small1000 (by decide)), fun a4 n4 => ?_⟩
      have d4 := (d2.same s3).same (same_new (o := .lst (vs1 ++ vs3)) n4)
      have r4 : ∀ v ∈ vs1 ++ vs3, Stay m g NoF (upd H3 a4 (.lst (vs1 ++ vs3))) v := fun v hv => by
        rcases List.mem_append.mp hv with hv | hv
        · exact (r1 v hv).kp (Same.kp ((s2.trans s3).trans (same_new n4)))
        · exact (r3 v hv).kp (Same.kp (same_new n4))
      have e4 : (upd H3 a4 (.lst (vs1 ++ vs3))) a4 = some (.lst (vs1 ++ vs3)) := upd_same
      have s4 : Same H (upd H3 a4 (.lst (vs1 ++ vs3))) := ((s1.trans s2).trans s3).trans (same_new n4)
      generalize upd H3 a4 (.lst (vs1 ++ vs3)) = H4 at d4 r4 e4 s4
      have l4 : (vs1 ++ vs3).length = 21 := by rw [List.length_append, l1, l3]
      generalize vs1 ++ vs3 = ws at r4 e4 l4
      dsimp only
      refine st_ret ?_
      refine ⟨_, rfl, gd_list (m := m) (g := g) (R := NoF) (n := 6)
        (gd_cons (gd_dict fun _ _ e => nof (.dK e))
        (gd_cons (gd_tup (vs := []) (by simp) (fun _ _ q => q) (nof_tup rfl (kn_ints (xs := []))))
        (gd_cons (gd_tup (vs := [.str _, .int 2]) (by simp) (fun _ _ q => q) (nof_tup rfl fun H x hx => by
          rcases List.mem_cons.mp hx with rfl | hx
          · exact ⟨_, .str _⟩
          · exact kn_ints (xs := [2]) H x hx))
        (gd_cons (gd_tup (vs := [.non, .int 2]) (by simp) (fun _ _ q => q) (nof_tup rfl fun H x hx => by
          rcases List.mem_cons.mp hx with rfl | hx
          · exact ⟨_, .non⟩
          · exact kn_ints (xs := [2]) H x hx))
        (gd_cons (gd_lst (vs := [.int p.1, .int p.2]) (by simp) (fun _ _ q => ⟨_, rfl, _, rfl, q⟩) fun _ _ e => nof (.lst e))
        (gd_cons (gd_tup (vs := [.int (0 - p.1), .int 0]) (by simp) (fun _ _ q => ⟨_, rfl, _, _, rfl, rfl, q⟩) (nof_tup g4 (kn_ints (xs := [_, _])))) gd_nil)))))) (by decide) d4 fun vs5 H5 a5 s5 l5 r5 e5 n5 => ?_⟩
      refine ⟨a4, a5, ws, vs5, rfl, rfl, s5 _ _ e4, e5, by rw [l4, l5]; exact Nat.le_of_lt (small1000 (by decide)), fun a6 n6 => ?_⟩
      have d5 := d4.same s5
      have d6 := d5.same (same_new (o := .lst (ws ++ vs5)) n6)
      have nn : a6 ≠ m ∧ a6 ≠ g := by
        obtain ⟨gs, sm, k, d5⟩ := d5
        exact d5.free n6
      have r6 : ∀ v ∈ ws ++ vs5, Stay m g NoF (upd H5 a6 (.lst (ws ++ vs5))) v := fun v hv => by
        rcases List.mem_append.mp hv with hv | hv
        · exact (r4 v hv).kp (Same.kp (s5.trans (same_new n6)))
        · exact (r5 v hv).kp (Same.kp (same_new n6))
      refine ⟨_, rfl, m, g, 27, rfl, d6, by decide, by decide, fun r H7 h0 h1 d7 k7 => ?_⟩
      obtain ⟨x, hx, ex⟩ := at_len (xs := ws ++ vs5) (n := 27) (by rw [List.length_append, l4, l5]) h0 h1
      refine ⟨a6, _, _, _, rfl, rfl, .inl (.inl (k7 a6 _ nn.1 nn.2 upd_same)), ex, ?_⟩
      exact q x H7 ((r6 x hx).kp k7) d7 ((Same.kp (s4.trans (s5.trans (same_new n6)))).trans k7)
end
end Cw
namespace Cw
open PySem PySem.Spec PyProof.Rows L2
/-! ### _law_said, which is handed a lambda -/
/-- errors of the class at D are called t -/
def Fc (K : PySem.W.Frag) (CN CF CP D : Addr) (t : Str) : Prop := IsX K D ∧ ∃ bN bF bP : Bool, PySem.W.kitOne K (.ref D) (.ref CN) = some bN ∧ PySem.W.kitOne K (.ref D) (.ref CF) = some bF ∧ PySem.W.kitOne K (.ref D) (.ref CP) = some bP ∧
  ((bN = true ∧ bF = false ∧ bP = false ∧ t = "number") ∨ (bN = false ∧ bF = true ∧ bP = false ∧ t = "fraction") ∨ (bN = false ∧ bF = false ∧ bP = true ∧ t = "none"))
/-- what _law_said makes of a deed that raises -/
def TSaid (K : PySem.W.Frag) (R1 R2 CN CF CP : Addr) : (XK → Hp → VK → Prop) → Hp → VK → Prop := fun tl H Q => ∀ Q', tl (fun cls d H1 => ∃ D dd v t, cls = .ref D ∧ d = some dd ∧ H1 dd = some (.xd [(("why" : Str), v)]) ∧ PySem.W.exmAny K (.ref D) [.ref R1, .ref R2] = some true ∧
  Fc K CN CF CP D t ∧ ∀ H2, Same H1 H2 → Q (.str t) H2) H Q'
abbrev nSaid : List Str := ["_law_deed", "_law_e", "error", "_law_some", "_law_item"]
theorem scSaid : FnScope nSaid ["_law_deed"] (defScope sSaid) := ⟨rfl, rfl, rfl, by decide +kernel, rfl, by decide +kernel, by decide +kernel⟩
theorem takes_len {X : Cx} {W : WX} {E : XK} (tk : Takes X W) (h : ∀ cls d (σ : St) H, σ.length = X.N.length → E cls d H → W cls d σ H) : Takes X (fun cls d _ H => E cls d H) := fun u s' ⟨a, B, sI, pins, σ, H, cls, d, e, I, nb, up, sky, na, os, ag, w⟩ =>
  tk u s' ⟨a, B, sI, pins, σ, H, cls, d, e, I, nb, up, sky, na, os, ag, h _ _ _ _ I.len w⟩
theorem five {α : Type} {σ : List α} (h : σ.length = 5) : ∃ a b c d e, σ = [a, b, c, d, e] := by
  match σ, h with
  | [a, b, c, d, e], _ => exact ⟨a, b, c, d, e, rfl⟩
def said3 (bN bF bP : Bool) : List (Str × Bool) := [("number", bN), ("fraction", bF), ("none", bP)]
def told (l : List (Str × Bool)) : List V := (l.filter (·.2)).map fun p => V.str p.1
theorem told_app (l m : List (Str × Bool)) : told (l ++ m) = told l ++ told m := by
  unfold told
  rw [List.filter_append, List.map_append]
theorem told_len (l : List (Str × Bool)) : (told l).length ≤ l.length := by
  unfold told
  rw [List.length_map]
  exact List.length_filter_le ..
theorem said_gives {X : Cx} {g : Addr} {cdg : Value} {q : Str} {R1 R2 CN CF CP : Addr} (B : Bi X.mg) (h1 : X.mg "Refused" = some (.ref R1)) (h2 : X.mg "Barred" = some (.ref R2)) (hN : X.mg "BadNumber" = some (.ref CN)) (hF : X.mg "BadFraction" = some (.ref CF)) (hP : X.mg "NoParts" = some (.ref CP)) :
    LamX.GivesTo X nSaid "_law_said" (defScope sSaid) g cdg (defBody sSaid) "_law_deed" q (TSaid X.K R1 R2 CN CF CP) := by
  intro f c' s H Q tl act hc h
  refine ⟨_, pss_cons (ps_set (i := 1) scSaid.nd rfl (.inl rfl) pe_non)
    (pss_cons (ps_try_pair (i := 2) (c1 := .ref R1) (c2 := .ref R2) (X := (cxOf C8.CX0 X.prog X.w X.K X.mg X.base nSaid "_law_said" (defScope sSaid) g cdg X.A X.stack s H C8.E0).nox)
        (tb := fun W D σ H => ∃ Ech : XK, (∀ cls d (σ' : St) H', σ'.length = 5 → Ech cls d H' → W cls d σ' H') ∧ σ[0]? = some (some (.ref f)) ∧ H c' = some (LamX.CodeO c' q) ∧ ∀ Q', tl Ech H Q')
        rfl rfl rfl scSaid.nd rfl rfl ⟨by rfl, by rfl, .inl h1⟩ ⟨by rfl, by rfl, .inl h2⟩
        (fun W pn xe tk _ => ?_) (fun a oe cls d pn _ _ => pss_one (ps_set (i := 1) scSaid.nd rfl (.inl rfl) (pv 2))))
    (pss_cons (ps_if (pt_cmpR op_isN (pv 1) pe_non (nomark _)) (pss_one (ps_ret pe_str)) pss_nil)
    (pss_cons (ps_set (i := 3) scSaid.nd rfl (.inl rfl) (pe_lst
      (pa_cons (pe_tup (pa_cons pe_str (pa_cons (pe_callB call_isX (by rfl) B.isi (by decide +kernel) (pa_cons (pv 1) (pa_cons (pe_glob (v := .ref CN) (by rfl) hN rfl) pa_nil))) pa_nil)))
      (pa_cons (pe_tup (pa_cons pe_str (pa_cons (pe_callB call_isX (by rfl) B.isi (by decide +kernel) (pa_cons (pv 1) (pa_cons (pe_glob (v := .ref CF) (by rfl) hF rfl) pa_nil))) pa_nil))) pa_nil))))
    (pss_cons (ps_expr (pe_bm PySem.F.plainAttrs_list PySem.F.slot_list_append PySem.F.type_list_append mt_append (pv 3)
      (pa_cons (pe_tup (pa_cons pe_str (pa_cons (pe_callB call_isX (by rfl) B.isi (by decide +kernel) (pa_cons (pv 1) (pa_cons (pe_glob (v := .ref CP) (by rfl) hP rfl) pa_nil))) pa_nil))) pa_nil)))
    (pss_one (ps_ret (pe_join pe_str (pe_lc (own := [("_law_item", 4)]) (g := gName 4) (tt := tB (tOp (rIxT X.K) (tVar 4) (tC (.int 1)))) (te := tOp (rIxT X.K) (tVar 4) (tC (.int 0))) rfl scSaid.nd (pi_list (pv 3)) (blkOk_by (N := nSaid) (sc := defScope sSaid) (by decide +kernel)) (fun _ _ _ _ _ => pg_name (i := 4) scSaid.nd rfl (Or.inl rfl))
      (fun _ _ _ _ _ => pts_one (pt_val (pe_ix ix_tup (pv 4) pe_int (fun _ _ => rfl)))) (fun _ _ _ _ _ => pe_ix ix_tup (pv 4) pe_int (fun _ _ => rfl)))))))))), ?_⟩
  · refine ⟨fun pins s' σ H' D I h' => ?_⟩
    obtain ⟨Ech, hW, z1, z2, z3⟩ := h'
    have hp := act (fun cls d _ H => Ech cls d H) pn xe Ech ⟨97, 8, 97, 17⟩ ⟨97, 8, 97, 19⟩ (takes_len tk hW) (fun _ _ _ _ z => z)
    exact (pss_one (ps_expr hp)).run pins s' σ H' D I ⟨z1, z2, z3 _⟩
  · refine ⟨fun cls d H1 => ∃ D dd v t, cls = .ref D ∧ d = some dd ∧ H1 dd = some (.xd [(("why" : Str), v)]) ∧ PySem.W.exmAny X.K (.ref D) [.ref R1, .ref R2] = some true ∧ Fc X.K CN CF CP D t ∧ ∀ H2, Same H1 H2 → Q (.str t) H2, ?_, rfl, hc, h⟩
    rintro cls d σ' H1 hl ⟨D, dd, v, t, rfl, rfl, hd, hm, ⟨ix, bN, bF, bP, kN, kF, kP, ht⟩, q⟩
    obtain ⟨x0, x1, x2, x3, x4, rfl⟩ := five hl
    refine ⟨hm, fun a na => ⟨_, rfl, ?_⟩⟩
    have sa : Same H1 (upd H1 a (xo a (.ref D) (some dd))) := same_new na
    have ea : (upd H1 a (xo a (.ref D) (some dd))) a = some (xo a (.ref D) (some dd)) := upd_same
    have ed := sa _ _ hd
    refine ⟨_, rfl, rfl, _, rfl, no rfl ?_⟩
    refine ⟨_, rfl, a, D, CN, dd, _, bN, rfl, ea, ed, ix, kN, (by show 2 ≤ sizeLine; decide), fun t1 n1 => ?_⟩
    generalize upd H1 a (xo a (.ref D) (some dd)) = H2 at sa ea ed n1
    have s1 : Same H2 (upd H2 t1 (.tup [.str "number", .bl bN])) := same_new n1
    have e1 : (upd H2 t1 (.tup [.str "number", .bl bN])) t1 = some (.tup [.str "number", .bl bN]) := upd_same
    generalize upd H2 t1 (.tup [.str "number", .bl bN]) = H3 at s1 e1
    refine ⟨_, rfl, a, D, CF, dd, _, bF, rfl, s1 _ _ ea, s1 _ _ ed, ix, kF, (by show 2 ≤ sizeLine; decide), fun t2 n2 => ?_⟩
    have s2 : Same H3 (upd H3 t2 (.tup [.str "fraction", .bl bF])) := same_new n2
    have e2 : (upd H3 t2 (.tup [.str "fraction", .bl bF])) t2 = some (.tup [.str "fraction", .bl bF]) := upd_same
    generalize upd H3 t2 (.tup [.str "fraction", .bl bF]) = H4 at s2 e2
    refine ⟨(by show 2 ≤ sizeLine; decide), fun l nl => ?_⟩
    have s3 : Same H4 (upd H4 l (.lst [.ref t1, .ref t2])) := same_new nl
    have el : (upd H4 l (.lst [.ref t1, .ref t2])) l = some (.lst [.ref t1, .ref t2]) := upd_same
    have nl0 : H1 l = none := by
      cases e : H1 l with
      | none => rfl
      | some o => exact absurd (s2 _ _ (s1 _ _ (sa _ _ e))) (by rw [nl]; simp)
    generalize upd H4 l (.lst [.ref t1, .ref t2]) = H5 at s3 el
    have s123 := (s1.trans s2).trans s3
    refine ⟨_, rfl, .inl ⟨rfl, _, .inl (.inl el)⟩, ?_⟩
    refine ⟨_, rfl, a, D, CP, dd, _, bP, rfl, s123 _ _ ea, s123 _ _ ed, ix, kP, (by show 2 ≤ sizeLine; decide), fun t3 n3 => ?_⟩
    have s4 : Same H5 (upd H5 t3 (.tup [.str "none", .bl bP])) := same_new n3
    have e3 : (upd H5 t3 (.tup [.str "none", .bl bP])) t3 = some (.tup [.str "none", .bl bP]) := upd_same
    generalize upd H5 t3 (.tup [.str "none", .bl bP]) = H6 at s4 e3
    refine ⟨l, _, _, rfl, rfl, s4 _ _ el, (by show 2 < sizeLine; decide), ?_⟩
    have ln : ∀ {b : Addr} {xs : List V}, H6 b = some (.tup xs) → b ≠ l := fun e => ne_of e (s4 _ _ el) (fun z => by cases z)
    have f1 := s4 _ _ (s3 _ _ (s2 _ _ e1))
    have f2 := s4 _ _ (s3 _ _ e2)
    have g1 : (upd H6 l (.lst [.ref t1, .ref t2, .ref t3])) t1 = some (.tup [.str "number", .bl bN]) := by rw [upd_ne (ln f1)]; exact f1
    have g2 : (upd H6 l (.lst [.ref t1, .ref t2, .ref t3])) t2 = some (.tup [.str "fraction", .bl bF]) := by rw [upd_ne (ln f2)]; exact f2
    have g3 : (upd H6 l (.lst [.ref t1, .ref t2, .ref t3])) t3 = some (.tup [.str "none", .bl bP]) := by rw [upd_ne (ln e3)]; exact e3
    have g4 : (upd H6 l (.lst [.ref t1, .ref t2, .ref t3])) l = some (.lst [.ref t1, .ref t2, .ref t3]) := upd_same
    have sZ : Same H1 (upd H6 l (.lst [.ref t1, .ref t2, .ref t3])) := fun b o e => by
      rw [upd_ne (ne_of_none e nl0)]
      exact s4 _ _ (s123 _ _ (sa _ _ e))
    dsimp only [List.cons_append, List.nil_append]
    generalize upd H6 l (.lst [.ref t1, .ref t2, .ref t3]) = H7 at g1 g2 g3 g4 sZ
    refine ⟨⟨_, rfl⟩, ?_⟩
    have hS : ∀ H', Same H7 H' → SqL X.K H' l [.ref t1, .ref t2, .ref t3] := fun H' s => .inl (.inl (s _ _ g4))
    refine ⟨_, rfl, l, rfl, ⟨_, hS H7 (Same.refl H7)⟩, fun L nL => lc_list (K := X.K) (a := l) (xs := [.ref t1, .ref t2, .ref t3])
      (fun i H' => Same H7 H' ∧ H' L = some (.lst (told ((said3 bN bF bP).take i)))) ⟨same_new nL, upd_same⟩ (fun i H' _ ⟨s, _⟩ => hS _ s) ?_ ?_⟩
    · rintro i x H' hi ⟨s, eL⟩
      obtain ⟨b, p, rfl, hp, hb⟩ : ∃ b p, x = .ref b ∧ (said3 bN bF bP)[i]? = some p ∧ H7 b = some (.tup [.str p.1, .bl p.2]) := by
        match i, hi with
        | 0, hi => exact ⟨t1, _, (Option.some.inj hi).symm, rfl, g1⟩
        | 1, hi => exact ⟨t2, _, (Option.some.inj hi).symm, rfl, g2⟩
        | 2, hi => exact ⟨t3, _, (Option.some.inj hi).symm, rfl, g3⟩
        | i + 3, hi => simp at hi
      have hb' := s _ _ hb
      refine ⟨rfl, _, rfl, b, _, 1, .bl p.2, rfl, rfl, .inl (.inl hb'), rfl, _, rfl, ?_⟩
      have stepT : told ((said3 bN bF bP).take (i + 1)) = told ((said3 bN bF bP).take i) ++ told [p] := by
        rw [List.take_add_one, hp, told_app]
        rfl
      by_cases c : p.2 = true
      · refine yes c ?_
        refine ⟨_, rfl, b, _, 0, .str p.1, rfl, rfl, .inl (.inl hb'), rfl, _, eL, ?_, fun c o e => ?_, ?_⟩
        · exact small1000 (Nat.le_trans (Nat.le_trans (told_len _) (List.length_take_le' ..)) (show 3 ≤ 1000 by decide))
        · rw [upd_ne (ne_of_none e nL)]
          exact s c o e
        · rw [upd_same, stepT]
          simp [told, c]
      · have c' : p.2 = false := by simpa using c
        refine no c' ⟨s, ?_⟩
        rw [eL, stepT]
        simp [told, c']
    · rintro H' ⟨s, eL⟩
      have e3 : told ((said3 bN bF bP).take [V.ref t1, V.ref t2, V.ref t3].length) = [V.str t] := by
        rcases ht with ⟨rfl, rfl, rfl, rfl⟩ | ⟨rfl, rfl, rfl, rfl⟩ | ⟨rfl, rfl, rfl, rfl⟩ <;> rfl
      rw [e3] at eL
      refine ⟨_, L, [t], rfl, rfl, .inl (.inl (.inl eL)), ?_, ?_⟩
      · rcases ht with ⟨_, _, _, rfl⟩ | ⟨_, _, _, rfl⟩ | ⟨_, _, _, rfl⟩ <;> decide +kernel
      · have ej : Txt.join " " [t] = t := by
          rcases ht with ⟨_, _, _, rfl⟩ | ⟨_, _, _, rfl⟩ | ⟨_, _, _, rfl⟩ <;> decide +kernel
        rw [ej]
        exact q _ (sZ.trans s)
end Cw
namespace Cw
open PySem PySem.Spec PyProof.Rows L2
/-! ### _law_refused_right: five lambdas -/
/-- _law_said(lambda: ..) -/
theorem pe_said {X : Cx} {fS c Pt R1 R2 CN CF CP : Addr} {fdS : FuncData} {params : Arguments} {body : Expr} {scope : Scope} {t : XK → TE} {p lpos pos : Pos} (DS : Df X.K X.mg "_law_said" sSaid fS fdS) (bS : L2.Binds X.K fdS ["_law_deed"] []) (B : Bi X.mg)
    (h1 : X.mg "Refused" = some (.ref R1)) (h2 : X.mg "Barred" = some (.ref R2)) (hN : X.mg "BadNumber" = some (.ref CN)) (hF : X.mg "BadFraction" = some (.ref CF)) (hP : X.mg "NoParts" = some (.ref CP)) (TB : LamX.TabB X.base X.mg c Pt) (hcode : X.env.code = .ref c) (hr : Room 7 X.A)
    (hbody : ∀ (A : Around) (outer : List Env) (s : Shared) (H : Hp) (E : XK) (f c' : Addr), Room 5 (A.deeper (LamX.lamEnv X scope s.heap.objs.size f c')) → PE (LamX.lamCx X A outer s H E scope f c') body (t E))
    (hg : Gl X "_law_said" := by rfl) (hsc : X.env.scope = defScope sRef := by rfl) (L : LamX.lamSB (defScope sRef) scope = true := by decide +kernel) (hdef : defaultsOf params X.env = ([], []) := by rfl)
    (hbind : ∀ (q : Str) (cl : List (Str × Addr)) (pm cv ctv : Value), bindArgs (PySem.W.kla_fn "<lambda>" q params body scope cl pm cv ctv) ⟨[], []⟩ = pure [] := by intros; rfl) :
    PE X (.Call (.Name "_law_said" p) [.Lambda params body scope lpos] [] pos) (LamX.tLam [(Pt, X.env.qual ++ "<lambda>")] (TSaid X.K R1 R2 CN CF CP) t) := by
  obtain ⟨F, gS⟩ := DS
  obtain ⟨oc, od, kV, doc, pm, an, cdv, ct, osl, rfl, lk, hcd⟩ := F.ex
  exact LamX.pe_lamcall hg gS F.kp lk hcd bS scSaid rfl (.inl rfl) (said_gives B h1 h2 hN hF hP) TB hcode (List.mem_singleton.mpr rfl) (fun p hp _ => by rw [List.mem_singleton.mp hp]) hr (LamX.lamS_by (by rw [hsc]; exact L)) hdef hbind hbody
theorem said_out {K : PySem.W.Frag} {R1 R2 CN CF CP D : Addr} {t : Str} {H : Hp} {Q : VK} (hm : PySem.W.exmAny K (.ref D) [.ref R1, .ref R2] = some true) (fc : Fc K CN CF CP D t) (q : ∀ H2, Same H H2 → Q (.str t) H2) :
    Out (fun cls d H1 => ∃ D dd v t, cls = .ref D ∧ d = some dd ∧ H1 dd = some (.xd [(("why" : Str), v)]) ∧ PySem.W.exmAny K (.ref D) [.ref R1, .ref R2] = some true ∧ Fc K CN CF CP D t ∧ ∀ H2, Same H1 H2 → Q (.str t) H2) D H :=
  fun d H' v s e => ⟨D, d, v, t, rfl, rfl, e, hm, fc, fun H2 s2 => q H2 (s.trans s2)⟩
theorem st_op {r : R2} {ta tb : TE} {σ : St} {H : Hp} {Q : VK} (h : ta σ H fun x H1 => tb σ H1 fun y H2 => r x y H2 Q) : tOp r ta tb σ H Q := h
theorem code_ne {c : Addr} {q : Str} {o : HO} (h : ∀ φ, o ≠ .ext φ) : LamX.CodeO c q ≠ o := fun z => h _ z.symm
theorem tabs_by {T : List (Addr × Str)} {H H' : Hp} (t : LamX.Tabs T H) (k : ∀ b ps, H b = some (.tbl ps) → H' b = some (.tbl ps)) (k2 : ∀ b φ, H b = some (.ext φ) → H' b = some (.ext φ)) : LamX.Tabs T H' := fun p hp => by
  obtain ⟨ps, a1, a2, a3⟩ := t p hp
  refine ⟨ps, k _ _ a1, a2, fun p' cv hcv => ?_⟩
  obtain ⟨c0, e1, e2⟩ := a3 p' cv hcv
  exact ⟨c0, e1, k2 _ _ e2⟩
theorem DrE.tabs {T : List (Addr × Str)} {H H' : Hp} {m g : Addr} (d : DrE H m g) (t : LamX.Tabs T H) (k : Kp m g H H') : LamX.Tabs T H' := by
  obtain ⟨gs, sm, n, d⟩ := d
  exact tabs_by t (fun b ps e => k b _ (ne_of e d.em fun z => by cases z) (ne_of e d.eg fun z => by cases z) e) fun b φ e => k b _ (ne_of e d.em fun z => by cases z) (ne_of e d.eg fun z => by cases z) e
theorem tabs_put {T : List (Addr × Str)} {H : Hp} {l : Addr} {xs : List V} {o : HO} (t : LamX.Tabs T H) (e : H l = some (.lst xs)) : LamX.Tabs T (upd H l o) :=
  tabs_by t (fun b ps h => by rw [upd_ne (ne_of h e fun z => by cases z)]; exact h) fun b φ h => by rw [upd_ne (ne_of h e fun z => by cases z)]; exact h
/-- what stands all along, from H0 on -/
structure Rn (m g : Addr) (T : List (Addr × Str)) (H0 H : Hp) : Prop where
  kn : KN m g H0 H
  d : DrE H m g
  tb : LamX.Tabs T H
section
variable {m g l : Addr} {T : List (Addr × Str)} {H0 H H' : Hp}
theorem Rn.same (r : Rn m g T H0 H) (s : Same H H') : Rn m g T H0 H' := ⟨r.kn.trans (Same.kp s).kn, r.d.same s, r.tb.ext s⟩
theorem Rn.ext (r : Rn m g T H0 H) (x : LamX.ExtN H H') (t : LamX.Tabs T H') : Rn m g T H0 H' := by
  obtain ⟨gs, sm, k, d⟩ := r.d
  exact ⟨r.kn.trans (KN.tab x), ⟨gs, sm, k, x _ _ d.em (by intro _ z; cases z), x _ _ d.eg (by intro _ z; cases z), d.len, d.s0, d.s1, d.k0⟩, t⟩
theorem Rn.kp (r : Rn m g T H0 H) (k : Kp m g H H') (d : DrE H' m g) : Rn m g T H0 H' := ⟨r.kn.trans k.kn, d, r.d.tabs r.tb k⟩
theorem Rn.put {xs : List V} {o : HO} (r : Rn m g T H0 H) (e : H l = some (.lst xs)) (n0 : ∀ o, (∀ ps, o ≠ .tbl ps) → H0 l ≠ some o) (n : l ≠ m ∧ l ≠ g) : Rn m g T H0 (upd H l o) := by
  obtain ⟨gs, sm, k, d⟩ := r.d
  refine ⟨fun b x h1 h2 h3 e3 => ?_, ⟨gs, sm, k, by rw [upd_ne (Ne.symm n.1)]; exact d.em, by rw [upd_ne (Ne.symm n.2)]; exact d.eg, d.len, d.s0, d.s1, d.k0⟩, tabs_put r.tb e⟩
  have nb : b ≠ l := fun z => n0 x h3 (z ▸ e3)
  rw [upd_ne nb]
  exact r.kn b x h1 h2 h3 e3
theorem Rn.new0 (r : Rn m g T H0 H) (e : H l = none) : (∀ o, (∀ ps, o ≠ .tbl ps) → H0 l ≠ some o) ∧ (l ≠ m ∧ l ≠ g) := by
  obtain ⟨gs, sm, k, d⟩ := r.d
  have f := d.free e
  refine ⟨fun o ho e3 => ?_, f⟩
  have z := r.kn l o f.1 f.2 ho e3
  rw [e] at z
  cases z
end
theorem frac_kn {H H' : Hp} {m g : Addr} {v : V} {p : Int × Int} (d : DrE H m g) (f : Frac H v p) (s : KN m g H H') : Frac H' v p := by
  obtain ⟨gs, sm, k, d⟩ := d
  exact f.ext fun b xs e => s b _ (ne_of e d.em (fun z => by cases z)) (ne_of e d.eg (fun z => by cases z)) (by intro _ z; cases z) e
def D5 : PyData := .list [.str "fraction", .str "fraction", .str "number", .str "number", .str "none"]
theorem d5_eq : PyData.eqv D5 D5 = true := by decide +kernel
theorem d5_sh : SeqAt.shaped D5 = true := by decide +kernel
theorem pow_ok30 : CPow 10 30 := by show 0 ≤ (30 : Int) ∧ _; decide
def qLam : Str := ("_law_refused_right" : Str) ++ ".<locals>." ++ "<lambda>"
/-- no count that power takes -/
def OddN : Hp → V → Prop := fun H v => ∃ t, Kn H v t ∧ (t = "int" → ∃ i, v = .int i ∧ ¬ (-20 ≤ i ∧ i ≤ 20))
section
variable {P : Program} {w : World} {K : PySem.W.Frag} {mg : Str → Option Value} {base : Heap}
abbrev nRef : List Str := ["_law_m", "_law_x", "_law_said_here", "_law_odd_here", "_law_often"]
def spRef (Pt : Addr) : Sp := fun vs H Q _ => ∃ (m g : Addr) (v : V) (p : Int × Int), vs = [.ref m, v] ∧ DrE H m g ∧ Frac H v p ∧ Low p ∧ Bd 200 p ∧ LamX.Tabs [(Pt, qLam)] H ∧ ∀ H', DrE H' m g → LamX.Tabs [(Pt, qLam)] H' → Q (.bl true) H'
theorem scRef : FnScope nRef ["_law_m", "_law_x"] (defScope sRef) := ⟨rfl, rfl, rfl, by decide +kernel, rfl, by decide +kernel, by decide +kernel⟩
theorem ok_ref {f c Pt fO fD fS fW R1 R2 CN CF CP : Addr} {fd fdO fdD fdS fdW : FuncData} {kV doc pm ct oc : Value} {an od : Option Addr} {osl : Array (Option Value)}
    (hfd : fd = PySem.W.fnOf "_law_refused_right" "_law_refused_right" (defArgs sRef) (defBody sRef) (defScope sRef) .none kV doc pm an (.ref c) ct) (lk : K.lookup f = some ⟨oc, od, .func fd, osl⟩) (hcd : PySem.W.codeIn K (.ref c) "_law_refused_right" = true) (B : Bi mg)
    (h1 : mg "Refused" = some (.ref R1)) (h2 : mg "Barred" = some (.ref R2)) (hN : mg "BadNumber" = some (.ref CN)) (hF : mg "BadFraction" = some (.ref CF)) (hP : mg "NoParts" = some (.ref CP)) (TB : LamX.TabB base mg c Pt)
    (eN : PySem.W.exmAny K (.ref CN) [.ref R1, .ref R2] = some true) (eF : PySem.W.exmAny K (.ref CF) [.ref R1, .ref R2] = some true) (eP : PySem.W.exmAny K (.ref CP) [.ref R1, .ref R2] = some true)
    (fcN : Fc K CN CF CP CN "number") (fcF : Fc K CN CF CP CF "fraction") (fcP : Fc K CN CF CP CP "none")
    (DO : Df K mg "_law_odd" sOdd fO fdO) (bO : Binds K fdO ["_law_m", "_law_x"] []) (GO : FnOk P w K mg base CX0 2 fO fdO ["_law_m", "_law_x"] spOdd)
    (DD : Df K mg "_law_draw" sDraw fD fdD) (bD : Binds K fdD ["_law_m", "_law_many"] []) (GD : FnOk P w K mg base CX0 1 fD fdD ["_law_m", "_law_many"] spDraw)
    (DS : Df K mg "_law_said" sSaid fS fdS) (bS : Binds K fdS ["_law_deed"] [])
    (DW : Df K mg "power" sPow fW fdW) (bW : Binds K fdW ["a", "count"] []) (GW : FnOk P w K mg base (L2.CX P w) 5 fW fdW ["a", "count"] (spPow CF CN CP)) : FnOk P w K mg base CX0 8 f fd ["_law_m", "_law_x"] (spRef Pt) := by
  subst hfd
  refine fn_of (N := nRef) lk hcd scRef (fun vs H Q E h => ?_) (fun A outer s H vs Q E hr h => ?_)
  · obtain ⟨m, g, v, p, rfl, _⟩ := h
    rfl
  · obtain ⟨m, g, v, p, rfl, d, fr, l, bd, tb, q⟩ := h
    have hr1 : Room 1 _ := hr.mono (by decide)
    have hr2 : Room 2 _ := hr.mono (by decide)
    have z : ∃ t, PSs (cxOf CX0 P w K mg base nRef "_law_refused_right" (defScope sRef) f (.ref c) A outer s H E).nox (defBody sRef) t ∧ t { nx := fun _ H' => Q .non H', rt := Q } (start nRef [.ref m, v]) H := by
      refine ⟨_, pss_cons (ps_set (i := 3) scRef.nd rfl (.inr rfl) (pe_call GO hr2 (by rfl) DO.g DO.F.kp bO .nil pass0 (pa_cons (pv 0) (pa_cons (pv 1) pa_nil))))
        (pss_cons (ps_set (i := 4) scRef.nd rfl (.inr rfl) (pe_ix ix_list (pe_lst (pa_cons pe_int (pa_cons (pe_op op_sub pe_int pe_int) (pa_cons pe_non (pa_cons pe_bl (pa_cons pe_str (pa_cons (pe_tup (pa_cons pe_int pa_nil)) (pa_cons (pe_op op_pow pe_int pe_int) (pa_cons (pe_tup (pa_cons pe_int (pa_cons pe_int pa_nil))) pa_nil)))))))))
            (pe_call GD hr1 (by rfl) DD.g DD.F.kp bD .nil pass0 (pa_cons (pv 0) (pa_cons pe_int pa_nil))) (fun _ _ => rfl)))
        (pss_cons (ps_set (i := 2) scRef.nd rfl (.inl rfl) (pe_lst (pa_cons (pe_said DS bS B h1 h2 hN hF hP TB rfl hr
            (fun A outer s H E f c' hr => pe_callS GW hr (by rfl) DW.g DW.F.kp bW (fun σ => passAt (W := fun cls d _ H => E cls d H) (takes_of rfl rfl rfl rfl) σ) (pa_cons (pv 3) (pa_cons (pv 4) pa_nil)))) pa_nil)))
        (pss_cons (ps_expr (pe_bm PySem.F.plainAttrs_list PySem.F.slot_list_append PySem.F.type_list_append mt_append (pv 2) (pa_cons (pe_said DS bS B h1 h2 hN hF hP TB rfl hr
            (fun A outer s H E f c' hr => pe_callS GW hr (by rfl) DW.g DW.F.kp bW (fun σ => passAt (W := fun cls d _ H => E cls d H) (takes_of rfl rfl rfl rfl) σ) (pa_cons (pv 3) (pa_cons (pe_op op_sub pe_int pe_int) pa_nil)))) pa_nil)))
        (pss_cons (ps_expr (pe_bm PySem.F.plainAttrs_list PySem.F.slot_list_append PySem.F.type_list_append mt_append (pv 2) (pa_cons (pe_said DS bS B h1 h2 hN hF hP TB rfl hr
            (fun A outer s H E f c' hr => pe_callS GW hr (by rfl) DW.g DW.F.kp bW (fun σ => passAt (W := fun cls d _ H => E cls d H) (takes_of rfl rfl rfl rfl) σ) (pa_cons (pv 1) (pa_cons (pv 4) pa_nil)))) pa_nil)))
        (pss_cons (ps_expr (pe_bm PySem.F.plainAttrs_list PySem.F.slot_list_append PySem.F.type_list_append mt_append (pv 2) (pa_cons (pe_said DS bS B h1 h2 hN hF hP TB rfl hr
            (fun A outer s H E f c' hr => pe_callS GW hr (by rfl) DW.g DW.F.kp bW (fun σ => passAt (W := fun cls d _ H => E cls d H) (takes_of rfl rfl rfl rfl) σ) (pa_cons pe_int (pa_cons (pv 4) pa_nil)))) pa_nil)))
        (pss_cons (ps_expr (pe_bm PySem.F.plainAttrs_list PySem.F.slot_list_append PySem.F.type_list_append mt_append (pv 2) (pa_cons (pe_said DS bS B h1 h2 hN hF hP TB rfl hr
            (fun A outer s H E f c' hr => pe_callS GW hr (by rfl) DW.g DW.F.kp bW (fun σ => passAt (W := fun cls d _ H => E cls d H) (takes_of rfl rfl rfl rfl) σ)
              (pa_cons pe_int (pa_cons (pe_op op_sub (pe_op op_sub pe_int pe_int) (pe_call GD (hr.mono (by decide)) (by rfl) DD.g DD.F.kp bD .nil pass0 (pa_cons (pv 0) (pa_cons pe_int pa_nil)))) pa_nil)))) pa_nil)))
        (pss_one (ps_ret (pe_cmpR (op_eqD hr1.units) (pv 2) (pe_lst (pa_cons pe_str (pa_cons pe_str (pa_cons pe_str (pa_cons pe_str (pa_cons pe_str pa_nil)))))) (nomark _)))))))))), ?_⟩
      refine ⟨_, rfl, _, rfl, m, g, v, p, rfl, d, fr, l, bd, fun z H1 z1 d1 k1 => ?_⟩
      have tb1 := d.tabs tb k1
      have fr1 := d.frac fr k1
      dsimp only
      refine st_set (st_op ?_)
      refine gd_list (m := m) (g := g) (R := OddN) (n := 8)
        (gd_cons (gd_c fun _ => ⟨"int", .int _, fun _ => ⟨_, rfl, by decide⟩⟩)
        (gd_cons (fun H Q _ q => ⟨_, _, rfl, rfl, q _ H (Same.refl H) fun _ _ => ⟨"int", .int _, fun _ => ⟨_, rfl, by decide⟩⟩⟩)
        (gd_cons (gd_c fun _ => ⟨_, .non, fun z => absurd z (by decide)⟩)
        (gd_cons (gd_c fun _ => ⟨_, .bl _, fun z => absurd z (by decide)⟩)
        (gd_cons (gd_c fun _ => ⟨_, .str _, fun z => absurd z (by decide)⟩)
        (gd_cons (gd_tup (vs := [.int 2]) (by simp) (fun _ _ q => q) fun _ _ e => ⟨_, .tup e, fun z => absurd z (by decide)⟩)
        (gd_cons (fun H Q _ q => ⟨_, _, rfl, rfl, pow_ok30, q _ H (Same.refl H) fun _ _ => ⟨"int", .int _, fun _ => ⟨_, rfl, by decide⟩⟩⟩)
        (gd_cons (gd_tup (vs := [.int 1, .int 2]) (by simp) (fun _ _ q => q) fun _ _ e => ⟨_, .tup e, fun z => absurd z (by decide)⟩) gd_nil)))))))) (by decide) d1 fun vs2 H2 a2 s2 l2 r2 e2 n2 => ?_
      refine ⟨_, rfl, m, g, 8, rfl, d1.same s2, by decide, by decide, fun r H3 r0 r1 d3 k3 => ?_⟩
      obtain ⟨c, hc, ec⟩ := at_len l2 r0 r1
      refine ⟨a2, _, _, _, rfl, rfl, .inl (.inl (k3 a2 _ n2.1 n2.2 e2)), ec, ?_⟩
      have z3 : Stay m g NoF H3 z := (z1.kp (Same.kp s2)).kp k3
      have c3 : Stay m g OddN H3 c := (r2 c hc).kp k3
      have f3 : Frac H3 v p := (d1.same s2).frac (fr1.same s2) k3
      have rn3 : Rn m g [(Pt, qLam)] H3 H3 := ⟨KN.refl m g H3, d3, (d1.same s2).tabs (tb1.ext s2) k3⟩
      refine ⟨rn3.tb, fun H4 x4 t4 Q' => ?_⟩
      have rn4 := rn3.ext x4 t4
      refine ⟨_, rfl, _, rfl, z, c, rfl, .badF (z3 _ rn4.kn) (fun d' H' w' s5 e' => ⟨CF, d', w', "fraction", rfl, rfl, e', eF, fcF, fun H5 s6 => ?_⟩)⟩
      have rn5 := rn4.same (s5.trans s6)
      refine ⟨by show 1 ≤ sizeLine; decide, fun l' nl => ?_⟩
      obtain ⟨w0, wn⟩ := rn5.new0 nl
      have rn6 := rn5.same (same_new (o := .lst [.str "fraction"]) nl)
      have el : (upd H5 l' (.lst [.str "fraction"])) l' = some (.lst [.str "fraction"]) := upd_same
      generalize upd H5 l' (.lst [.str "fraction"]) = H6 at rn6 el
      -- lambda 2
      refine ⟨_, rfl, .inl ⟨rfl, _, .inl (.inl el)⟩, rn6.tb, fun H7 x7 t7 Q' => ?_⟩
      have rn7 := rn6.ext x7 t7
      have el7 := x7 _ _ el (by intro _ z; cases z)
      refine ⟨_, rfl, _, _, rfl, rfl, z, _, rfl, .badF (z3 _ rn7.kn) (fun d' H' w' s5 e' => ⟨CF, d', w', "fraction", rfl, rfl, e', eF, fcF, fun H5 s6 => ?_⟩)⟩
      have el8 := s6 _ _ (s5 _ _ el7)
      refine ⟨l', _, _, rfl, rfl, el8, (by show 1 < sizeLine; decide), ?_⟩
      have rn9 := (rn7.same (s5.trans s6)).put (o := .lst ([.str "fraction"] ++ [.str "fraction"])) el8 w0 wn
      have el9 : (upd H5 l' (.lst ([.str "fraction"] ++ [.str "fraction"]))) l' = some (.lst [.str "fraction", .str "fraction"]) := upd_same
      generalize upd H5 l' (.lst ([.str "fraction"] ++ [.str "fraction"])) = H9 at rn9 el9
      have rn6 := rn9
      have el := el9
      -- lambda 3
      refine ⟨_, rfl, .inl ⟨rfl, _, .inl (.inl el)⟩, rn6.tb, fun H7 x7 t7 Q' => ?_⟩
      have rn7 := rn6.ext x7 t7
      have el7 := x7 _ _ el (by intro _ z; cases z)
      obtain ⟨tc, kc, hc3⟩ := c3 _ rn7.kn
      refine ⟨_, rfl, _, rfl, v, c, rfl, .badN (frac_kn d3 f3 rn7.kn) l kc hc3 (fun d' H' w' s5 e' => ⟨CN, d', w', "number", rfl, rfl, e', eN, fcN, fun H5 s6 => ?_⟩)⟩
      skip
      have el8 := s6 _ _ (s5 _ _ el7)
      refine ⟨l', _, _, rfl, rfl, el8, (by show 2 < sizeLine; decide), ?_⟩
      have rn9 := (rn7.same (s5.trans s6)).put (o := .lst ([.str "fraction", .str "fraction"] ++ [.str "number"])) el8 w0 wn
      have el9 : (upd H5 l' (.lst ([.str "fraction", .str "fraction"] ++ [.str "number"]))) l' = some (.lst [.str "fraction", .str "fraction", .str "number"]) := upd_same
      generalize upd H5 l' (.lst ([.str "fraction", .str "fraction"] ++ [.str "number"])) = H9 at rn9 el9
      have rn6 := rn9
      have el := el9
      -- lambda 4
      refine ⟨_, rfl, .inl ⟨rfl, _, .inl (.inl el)⟩, rn6.tb, fun H7 x7 t7 Q' => ?_⟩
      have rn7 := rn6.ext x7 t7
      have el7 := x7 _ _ el (by intro _ z; cases z)
      obtain ⟨tc, kc, hc3⟩ := c3 _ rn7.kn
      refine ⟨_, rfl, .int 0, c, rfl, .badN (Frac.int _ 0) (low_int 0) kc hc3 (fun d' H' w' s5 e' => ⟨CN, d', w', "number", rfl, rfl, e', eN, fcN, fun H5 s6 => ?_⟩)⟩
      skip
      have el8 := s6 _ _ (s5 _ _ el7)
      refine ⟨l', _, _, rfl, rfl, el8, (by show 3 < sizeLine; decide), ?_⟩
      have rn9 := (rn7.same (s5.trans s6)).put (o := .lst ([.str "fraction", .str "fraction", .str "number"] ++ [.str "number"])) el8 w0 wn
      have el9 : (upd H5 l' (.lst ([.str "fraction", .str "fraction", .str "number"] ++ [.str "number"]))) l' = some (.lst [.str "fraction", .str "fraction", .str "number", .str "number"]) := upd_same
      generalize upd H5 l' (.lst ([.str "fraction", .str "fraction", .str "number"] ++ [.str "number"])) = H9 at rn9 el9
      have rn6 := rn9
      have el := el9
      -- lambda 5
      refine ⟨_, rfl, .inl ⟨rfl, _, .inl (.inl el)⟩, rn6.tb, fun H7 x7 t7 Q' => ?_⟩
      have rn7 := rn6.ext x7 t7
      have el7 := x7 _ _ el (by intro _ z; cases z)
      refine ⟨_, _, rfl, rfl, _, rfl, m, g, 20, rfl, rn7.d, by decide, by decide, fun r9 H8 h0 h1 d8 k8 => ?_⟩
      have rn8 := rn7.kp k8 d8
      have el8 := k8 l' _ wn.1 wn.2 el7
      refine ⟨_, _, rfl, rfl, .int 0, _, rfl, .zero (Frac.int _ 0) (by omega) (by omega) (fun d' H' w' s5 e' => ⟨CP, d', w', "none", rfl, rfl, e', eP, fcP, fun H5 s6 => ?_⟩)⟩
      have el9 := s6 _ _ (s5 _ _ el8)
      refine ⟨l', _, _, rfl, rfl, el9, (by show 4 < sizeLine; decide), ?_⟩
      have rn9 := (rn8.same (s5.trans s6)).put (o := .lst ([.str "fraction", .str "fraction", .str "number", .str "number"] ++ [.str "none"])) el9 w0 wn
      have el9 : (upd H5 l' (.lst ([.str "fraction", .str "fraction", .str "number", .str "number"] ++ [.str "none"]))) l' = some (.lst [.str "fraction", .str "fraction", .str "number", .str "number", .str "none"]) := upd_same
      generalize upd H5 l' (.lst ([.str "fraction", .str "fraction", .str "number", .str "number"] ++ [.str "none"])) = H9 at rn9 el9
      refine ⟨_, rfl, (by show 5 ≤ sizeLine; decide), fun b nb => ?_⟩
      have rnZ := rn9.same (same_new (o := .lst [.str "fraction", .str "fraction", .str "number", .str "number", .str "none"]) nb)
      have elZ := (same_new (o := .lst [.str "fraction", .str "fraction", .str "number", .str "number", .str "none"]) nb) _ _ el9
      refine ⟨D5, D5, .lst (.inl (.inl elZ)) (.cons (.str _) (.cons (.str _) (.cons (.str _) (.cons (.str _) (.cons (.str _) .nil))))), .lst (.inl (.inl upd_same)) (.cons (.str _) (.cons (.str _) (.cons (.str _) (.cons (.str _) (.cons (.str _) .nil))))), d5_sh, d5_sh, ?_⟩
      rw [d5_eq]
      exact q _ rnZ.d rnZ.tb
    obtain ⟨t, h, q⟩ := z
    exact ⟨t, h.nox, q⟩
end
end Cw
namespace Cw
open PySem PySem.Spec PyProof.Rows L2
/-- the counts of a turn -/
def oft (nr fa k : Int) : List V := [.int nr, .int 0, .int 1, .int (0 - 1)] ++ (List.replicate k.toNat [V.int fa, V.int 20, V.int (0 - 20)]).flatten
theorem oft_ok {nr fa T : Int} (hn : -4 ≤ nr ∧ nr ≤ 4) (hf : -4 ≤ fa ∧ fa ≤ 4) {x : V} (h : x ∈ oft nr fa (if decide (V.int T = V.int 2) = true then 1 else 0)) : ∃ o : Int, x = .int o ∧ -20 ≤ o ∧ o ≤ 20 ∧ (o.natAbs ≤ 4 ∨ T = 2) := by
  unfold oft at h
  by_cases c : T = 2
  · subst c
    have e : (List.replicate (if decide (V.int 2 = V.int 2) = true then (1 : Int) else 0).toNat [V.int fa, V.int 20, V.int (0 - 20)]).flatten = [V.int fa, V.int 20, V.int (0 - 20)] := by simp
    rw [e] at h
    simp only [List.cons_append, List.nil_append, List.mem_cons, List.not_mem_nil, or_false] at h
    rcases h with h | h | h | h | h | h | h <;> exact ⟨_, h, by omega, by omega, .inr rfl⟩
  · have e : (List.replicate (if decide (V.int T = V.int 2) = true then (1 : Int) else 0).toNat [V.int fa, V.int 20, V.int (0 - 20)]).flatten = [] := by
      rw [decide_eq_false (fun z => c (V.int.inj z))]
      rfl
    rw [e, List.append_nil] at h
    simp only [List.mem_cons, List.not_mem_nil, or_false] at h
    rcases h with h | h | h | h <;> exact ⟨_, h, by omega, by omega, .inl (by omega)⟩
/-- a pair of like fractions -/
def Pr (H : Hp) (t : Addr) : Prop := ∃ va vb q, H t = some (.tup [va, vb]) ∧ Frac H va q ∧ Frac H vb q ∧ (Sm q.1 ∧ Sm q.2)
theorem Pr.same {H H' : Hp} {t : Addr} (p : Pr H t) (s : Same H H') : Pr H' t := by
  obtain ⟨va, vb, q, e, f1, f2, sm⟩ := p
  exact ⟨va, vb, q, s _ _ e, f1.same s, f2.same s, sm⟩
theorem Pr.put {H : Hp} {t l : Addr} {xs : List V} {o : HO} (p : Pr H t) (e0 : H l = some (.lst xs)) : Pr (upd H l o) t := by
  obtain ⟨va, vb, q, e, f1, f2, sm⟩ := p
  have k : ∀ b ys, H b = some (.tup ys) → (upd H l o) b = some (.tup ys) := fun b ys h => by
    rw [upd_ne (ne_of h e0 fun z => by cases z)]
    exact h
  exact ⟨va, vb, q, k _ _ e, f1.ext k, f2.ext k, sm⟩
theorem Pr.new {H : Hp} {t : Addr} {va vb : V} {q : Int × Int} (nt : H t = none) (f1 : Frac H va q) (f2 : Frac H vb q) (sm : Sm q.1 ∧ Sm q.2) : Pr (upd H t (.tup [va, vb])) t := ⟨va, vb, q, upd_same, f1.same (same_new nt), f2.same (same_new nt), sm⟩
theorem bd01 : Bd 1 ((0 : Int), (1 : Int)) := ⟨by decide, by decide⟩
theorem sm_dec {i : Int} (h : i.natAbs < 2) : Sm i := Nat.lt_of_lt_of_le h (by show 2 ^ 1 ≤ 2 ^ 4100; exact Nat.pow_le_pow_right (by decide) (by decide))
theorem mod_two {m k : Int} (m0 : 0 ≤ m) (m1 : m < 4) (k0 : 0 ≤ k) (k1 : k < 5) : 0 ≤ m * k ∧ m * k ≤ 12 := by
  rcases (by omega : m = 0 ∨ m = 1 ∨ m = 2 ∨ m = 3) with rfl | rfl | rfl | rfl <;> omega
theorem five_ok {H : Hp} {t1 t2 t3 t4 t5 : Addr} (p1 : Pr H t1) (p2 : Pr H t2) (p3 : Pr H t3) (p4 : Pr H t4) (p5 : Pr H t5) : ∀ x ∈ [V.ref t1, V.ref t2, V.ref t3, V.ref t4, V.ref t5], ∃ t, x = .ref t ∧ Pr H t := fun x h => by
  simp only [List.mem_cons, List.not_mem_nil, or_false] at h
  rcases h with h | h | h | h | h
  · exact ⟨_, h, p1⟩
  · exact ⟨_, h, p2⟩
  · exact ⟨_, h, p3⟩
  · exact ⟨_, h, p4⟩
  · exact ⟨_, h, p5⟩
theorem pz_sm {p : Int × Int} {k : Nat} {i : Int} (b : Bd k p) (h : k * i.natAbs ≤ 4000) : Sm (pz p i).1 ∧ Sm (pz p i).2 := bd_sm (pz_bd b i) (by omega)
section
variable {P : Program} {w : World} {K : PySem.W.Frag} {mg : Str → Option Value} {base : Heap}
/-! ### law -/
abbrev nLaw : List Str := ["_law_script", "_law_m", "_law_turn", "_law_x", "_law_y", "_law_near", "_law_far", "_law_small", "_law_often", "_law_pairs", "_law_pair_here"]
theorem scLaw : FnScope nLaw ["_law_script"] (defScope sLaw) := ⟨rfl, rfl, rfl, by decide +kernel, rfl, by decide +kernel, by decide +kernel⟩
theorem law_term {f Pt CF CN CP fB fD fF fL fW fT fQ fR : Addr} {fdB fdD fdF fdL fdW fdT fdQ fdR : FuncData} {gk : List Value → List Value → List Value} {cdv : Value} {A : Around} {outer : List Env} {s : Shared} {H : Hp} {Q : VK} {E : XK} {a : Addr} {ns : List Int} (B : Bi mg)
    (DB : Df K mg "_law_begun" sBeg fB fdB) (bB : Binds K fdB ["_law_script"] []) (GB : FnOk P w K mg base CX0 1 fB fdB ["_law_script"] (spBeg K))
    (DF : Df K mg "_law_fraction" sFra fF fdF) (bF : Binds K fdF ["_law_m"] []) (GF : FnOk P w K mg base CX0 3 fF fdF ["_law_m"] spFra)
    (DD : Df K mg "_law_draw" sDraw fD fdD) (bD : Binds K fdD ["_law_m", "_law_many"] []) (GD : FnOk P w K mg base CX0 1 fD fdD ["_law_m", "_law_many"] spDraw)
    (DL : Df K mg "_law_lowest" sLLow fL fdL) (bL : Binds K fdL ["_law_high", "_law_low"] []) (GL : FnOk P w K mg base CX0 1 fL fdL ["_law_high", "_law_low"] spLow)
    (DW : Df K mg "power" sPow fW fdW) (bW : Binds K fdW ["a", "count"] []) (kW : KBinds K fdW ["a", "count"] ["count", "a"] gk (fun us ws => us ++ ws.reverse)) (GW : FnOk P w K mg base (L2.CX P w) 5 fW fdW ["a", "count"] (spPow CF CN CP))
    (DT : Df K mg "times" sTim fT fdT) (bT : Binds K fdT ["a", "b"] []) (GT : FnOk P w K mg base (L2.CX P w) 4 fT fdT ["a", "b"] spTim)
    (DQ : Df K mg "_law_power" sLPow fQ fdQ) (bQ : Binds K fdQ ["_law_x", "_law_often"] []) (GQ : FnOk P w K mg base CX0 2 fQ fdQ ["_law_x", "_law_often"] spLPow)
    (DR : Df K mg "_law_refused_right" sRef fR fdR) (bR : Binds K fdR ["_law_m", "_law_x"] []) (GR : FnOk P w K mg base CX0 8 fR fdR ["_law_m", "_law_x"] (spRef Pt))
    (hg : A.guards = some []) (hd : base.NoDigits) (hr : Room 8 (A.deeper (envOfC "law" (defScope sLaw) s.heap.objs.size f cdv)))
    (hS : SqL K H a (ns.map V.int)) (hn : ns.length ≤ 63) (tb : LamX.Tabs [(Pt, qLam)] H) (q : ∀ H', Q (.bl true) H') :
    ∃ t, PSs (cxOf CX0 P w K mg base nLaw "law" (defScope sLaw) f cdv A outer s H E).nox (defBody sLaw) t ∧ t { nx := fun _ H' => Q .non H', rt := Q } (start nLaw [.ref a]) H := by
  have hr1 : Room 1 _ := hr.mono (by decide)
  have hr2 : Room 2 _ := hr.mono (by decide)
  have hr3 : Room 3 _ := hr.mono (by decide)
  have hr4 : Room 4 _ := hr.mono (by decide)
  have hr5 : Room 5 _ := hr.mono (by decide)
  refine ⟨_, pss_cons (ps_set (i := 1) scLaw.nd rfl (.inl rfl) (pe_call GB hr1 (by rfl) DB.g DB.F.kp bB .nil pass0 (pa_cons (pv 0) pa_nil)))
    (pss_cons (ps_for PassesOwn.never rfl (pi_range1 (by rfl) B.rng (pa_cons pe_int pa_nil)) (pg_name (i := 2) scLaw.nd rfl (.inl rfl))
      (pss_cons (ps_par (i := 3) (j := 4) (by rfl) scLaw.nd rfl rfl (by decide) rfl rfl (pa_cons (pe_call GF hr3 (by rfl) DF.g DF.F.kp bF .nil pass0 (pa_cons (pv 1) pa_nil)) (pa_cons (pe_call GF hr3 (by rfl) DF.g DF.F.kp bF .nil pass0 (pa_cons (pv 1) pa_nil)) pa_nil)) (by rfl))
      (pss_cons (ps_par (i := 5) (j := 6) (by rfl) scLaw.nd rfl rfl (by decide) rfl rfl (pa_cons (pe_op op_sub (pe_call GD hr1 (by rfl) DD.g DD.F.kp bD .nil pass0 (pa_cons (pv 1) (pa_cons pe_int pa_nil))) pe_int)
          (pa_cons (pe_op op_sub (pe_call GD hr1 (by rfl) DD.g DD.F.kp bD .nil pass0 (pa_cons (pv 1) (pa_cons pe_int pa_nil))) pe_int) pa_nil)) (by rfl))
      (pss_cons (ps_set (i := 7) scLaw.nd rfl (.inl rfl) (pe_call GL hr1 (by rfl) DL.g DL.F.kp bL .nil pass0 (pa_cons (pe_op op_add pe_int (pe_call GD hr1 (by rfl) DD.g DD.F.kp bD .nil pass0 (pa_cons (pv 1) (pa_cons pe_int pa_nil))))
          (pa_cons (pe_op op_add pe_int (pe_call GD hr1 (by rfl) DD.g DD.F.kp bD .nil pass0 (pa_cons (pv 1) (pa_cons pe_int pa_nil)))) pa_nil))))
      (C8.pss_cut (ps_set (i := 3) scLaw.nd rfl (.inl rfl) (pe_ifExp (PW.pt (pw_or (pt_cmpR (op_eqD hr1.units) (pv 3) pe_int (nomark _)) (pw_or1 (pt_cmpR op_gt (pv 2) pe_int (nomark _))))) (pv 7) (pv 3)))
      (C8.pss_cut (ps_set (i := 4) scLaw.nd rfl (.inl rfl) (pe_ifExp (pt_cmpR (op_neD hr1.units) (pv 4) pe_int (nomark _)) (pv 4) pe_int))
      (pss_cons (ps_for PassesOwn.never rfl (pi_list (pe_op op_cat (pe_lst (pa_cons (pv 5) (pa_cons pe_int (pa_cons pe_int (pa_cons (pe_op op_sub pe_int pe_int) pa_nil)))))
            (pe_op op_rep (pe_lst (pa_cons (pv 6) (pa_cons pe_int (pa_cons (pe_op op_sub pe_int pe_int) pa_nil)))) (pe_callTy call_int1 (by rfl) B.int (by decide +kernel) (pa_cons (pe_cmpR op_eq (pv 2) pe_int (nomark _)) pa_nil)))))
          (pg_name (i := 8) scLaw.nd rfl (.inl rfl))
          (pss_one (ps_if (pt_cmpR op_ne (pe_callB (call_reprL hg hr1.units hd) (by rfl) B.rep (by decide +kernel) (pa_cons (pe_lst (pa_cons (pe_call GW hr5 (by rfl) DW.g DW.F.kp bW .nil passL (pa_cons (pv 3) (pa_cons (pv 8) pa_nil)))
                (pa_cons (pe_kw0 GW hr5 (by rfl) DW.g DW.F.kp kW passL (pk_cons (pv 8) (pk_cons (pv 3) pk_nil))) pa_nil))) pa_nil))
              (pe_callB (call_reprL hg hr1.units hd) (by rfl) B.rep (by decide +kernel) (pa_cons (pe_op op_rep (pe_lst (pa_cons (pe_call GQ hr2 (by rfl) DQ.g DQ.F.kp bQ .nil pass0 (pa_cons (pv 3) (pa_cons (pv 8) pa_nil))) pa_nil)) pe_int) pa_nil)) (nomark _))
            (pss_one (ps_ret pe_bl)) pss_nil)))
      (pss_cons (ps_set (i := 9) scLaw.nd rfl (.inl rfl) (pe_lst (pa_cons (pe_tup (pa_cons (pe_call GT hr4 (by rfl) DT.g DT.F.kp bT .nil passL (pa_cons (pe_call GW hr5 (by rfl) DW.g DW.F.kp bW .nil passL (pa_cons (pv 3) (pa_cons (pv 5) pa_nil)))
            (pa_cons (pe_call GW hr5 (by rfl) DW.g DW.F.kp bW .nil passL (pa_cons (pv 3) (pa_cons (pv 6) pa_nil))) pa_nil)))
          (pa_cons (pe_call GW hr5 (by rfl) DW.g DW.F.kp bW .nil passL (pa_cons (pv 3) (pa_cons (pe_op op_add (pv 5) (pv 6)) pa_nil))) pa_nil))) pa_nil)))
      (pss_cons (ps_set (i := 9) scLaw.nd rfl (.inl rfl) (pe_op op_cat (pv 9) (pe_lst (pa_cons (pe_tup (pa_cons (pe_call GW hr5 (by rfl) DW.g DW.F.kp bW .nil passL (pa_cons pe_int (pa_cons pe_int pa_nil))) (pa_cons pe_int pa_nil)))
          (pa_cons (pe_tup (pa_cons (pe_call GW hr5 (by rfl) DW.g DW.F.kp bW .nil passL (pa_cons pe_int (pa_cons pe_int pa_nil))) (pa_cons pe_int pa_nil))) pa_nil)))))
      (pss_cons (ps_expr (pe_bm PySem.F.plainAttrs_list PySem.F.slot_list_append PySem.F.type_list_append mt_append (pv 9) (pa_cons (pe_tup
          (pa_cons (pe_call GW hr5 (by rfl) DW.g DW.F.kp bW .nil passL (pa_cons (pe_call GT hr4 (by rfl) DT.g DT.F.kp bT .nil passL (pa_cons (pv 3) (pa_cons (pv 4) pa_nil))) (pa_cons (pv 5) pa_nil)))
          (pa_cons (pe_call GT hr4 (by rfl) DT.g DT.F.kp bT .nil passL (pa_cons (pe_call GW hr5 (by rfl) DW.g DW.F.kp bW .nil passL (pa_cons (pv 3) (pa_cons (pv 5) pa_nil)))
            (pa_cons (pe_call GW hr5 (by rfl) DW.g DW.F.kp bW .nil passL (pa_cons (pv 4) (pa_cons (pv 5) pa_nil))) pa_nil))) pa_nil))) pa_nil)))
      (pss_cons (ps_expr (pe_bm PySem.F.plainAttrs_list PySem.F.slot_list_append PySem.F.type_list_append mt_append (pv 9) (pa_cons (pe_tup
          (pa_cons (pe_call GW hr5 (by rfl) DW.g DW.F.kp bW .nil passL (pa_cons (pe_call GW hr5 (by rfl) DW.g DW.F.kp bW .nil passL (pa_cons (pv 3) (pa_cons (pe_op op_mod (pv 5) pe_int) pa_nil))) (pa_cons (pe_op op_mod (pv 6) pe_int) pa_nil)))
          (pa_cons (pe_call GW hr5 (by rfl) DW.g DW.F.kp bW .nil passL (pa_cons (pv 3) (pa_cons (pe_op op_mul (pe_op op_mod (pv 5) pe_int) (pe_op op_mod (pv 6) pe_int)) pa_nil))) pa_nil))) pa_nil)))
      (pss_cons (ps_if (pt_cmpR (op_neD hr1.units) (pe_lc (own := [("_law_pair_here", 10)]) (g := gName 10) (tt := tTest (tOp rNe (tCB rReprF (tCons (tOp (rIxT K) (tVar 10) (tC (.int 0))) tNil)) (tCB rReprF (tCons (tOp (rIxT K) (tVar 10) (tC (.int 1))) tNil)))) (te := tVar 10) rfl scLaw.nd (pi_list (pv 9))
            (blkOk_by (N := nLaw) (sc := defScope sLaw) (by decide +kernel)) (fun _ _ _ _ _ => pg_name (i := 10) scLaw.nd rfl (Or.inl rfl))
            (fun _ _ _ _ _ => pts_one (pt_cmpR op_ne (pe_callB (call_reprF hg hr1.units hd) (by rfl) B.rep (by decide +kernel) (pa_cons (pe_ix ix_tup (pv 10) pe_int (fun _ _ => rfl)) pa_nil)) (pe_callB (call_reprF hg hr1.units hd) (by rfl) B.rep (by decide +kernel) (pa_cons (pe_ix ix_tup (pv 10) pe_int (fun _ _ => rfl)) pa_nil)) (nomark _)))
            (fun _ _ _ _ _ => pv 10)) (pe_lst pa_nil) (nomark _))
          (pss_one (ps_ret pe_bl)) pss_nil)
      (pss_one (ps_if (pt_not (pt_val (pe_call GR hr (by rfl) DR.g DR.F.kp bR .nil pass0 (pa_cons (pv 1) (pa_cons (pv 3) pa_nil))))) (pss_one (ps_ret pe_bl)) pss_nil))))))))))))))
    (pss_one (ps_ret pe_bl))), ?_⟩
  refine ⟨_, rfl, a, ns, rfl, hS, hn, fun m g gs sm H1 s1 d1 => ?_⟩
  have tb1 := tb.ext s1
  refine ⟨_, rfl, by decide, by decide, ?_⟩
  refine for_range (lo := 0) (n := 5) (fun n σ H2 => DrE H2 m g ∧ LamX.Tabs [(Pt, qLam)] H2 ∧ ∃ o2 o3 o4 o5 o6 o7 o8 o9 o10, σ = [some (.ref a), some (.ref m), o2, o3, o4, o5, o6, o7, o8, o9, o10]) ⟨⟨_, _, _, d1⟩, tb1, _, _, _, _, _, _, _, _, _, rfl⟩ ?_ ?_
  · rintro n σ H2 hn ⟨d2, tb2, o2, o3, o4, o5, o6, o7, o8, o9, o10, rfl⟩
    refine ⟨_, rfl, m, g, rfl, d2, fun vx px H3 fx lx bx d3 k3 => ?_⟩
    refine ⟨_, rfl, m, g, rfl, d3, fun vy py H4 fy ly by' d4 k4 => ?_⟩
    refine ⟨_, _, rfl, ?_⟩
    have fx := d3.frac fx k4
    have tb4 := d3.tabs (d2.tabs tb2 k3) k4
    clear k3 k4 d3
    refine ⟨_, rfl, m, g, 9, rfl, d4, by decide, by decide, fun nr H5 a0 a1 d5 k5 => ?_⟩
    have fx := d4.frac fx k5
    have fy := d4.frac fy k5
    have tb5 := d4.tabs tb4 k5
    refine ⟨_, _, rfl, rfl, ?_⟩
    refine ⟨_, rfl, m, g, 9, rfl, d5, by decide, by decide, fun fa H6 b0 b1 d6 k6 => ?_⟩
    have fx := d5.frac fx k6
    have fy := d5.frac fy k6
    have tb6 := d5.tabs tb5 k6
    refine ⟨_, _, rfl, rfl, ?_⟩
    refine ⟨_, _, rfl, ?_⟩
    refine ⟨_, rfl, m, g, 9, rfl, d6, by decide, by decide, fun r1 H7 c0 c1 d7 k7 => ?_⟩
    have fx := d6.frac fx k7
    have fy := d6.frac fy k7
    have tb7 := d6.tabs tb6 k7
    refine ⟨_, _, rfl, rfl, ?_⟩
    refine ⟨_, rfl, m, g, 9, rfl, d7, by decide, by decide, fun r2 H8 e0 e1 d8 k8 => ?_⟩
    have fx := d7.frac fx k8
    have fy := d7.frac fy k8
    have tb8 := d7.tabs tb7 k8
    refine ⟨_, _, rfl, rfl, ?_⟩
    refine ⟨_, _, rfl, by omega, Nat.lt_of_lt_of_le (show (1 + r2).natAbs < 2 ^ 8 by omega) (Nat.pow_le_pow_right (by decide) (by decide)), fun vs H9 s9 fs => ?_⟩
    have fx := fx.same s9
    have fy := fy.same s9
    have tb9 := tb8.ext s9
    have d9 := d8.same s9
    have ls : Low (low (1 + r1) (1 + r2)) := low_ok (by omega)
    have bs : Bd 4 (low (1 + r1) (1 + r2)) := low_bd (by omega) (by omega)
    have ns0 : (low (1 + r1) (1 + r2)).1 ≠ 0 := fun z => by
      have e := low_t (1 + r1) (1 + r2)
      rw [z, Int.mul_zero] at e
      omega
    clear k5 k6 k7 k8 s9 d8 d7 d6 d5 d4 tb8 tb7 tb6 tb5 tb4
    generalize low (1 + r1) (1 + r2) = ps at fs ls bs ns0
    have near : -4 ≤ nr - 4 ∧ nr - 4 ≤ 4 := by omega
    have far : -4 ≤ fa - 4 ∧ fa - 4 ≤ 4 := by omega
    dsimp only
    generalize nr - 4 = nr at near
    generalize fa - 4 = fa at far
    have bb : ∀ {p : Int × Int}, Bd 4 p → Bd 200 p := fun b => b.mono (by decide)
    refine ⟨fun σ' H' => H' = H9 ∧ ∃ v p, σ' = [some (.ref a), some (.ref m), some (.int (0 + (n : Int))), some v, some vy, some (.int nr), some (.int fa), some vs, o8, o9, o10] ∧ Frac H9 v p ∧ Low p ∧ p.1 ≠ 0 ∧ Bd 200 p ∧ ((0 : Int) + n = 2 → Bd 4 p), ?_, ?_⟩
    · obtain ⟨dd, q1, q2, q3⟩ := Frac.zero? (K := K) fx lx
      refine ⟨_, rfl, dd, .int 0, q1, .int 0, q2, rfl, _, rfl, ?_⟩
      by_cases c : px.1 = 0
      · refine yes (by rw [q3]; exact decide_eq_true c) (iteT ?_)
        exact ⟨_, rfl, rfl, _, _, rfl, fs, ls, ns0, bb bs, fun _ => bs⟩
      · refine no (by rw [q3]; exact decide_eq_false c) ?_
        refine ⟨_, rfl, _, _, rfl, rfl, _, rfl, ?_⟩
        by_cases t : (1 : Int) < 0 + (n : Int)
        · refine yes (decide_eq_true t) ?_
          exact ⟨_, rfl, rfl, _, _, rfl, fs, ls, ns0, bb bs, fun _ => bs⟩
        · refine no (decide_eq_false t) ?_
          exact ⟨_, rfl, rfl, _, _, rfl, fx, lx, c, bx, fun z => absurd z (by omega)⟩
    rintro σ' H9 ⟨rfl, vx, px, rfl, fx, lx, nx, bx, bx4⟩
    refine ⟨fun σ' H' => H' = H9 ∧ ∃ v p, σ' = [some (.ref a), some (.ref m), some (.int (0 + (n : Int))), some vx, some v, some (.int nr), some (.int fa), some vs, o8, o9, o10] ∧ Frac H9 v p ∧ Low p ∧ p.1 ≠ 0 ∧ Bd 200 p, ?_, ?_⟩
    · obtain ⟨dd, q1, q2, q3⟩ := Frac.zero? (K := K) fy ly
      refine ⟨_, rfl, dd, .int 0, q1, .int 0, q2, rfl, _, rfl, ?_⟩
      by_cases c : py.1 = 0
      · refine no (by rw [q3, decide_eq_true c]; rfl) ?_
        exact ⟨rfl, _, (3, 1), rfl, Frac.int _ 3, low_int 3, by decide, ⟨by show (3 : Int).natAbs < 2 ^ 200; decide, by show (1 : Int).natAbs < 2 ^ 200; decide⟩⟩
      · refine yes (by rw [q3, decide_eq_false c]; rfl) ?_
        exact ⟨_, rfl, rfl, _, _, rfl, fy, ly, c, by'⟩
    rintro σ' H9 ⟨rfl, vy, py, rfl, fy, ly, ny, by'⟩
    clear fs ls ns0 bs bb
    -- the counts
    refine ⟨_, rfl, _, _, rfl, rfl, (by show 4 ≤ sizeLine; decide), fun l1 n1 => ?_⟩
    have s1 : Same H9 (upd H9 l1 (.lst [.int nr, .int 0, .int 1, .int (0 - 1)])) := same_new n1
    have e1 : (upd H9 l1 (.lst [.int nr, .int 0, .int 1, .int (0 - 1)])) l1 = some (.lst [.int nr, .int 0, .int 1, .int (0 - 1)]) := upd_same
    refine ⟨_, rfl, _, _, rfl, rfl, (by show 3 ≤ sizeLine; decide), fun l2 n2 => ?_⟩
    dsimp only at n2
    generalize upd H9 l1 (.lst [.int nr, .int 0, .int 1, .int (0 - 1)]) = HA at s1 e1 n2
    have s2 : Same HA (upd HA l2 (.lst [.int fa, .int 20, .int (0 - 20)])) := same_new n2
    have e2 : (upd HA l2 (.lst [.int fa, .int 20, .int (0 - 20)])) l2 = some (.lst [.int fa, .int 20, .int (0 - 20)]) := upd_same
    refine ⟨_, rfl, rfl, .inr ⟨_, rfl, ?_⟩⟩
    generalize upd HA l2 (.lst [.int fa, .int 20, .int (0 - 20)]) = HB at s2 e2
    refine ⟨l2, _, _, rfl, rfl, e2, by split <;> decide, by split <;> decide, (by show 3 * _ ≤ sizeLine; split <;> decide), fun l3 n3 => ?_⟩
    refine ⟨l1, l3, _, _, rfl, rfl, (s2.trans (same_new n3)) _ _ e1, upd_same, (by split; (show 7 ≤ sizeLine; decide); (show 4 ≤ sizeLine; decide)), fun l4 n4 => ?_⟩
    refine ⟨l4, rfl, ⟨_, .inl (.inl upd_same)⟩, ?_⟩
    have s4 := (s1.trans s2).trans ((same_new (o := .lst (List.replicate (if decide (V.int (0 + (n : Int)) = V.int 2) = true then (1 : Int) else 0).toNat [V.int fa, V.int 20, V.int (0 - 20)]).flatten) n3).trans (same_new (o := .lst (oft nr fa (if decide (V.int (0 + (n : Int)) = V.int 2) = true then 1 else 0))) n4))
    have e4 : (upd (upd HB l3 (.lst (List.replicate (if decide (V.int (0 + (n : Int)) = V.int 2) = true then (1 : Int) else 0).toNat [V.int fa, V.int 20, V.int (0 - 20)]).flatten)) l4 (.lst (oft nr fa (if decide (V.int (0 + (n : Int)) = V.int 2) = true then 1 else 0)))) l4 = some (.lst (oft nr fa (if decide (V.int (0 + (n : Int)) = V.int 2) = true then 1 else 0))) := upd_same
    have ok : ∀ x ∈ oft nr fa (if decide (V.int (0 + (n : Int)) = V.int 2) = true then 1 else 0), ∃ (o : Int) (kx : Nat), x = .int o ∧ -20 ≤ o ∧ o ≤ 20 ∧ Bd kx px ∧ kx ≤ 200 ∧ kx * o.natAbs ≤ 800 := fun x hx => by
      obtain ⟨o, e, h1, h2, h3⟩ := oft_ok near far hx
      rcases h3 with h3 | h3
      · exact ⟨o, 200, e, h1, h2, bx, by decide, Nat.le_trans (Nat.mul_le_mul_left _ h3) (by decide)⟩
      · exact ⟨o, 4, e, h1, h2, bx4 h3, by decide, by omega⟩
    change (∃ W : Nat → Nat → St → Hp → Prop, (∃ m, W 0 m _ (upd (upd HB l3 (.lst (List.replicate (if decide (V.int (0 + (n : Int)) = V.int 2) = true then (1 : Int) else 0).toNat [V.int fa, V.int 20, V.int (0 - 20)]).flatten)) l4 (.lst (oft nr fa (if decide (V.int (0 + (n : Int)) = V.int 2) = true then 1 else 0))))) ∧ _)
    generalize oft nr fa (if decide (V.int (0 + (n : Int)) = V.int 2) = true then 1 else 0) = zs at s4 e4 ok
    generalize upd (upd HB l3 (.lst (List.replicate (if decide (V.int (0 + (n : Int)) = V.int 2) = true then (1 : Int) else 0).toNat [V.int fa, V.int 20, V.int (0 - 20)]).flatten)) l4 (.lst zs) = HC at s4 e4
    clear s1 s2 e1 e2 n1 n2 n3 n4
    refine for_list (K := K) (a := l4) (xs := zs) (fun i σ H' => Same HC H' ∧ ∃ o8, σ = [some (.ref a), some (.ref m), some (.int (0 + (n : Int))), some vx, some vy, some (.int nr), some (.int fa), some vs, o8, o9, o10]) ⟨Same.refl HC, _, rfl⟩ (fun i σ H' _ ⟨s, _⟩ => .inl (.inl (s _ _ e4))) ?_ ?_
    · rintro i x σ HD hi ⟨sD, u8, rfl⟩
      obtain ⟨o, kx, rfl, h1, h2, bk, hk, hko⟩ := ok x (List.mem_of_getElem? hi)
      have sm := pz_sm bk (Nat.le_trans hko (by decide))
      have fD := fx.same (s4.trans sD)
      refine ⟨_, rfl, _, rfl, vx, .int o, rfl, .good kx fD lx h1 h2 (.inr nx) bk (by omega) (by omega) (fun z1 HE sE f1 => ?_)⟩
      refine ⟨_, rfl, _, rfl, vx, .int o, rfl, .good kx (fD.same sE) lx h1 h2 (.inr nx) bk (by omega) (by omega) (fun z2 HF sF f2 => ?_)⟩
      refine ⟨(by show 2 ≤ sizeLine; decide), fun l5 n5 => ?_⟩
      have s5 : Same HF (upd HF l5 (.lst [z1, z2])) := same_new n5
      refine ⟨l5, z1, z2, _, _, rfl, upd_same, (f1.same sF).same s5, f2.same s5, sm, sm, ?_⟩
      refine ⟨_, rfl, _, rfl, vx, px, o, kx, rfl, ((fD.same sE).same sF).same s5, lx, .inr nx, by omega, bk, by omega, by omega, fun z3 HG sG f3 => ?_⟩
      refine ⟨(by show 1 ≤ sizeLine; decide), fun l6 n6 => ?_⟩
      refine ⟨l6, 2, _, rfl, rfl, upd_same, by decide, by decide, (by show 2 ≤ sizeLine; decide), fun l7 n7 => ?_⟩
      have s7 := (same_new (o := .lst [z3]) n6).trans (same_new (o := .lst (List.replicate (2 : Int).toNat [z3]).flatten) n7)
      refine ⟨l7, z3, z3, _, _, rfl, upd_same, f3.same s7, f3.same s7, sm, sm, ?_⟩
      refine ⟨rfl, _, rfl, no (by simp) ?_⟩
      exact ⟨sD.trans ((sE.trans sF).trans (s5.trans (sG.trans s7))), _, rfl⟩
    · rintro σ HD ⟨sD, u8, rfl⟩
      have sZ := s4.trans sD
      have dD := d9.same sZ
      have tbD := tb9.ext sZ
      have fx := fx.same sZ
      have fy := fy.same sZ
      clear sZ s4 sD e4 ok d9 tb9
      dsimp only
      -- the first pair
      refine ⟨_, rfl, _, rfl, vx, .int nr, rfl, .good 200 fx lx (by omega) (by omega) (.inr nx) bx (by decide) (by omega) (fun z1 HE sE f1 => ?_)⟩
      refine ⟨_, rfl, _, rfl, vx, .int fa, rfl, .good 200 (fx.same sE) lx (by omega) (by omega) (.inr nx) bx (by decide) (by omega) (fun z2 HF sF f2 => ?_)⟩
      refine ⟨z1, _, z2, _, rfl, f1.same sF, f2, pz_low lx (.inr nx), pz_low lx (.inr nx), (pz_bd bx nr).mono (by omega), (pz_bd bx fa).mono (by omega), fun z3 HG sG f3 => ?_⟩
      rw [pz_add lx nx nr fa] at f3
      have sEG := (sE.trans sF).trans sG
      refine ⟨_, rfl, _, rfl, _, rfl, _, _, rfl, rfl, vx, .int (nr + fa), rfl, .good 200 (fx.same sEG) lx (by omega) (by omega) (.inr nx) bx (by decide) (by omega) (fun z4 HH sH f4 => ?_)⟩
      refine ⟨(by show 2 ≤ sizeLine; decide), fun t1 nt1 => ?_⟩
      have p1 : Pr (upd HH t1 (.tup [z3, z4])) t1 := Pr.new nt1 (f3.same sH) f4 (pz_sm bx (by omega))
      have sI := (sEG.trans sH).trans (same_new (o := .tup [z3, z4]) nt1)
      refine ⟨(by show 1 ≤ sizeLine; decide), fun l1 nl1 => ?_⟩
      have sJ : Same HD (upd (upd HH t1 (.tup [z3, z4])) l1 (.lst [.ref t1])) := sI.trans (same_new nl1)
      have p1 := p1.same (same_new (o := .lst [.ref t1]) nl1)
      have e1 : (upd (upd HH t1 (.tup [z3, z4])) l1 (.lst [.ref t1])) l1 = some (.lst [.ref t1]) := upd_same
      dsimp only
      generalize upd (upd HH t1 (.tup [z3, z4])) l1 (.lst [.ref t1]) = HJ at sJ p1 e1
      clear sI sH sG sEG sF sE f1 f2 f3 f4
      -- the powers of 0
      refine ⟨_, rfl, .int 0, .int 0, rfl, .good 1 (Frac.int _ 0) (low_int 0) (by decide) (by decide) (.inl (by decide)) bd01 (by decide) (by decide) (fun z1 HE sE f1 => ?_)⟩
      rw [pz_zero] at f1
      refine ⟨(by show 2 ≤ sizeLine; decide), fun t2 nt2 => ?_⟩
      have p2 : Pr (upd HE t2 (.tup [z1, .int 1])) t2 := Pr.new nt2 f1 (Frac.int _ 1) ⟨sm_dec (by decide), sm_dec (by decide)⟩
      have sK := (sJ.trans sE).trans (same_new (o := .tup [z1, .int 1]) nt2)
      have p1 := (p1.same sE).same (same_new (o := .tup [z1, .int 1]) nt2)
      have e1 := same_new (o := .tup [z1, .int 1]) nt2 _ _ (sE _ _ e1)
      generalize upd HE t2 (.tup [z1, .int 1]) = HK at sK p1 p2 e1
      refine ⟨.int 0, .int 20, rfl, .good 1 (Frac.int _ 0) (low_int 0) (by decide) (by decide) (.inl (by decide)) bd01 (by decide) (by decide) (fun z2 HF sF f2 => ?_)⟩
      rw [pz_nought] at f2
      refine ⟨(by show 2 ≤ sizeLine; decide), fun t3 nt3 => ?_⟩
      have p3 : Pr (upd HF t3 (.tup [z2, .int 0])) t3 := Pr.new nt3 f2 (Frac.int _ 0) ⟨sm_dec (by decide), sm_dec (by decide)⟩
      have sL := (sK.trans sF).trans (same_new (o := .tup [z2, .int 0]) nt3)
      have p1 := (p1.same sF).same (same_new (o := .tup [z2, .int 0]) nt3)
      have p2 := (p2.same sF).same (same_new (o := .tup [z2, .int 0]) nt3)
      have e1 := same_new (o := .tup [z2, .int 0]) nt3 _ _ (sF _ _ e1)
      generalize upd HF t3 (.tup [z2, .int 0]) = HL at sL p1 p2 p3 e1
      refine ⟨(by show 2 ≤ sizeLine; decide), fun l2 nl2 => ?_⟩
      refine ⟨l1, l2, _, _, rfl, rfl, same_new (o := .lst [.ref t2, .ref t3]) nl2 _ _ e1, upd_same, (by show 3 ≤ sizeLine; decide), fun l3 nl3 => ?_⟩
      have sM := (same_new (o := .lst [.ref t2, .ref t3]) nl2).trans (same_new (o := .lst ([.ref t1] ++ [.ref t2, .ref t3])) nl3)
      have e3 : (upd (upd HL l2 (.lst [.ref t2, .ref t3])) l3 (.lst ([.ref t1] ++ [.ref t2, .ref t3]))) l3 = some (.lst [.ref t1, .ref t2, .ref t3]) := upd_same
      have p1 := p1.same sM
      have p2 := p2.same sM
      have p3 := p3.same sM
      have sN := sL.trans sM
      have nD : HD l3 = none := by
        cases e : HD l3 with
        | none => rfl
        | some o => exact absurd ((same_new (o := .lst [.ref t2, .ref t3]) nl2) _ _ (sL _ _ e)) (by rw [nl3]; simp)
      dsimp only
      generalize upd (upd HL l2 (.lst [.ref t2, .ref t3])) l3 (.lst ([.ref t1] ++ [.ref t2, .ref t3])) = HN at sN p1 p2 p3 e3
      clear sM sL sK sJ sE sF f1 f2 e1
      -- the third pair
      refine ⟨_, rfl, .inl ⟨rfl, _, .inl (.inl e3)⟩, ?_⟩
      have fxN := fx.same sN
      have fyN := fy.same sN
      refine ⟨_, rfl, _, rfl, vx, px, vy, py, rfl, fxN, fyN, lx, ly, bx.mono (by decide), by'.mono (by decide), fun z1 HE sE f1 => ?_⟩
      refine ⟨_, rfl, z1, .int nr, rfl, .good 400 f1 (mul_low lx ly) (by omega) (by omega) (.inr (mul_top lx ly nx ny)) (mul_bd bx by') (by decide) (by omega) (fun z2 HF sF f2 => ?_)⟩
      have sEF := sE.trans sF
      refine ⟨_, rfl, _, rfl, vx, .int nr, rfl, .good 200 (fxN.same sEF) lx (by omega) (by omega) (.inr nx) bx (by decide) (by omega) (fun z3 HG sG f3 => ?_)⟩
      refine ⟨_, rfl, _, rfl, vy, .int nr, rfl, .good 200 ((fyN.same sEF).same sG) ly (by omega) (by omega) (.inr ny) by' (by decide) (by omega) (fun z4 HH sH f4 => ?_)⟩
      refine ⟨z3, _, z4, _, rfl, f3.same sH, f4, pz_low lx (.inr nx), pz_low ly (.inr ny), (pz_bd bx nr).mono (by omega), (pz_bd by' nr).mono (by omega), fun z5 HI sI f5 => ?_⟩
      rw [← pz_mul lx ly nx ny nr] at f5
      refine ⟨(by show 2 ≤ sizeLine; decide), fun t4 nt4 => ?_⟩
      have sEI := sEF.trans ((sG.trans sH).trans sI)
      have sJ : Same HN (upd HI t4 (.tup [z2, z5])) := sEI.trans (same_new nt4)
      have p4 : Pr (upd HI t4 (.tup [z2, z5])) t4 := Pr.new nt4 (f2.same ((sG.trans sH).trans sI)) f5 (pz_sm (mul_bd bx by') (by omega))
      have p1 := p1.same sJ
      have p2 := p2.same sJ
      have p3 := p3.same sJ
      have e3 := sJ _ _ e3
      have sO := sN.trans sJ
      generalize upd HI t4 (.tup [z2, z5]) = HO' at sJ sO p1 p2 p3 p4 e3
      refine ⟨l3, _, _, rfl, rfl, e3, (by show 3 < sizeLine; decide), ?_⟩
      have p1 := p1.put (o := .lst ([.ref t1, .ref t2, .ref t3] ++ [.ref t4])) e3
      have p2 := p2.put (o := .lst ([.ref t1, .ref t2, .ref t3] ++ [.ref t4])) e3
      have p3 := p3.put (o := .lst ([.ref t1, .ref t2, .ref t3] ++ [.ref t4])) e3
      have p4 := p4.put (o := .lst ([.ref t1, .ref t2, .ref t3] ++ [.ref t4])) e3
      have e3 : (upd HO' l3 (.lst ([.ref t1, .ref t2, .ref t3] ++ [.ref t4]))) l3 = some (.lst [.ref t1, .ref t2, .ref t3, .ref t4]) := upd_same
      have sP : Same HD (upd HO' l3 (.lst ([.ref t1, .ref t2, .ref t3] ++ [.ref t4]))) := fun b o e => by
        rw [upd_ne (ne_of_none e nD)]
        exact sO _ _ e
      generalize upd HO' l3 (.lst ([.ref t1, .ref t2, .ref t3] ++ [.ref t4])) = HP at sP p1 p2 p3 p4 e3
      clear sJ sO sN sEI sI sH sG sEF sF sE fxN fyN f1 f2 f3 f4 f5
      -- the fourth pair
      refine ⟨_, rfl, .inl ⟨rfl, _, .inl (.inl e3)⟩, ?_⟩
      have fxP := fx.same sP
      have mo : 0 ≤ nr % 4 ∧ nr % 4 < 4 := rest_lt nr (by decide)
      have ko : 0 ≤ fa % 5 ∧ fa % 5 < 5 := rest_lt fa (by decide)
      have mk := mod_two mo.1 mo.2 ko.1 ko.2
      refine ⟨_, rfl, _, rfl, _, _, rfl, rfl, (by show (0 : Int) < 4; decide), vx, .int (nr % 4), rfl, .good 200 fxP lx (by omega) (by omega) (.inr nx) bx (by decide) (by omega) (fun z1 HE sE f1 => ?_)⟩
      refine ⟨_, rfl, _, _, rfl, rfl, (by show (0 : Int) < 5; decide), z1, .int (fa % 5), rfl, .good 601 f1 (pz_low lx (.inr nx)) (by omega) (by omega) (.inl ko.1) ((pz_bd bx (nr % 4)).mono (by omega)) (by decide) (by omega) (fun z2 HF sF f2 => ?_)⟩
      rw [pz_pz lx mo.1 ko.1] at f2
      refine ⟨_, rfl, _, rfl, _, _, rfl, rfl, (by show (0 : Int) < 4; decide), _, rfl, _, _, rfl, rfl, (by show (0 : Int) < 5; decide), _, _, rfl, rfl, .inl (e64 mo.1 (by omega)), vx, .int (nr % 4 * (fa % 5)), rfl, .good 200 (fxP.same (sE.trans sF)) lx (by omega) (by omega) (.inr nx) bx (by decide) (by omega) (fun z3 HG sG f3 => ?_)⟩
      refine ⟨(by show 2 ≤ sizeLine; decide), fun t5 nt5 => ?_⟩
      have p5 : Pr (upd HG t5 (.tup [z2, z3])) t5 := Pr.new nt5 (f2.same sG) f3 (pz_sm bx (by omega))
      have sJ := ((sE.trans sF).trans sG).trans (same_new (o := .tup [z2, z3]) nt5)
      have p1 := p1.same sJ
      have p2 := p2.same sJ
      have p3 := p3.same sJ
      have p4 := p4.same sJ
      have e3 := sJ _ _ e3
      have sO := sP.trans sJ
      generalize upd HG t5 (.tup [z2, z3]) = HO' at sJ sO p1 p2 p3 p4 p5 e3
      refine ⟨l3, _, _, rfl, rfl, e3, (by show 4 < sizeLine; decide), ?_⟩
      have ok := five_ok (p1.put (o := .lst ([.ref t1, .ref t2, .ref t3, .ref t4] ++ [.ref t5])) e3) (p2.put (o := .lst ([.ref t1, .ref t2, .ref t3, .ref t4] ++ [.ref t5])) e3) (p3.put (o := .lst ([.ref t1, .ref t2, .ref t3, .ref t4] ++ [.ref t5])) e3) (p4.put (o := .lst ([.ref t1, .ref t2, .ref t3, .ref t4] ++ [.ref t5])) e3) (p5.put (o := .lst ([.ref t1, .ref t2, .ref t3, .ref t4] ++ [.ref t5])) e3)
      have e3 : (upd HO' l3 (.lst ([.ref t1, .ref t2, .ref t3, .ref t4] ++ [.ref t5]))) l3 = some (.lst [.ref t1, .ref t2, .ref t3, .ref t4, .ref t5]) := upd_same
      have sQ : Same HD (upd HO' l3 (.lst ([.ref t1, .ref t2, .ref t3, .ref t4] ++ [.ref t5]))) := fun b o e => by
        rw [upd_ne (ne_of_none e nD)]
        exact sO _ _ e
      generalize upd HO' l3 (.lst ([.ref t1, .ref t2, .ref t3, .ref t4] ++ [.ref t5])) = HQ at sQ ok e3
      clear sJ sO sP sG sF sE fxP f1 f2 f3 p1 p2 p3 p4 p5
      generalize [V.ref t1, V.ref t2, V.ref t3, V.ref t4, V.ref t5] = prs at e3 ok
      dsimp only
      -- none of them differs
      refine ⟨_, rfl, l3, rfl, ⟨_, .inl (.inl e3)⟩, fun L nL => lc_list (K := K) (a := l3) (xs := prs) (fun i H' => Same HQ H' ∧ H' L = some (.lst [])) ⟨same_new nL, upd_same⟩ (fun i H' _ ⟨s, _⟩ => .inl (.inl (s _ _ e3))) ?_ ?_⟩
      · rintro i x H' hi ⟨s, eL⟩
        obtain ⟨t, rfl, va, vb, qq, et, f1, f2, sm⟩ := ok x (List.mem_of_getElem? hi)
        have et := s _ _ et
        refine ⟨rfl, ?_⟩
        refine ⟨_, rfl, t, _, 0, va, rfl, rfl, .inl (.inl et), rfl, va, qq, rfl, f1.same s, sm, ?_⟩
        refine ⟨_, rfl, t, _, 1, vb, rfl, rfl, .inl (.inl et), rfl, vb, qq, rfl, f2.same s, sm, ?_⟩
        exact ⟨rfl, _, rfl, no (by simp) ⟨s, eL⟩⟩
      · rintro HR ⟨sR, eL⟩
        refine ⟨Nat.zero_le _, fun L2' nL2 => ?_⟩
        have sS := sR.trans (same_new (o := .lst []) nL2)
        have eS : (upd HR L2' (.lst [])) L = some (.lst []) := same_new (o := .lst []) nL2 _ _ eL
        refine ⟨.list [], .list [], .lst (.inl (.inl eS)) .nil, .lst (.inl (.inl upd_same)) .nil, rfl, rfl, _, rfl, no rfl ?_⟩
        have sT := sQ.trans sS
        -- the refusals
        refine ⟨_, rfl, _, rfl, m, g, vx, px, rfl, dD.same sT, fx.same sT, lx, bx, tbD.ext sT, fun HZ dZ tbZ => ?_⟩
        refine ⟨_, rfl, no rfl ?_⟩
        exact ⟨dZ, tbZ, _, _, _, _, _, _, _, _, _, rfl⟩
  · rintro σ H2 ⟨d2, tb2, o2, o3, o4, o5, o6, o7, o8, o9, o10, rfl⟩
    exact q _
end
end Cw
namespace Cw
open PySem PySem.Spec PyProof.Rows L2
/-! ### the law, entered by its caller -/
/-- what is tracked as it is entered: the table of code objects; the script's list, unless the written part holds it -/
def ent (Pt a : Addr) (o : Option HO) : Hp := fun b => if b = Pt then some (.tbl #[]) else if b = a then o else none
theorem ent_tab {Pt a : Addr} {o : Option HO} : ent Pt a o Pt = some (.tbl #[]) := if_pos rfl
theorem ent_scr {Pt a : Addr} {o : Option HO} (h : a ≠ Pt) : ent Pt a o a = o := (if_neg h).trans (if_pos rfl)
theorem ent_off {Pt a b : Addr} {o : Option HO} (h1 : b ≠ Pt) (h2 : b ≠ a) : ent Pt a o b = none := (if_neg h1).trans (if_neg h2)
theorem entered {P : Program} {w : World} {K : PySem.W.Frag} {mg mb : Str → Option Value} {fa a c Pt : Addr} {s : Shared} {vs : List Value} {ns : List Int} (kin : K.In s.heap) (top : s.heap.Ns mainGlobals mg) (blt : s.heap.Ns builtinsNs mb)
    (boot : ∀ x : Str, x ≠ "__name__" → mb x = bootBuiltins x) (lim : s.heap.NoLimit) (dig : PySem.W.nsIn K cStatics "sys.int_max_str_digits" = some none) (gens : s.gens = #[]) (tab : s.heap.get? Pt = some { cls := .none, data := .fields #[] }) (tabK : K.lookup Pt = none)
    (head : PySem.W.CodeHd s.heap c Pt) (bmod : ∃ (bm : Addr) (ob : Obj), mg "__builtins__" = some (.ref bm) ∧ bm ≠ builtinsNs ∧ s.heap.get? bm = some ob ∧ ob.cls = .type "module" ∧ ob.dict = some builtinsNs ∧ ob.data = .plain)
    (scr : s.heap.get? a = some { cls := .type "list", data := .seq vs.toArray }) (are : IntsAre vs ns) (few : ns.length ≤ sizeLine)
    (run : ∀ (base : Heap) (H : Hp), K.In base → base.NoDigits → LamX.TabB base mg c Pt → Env0 P w K mg base callerA [] s H → LamX.Tabs [(Pt, qLam)] H → SqL K H a (ns.map V.int) →
      codeAny (model P w) callerA (.call (.ref fa) ⟨[.ref a], []⟩) (CR CX0 [] P w H s (fun v _ => v = .bl true) E0) s) :
    codeAny (model P w) callerA (.call (.ref fa) ⟨[.ref a], []⟩) (fun r s' => r = .ok (.ret (.bool true)) ∧ OldK s.heap s'.heap ∧ s'.os = s.os ∧ AllBare s'.gens) s := by
  have apart : a ≠ Pt := fun z => by
    rw [z, tab] at scr
    cases congrArg Obj.data (Option.some.inj scr)
  have rel := vals_ints are
  obtain ⟨o, ho, hS, hK⟩ : ∃ o : Option HO, (o = none ∨ o = some (.frz { cls := .type "list", data := .seq vs.toArray } (.lst (ns.map V.int)))) ∧ SqL K (ent Pt a o) a (ns.map V.int) ∧ (o ≠ none → K.lookup a = none) := by
    cases e : K.lookup a with
    | none => exact ⟨_, .inr rfl, .inl (.inr ⟨_, ent_scr apart⟩), fun _ => rfl⟩
    | some q =>
      have z := kin a q e
      rw [scr] at z
      cases z
      exact ⟨none, .inl rfl, .inr ⟨_, vs.toArray, _, e, rfl, rfl, rfl, by rw [List.size_toArray, are.length]; exact few, by simpa using rel⟩, fun z => absurd rfl z⟩
  -- what the tracked objects are not
  have plain : ∀ {b : Addr} {q : Obj}, s.heap.get? b = some q → (∀ ws n, q.data ≠ .seq ws n) → q.data ≠ .fields #[] → ent Pt a o b = none := fun {b q} e h1 h2 => by
    refine ent_off (fun z => ?_) fun z => ?_
    · rw [z, tab] at e
      exact h2 (congrArg Obj.data (Option.some.inj e)).symm
    · rw [z, scr] at e
      exact h1 _ _ (congrArg Obj.data (Option.some.inj e)).symm
  have low : ∀ {b : Addr} {q : Obj}, s.heap.get? b = some q → (∀ ws n, q.data ≠ .seq ws n) → q.data ≠ .fields #[] → (hidT s.heap (ent Pt a o)).get? b = some q := fun e h1 h2 => hidT_get e (plain e h1 h2)
  have lowNs : ∀ {b : Addr} {mm : Str → Option Value}, s.heap.Ns b mm → (hidT s.heap (ent Pt a o)).Ns b mm := fun ⟨q, es, ep, e, dd, r⟩ =>
    ⟨q, es, ep, low e (fun _ _ z => by rw [dd] at z; cases z) (fun z => by rw [dd] at z; cases z), dd, r⟩
  have kinB : K.In (hidT s.heap (ent Pt a o)) := fun b q e => hidT_get (kin b q e) (by
    by_cases h1 : b = Pt
    · rw [h1, tabK] at e
      cases e
    · by_cases h2 : b = a
      · rw [h2, ent_scr apart]
        rw [h2] at e
        cases o with
        | none => rfl
        | some u =>
          rw [hK (by simp)] at e
          cases e
      · exact ent_off h1 h2)
  obtain ⟨ml, l1, l2⟩ := lim
  have limB : (hidT s.heap (ent Pt a o)).NoLimit := ⟨ml, lowNs l1, l2⟩
  have digB : (hidT s.heap (ent Pt a o)).NoDigits := ⟨ml, lowNs l1, PySem.W.ns_none_of kin l1 dig⟩
  have modB : L2.Mod K mg (hidT s.heap (ent Pt a o)) := ⟨kinB, lowNs top, ⟨mb, lowNs blt, boot⟩, limB⟩
  have TB : LamX.TabB (hidT s.heap (ent Pt a o)) mg c Pt := by
    refine ⟨?_, ?_, fun z => ?_⟩
    · obtain ⟨q, us, fi, tf, fl, tg, iF, tx, tt, e1, r1, r2, r3, r4⟩ := head
      refine ⟨q, us, fi, tf, fl, tg, iF, tx, tt, low e1 (fun _ _ z => by rw [r2] at z; cases z) (fun z => ?_), r1, r2, r3, r4⟩
      rw [r2] at z
      cases z
      simp at r3
    · obtain ⟨bm, ob, b1, b2, b3, b4, b5, b6⟩ := bmod
      refine ⟨bm, ob, b1, b2, fun z => ?_, fun z => ?_, low b3 (fun _ _ z => by rw [b6] at z; cases z) (fun z => by rw [b6] at z; cases z), b4, b5, b6⟩
      · obtain ⟨q, es, ep, e, dd, _⟩ := top
        rw [z, e] at b3
        rw [← Option.some.inj b3, dd] at b6
        cases b6
      · rw [z, tab] at b3
        rw [← Option.some.inj b3] at b6
        cases b6
    · obtain ⟨q, es, ep, e, dd, _⟩ := top
      rw [z, tab] at e
      rw [← Option.some.inj e] at dd
      cases dd
  have hok : HOk P w (ent Pt a o) s.heap := fun b u e => by
    by_cases h1 : b = Pt
    · rw [h1, ent_tab] at e
      cases e
      rw [h1]
      exact tab
    · by_cases h2 : b = a
      · rw [h2, ent_scr apart] at e
        rw [h2]
        rcases ho with z | z
        · rw [z] at e
          cases e
        · rw [z] at e
          cases e
          exact ⟨scr, by rw [List.length_map]; exact few, vs, _, rel, scr⟩
      · rw [ent_off h1 h2] at e
        cases e
  have e0 : Env0 P w K mg (hidT s.heap (ent Pt a o)) callerA [] s (ent Pt a o) := ⟨rfl, modB, fun b q e => of_hidT e, Nat.le_of_eq (hidT_size _ _), trivial, fun b hb => absurd (show b ∈ ([] : List Addr) from hb) (by simp), hok, .of_eq gens⟩
  have tabs : LamX.Tabs [(Pt, qLam)] (ent Pt a o) := fun p hp => by
    rw [List.mem_singleton.mp hp]
    exact .nil ent_tab
  refine codeAny_mono (run _ _ kinB digB TB e0 tabs hS) fun r s' h => ?_
  cases r with
  | error e => exact (show False from h).elim
  | ok fl =>
    cases fl with
    | next => exact False.elim h
    | brk => exact False.elim h
    | cont => exact False.elim h
    | ret u =>
      obtain ⟨v, H', os, bare, un, hok', rv, q⟩ := h
      obtain rfl : v = .bl true := q
      obtain rfl : u = Value.bool true := rv
      obtain ⟨more, tm⟩ := un.tbls Pt #[] ent_tab
      have tab' : s'.heap.get? Pt = some { cls := .none, data := .fields (#[] ++ more) } := hok' Pt _ tm
      have kept : ∀ b q, b ≠ Pt → s.heap.get? b = some q → s'.heap.get? b = some q := fun b q h1 e => by
        by_cases h2 : b = a
        · rw [h2] at e ⊢
          rcases ho with z | z
          · exact un.keep a q e (by rw [ent_scr apart]; exact z) (by intro x; exact absurd (show a ∈ ([] : List Addr) from x) (by simp)) (by simp)
          · have f := un.frzs a _ _ ((ent_scr apart).trans z)
            obtain ⟨f1, _⟩ := hok' a _ f
            rw [scr] at e
            cases e
            exact f1
        · exact un.keep b q e (ent_off h1 h2) (by intro x; exact absurd (show b ∈ ([] : List Addr) from x) (by simp)) (by simp)
      refine ⟨rfl, ⟨fun b q e => ?_, fun b q e => ?_⟩, os, bare⟩
      · by_cases h1 : b = Pt
        · rw [h1] at e ⊢
          rw [tab] at e
          cases e
          exact .inr (.inl ⟨(head.tab tab).isCodeTable, rfl, #[], more, rfl, tab'⟩)
        · exact .inl (kept b q h1 e)
      · by_cases h1 : b = Pt
        · rw [h1]
          exact ⟨_, tab'⟩
        · exact ⟨q, kept b q h1 e⟩
end Cw
namespace Cw
open PySem PySem.Spec PyProof.Rows L2
/-! ### all of it together -/
section
variable {K : PySem.W.Frag} {mg : Str → Option Value}
/-- a def of the written part -/
theorem df_ex {h : Heap} (X : K.In h) (G : h.Ns mainGlobals mg) {x : Str} {st : Stmt} {f : Addr} {oc kV doc pm cdv ct : Value} {od an : Option Addr} {osl : Array (Option Value)} (n : PySem.W.nsIn K mainGlobals x = some (some (.ref f)))
    (l : K.lookup f = some ⟨oc, od, .func (PySem.W.fnOf x x (defArgs st) (defBody st) (defScope st) .none kV doc pm an cdv ct), osl⟩) (c : PySem.W.codeIn K cdv x = true) (k : PySem.W.keepIn K (.ref f) = true) : ∃ fd, Df K mg x st f fd :=
  ⟨_, fun_mk l c k, PySem.W.mg_of X G n⟩
/-- a def whose code object is told -/
def DfC (K : PySem.W.Frag) (mg : Str → Option Value) (x : Str) (st : Stmt) (f c : Addr) : Prop := mg x = some (.ref f) ∧ PySem.W.keepIn K (.ref f) = true ∧ ∃ (oc kV doc pm ct : Value) (od an : Option Addr) (osl : Array (Option Value)),
  K.lookup f = some ⟨oc, od, .func (PySem.W.fnOf x x (defArgs st) (defBody st) (defScope st) .none kV doc pm an (.ref c) ct), osl⟩ ∧ PySem.W.codeIn K (.ref c) x = true
theorem dfc_ex {h : Heap} (X : K.In h) (G : h.Ns mainGlobals mg) {x : Str} {st : Stmt} {f c : Addr} {oc kV doc pm ct : Value} {od an : Option Addr} {osl : Array (Option Value)} (n : PySem.W.nsIn K mainGlobals x = some (some (.ref f)))
    (l : K.lookup f = some ⟨oc, od, .func (PySem.W.fnOf x x (defArgs st) (defBody st) (defScope st) .none kV doc pm an (.ref c) ct), osl⟩) (cc : PySem.W.codeIn K (.ref c) x = true) (k : PySem.W.keepIn K (.ref f) = true) : DfC K mg x st f c :=
  ⟨PySem.W.mg_of X G n, k, _, _, _, _, _, _, _, _, l, cc⟩
/-- an own error is one of its bases -/
theorem kitx {D C : Addr} {b : Bool} (ne : (Value.ref D == Value.ref C) = false) (i : PySem.W.isClsIn K C = true) (t : PySem.W.typeIn K (.ref C) = some (.type "type")) (s : PySem.W.subIn K (.ref D) (.ref C) = some b) : PySem.W.kitOne K (.ref D) (.ref C) = some b := by
  unfold PySem.W.kitOne
  rw [ne, if_neg Bool.false_ne_true]
  have e : ((PySem.W.clsIn K C).isSome && PySem.W.typeIn K (.ref C) == some (.type "type")) = true := by
    have i' : (PySem.W.clsIn K C).isSome = true := i
    rw [i', t] <;> rfl
  show (if ((PySem.W.clsIn K C).isSome && PySem.W.typeIn K (.ref C) == some (.type "type")) = true then PySem.W.subIn K (.ref D) (.ref C) else none) = some b
  rw [if_pos e]
  exact s
theorem kits {C : Addr} : PySem.W.kitOne K (.ref C) (.ref C) = some true := by
  unfold PySem.W.kitOne
  rw [if_pos (beq_self_eq_true _)]
theorem any2 {c : Value} {A B : Addr} {b d : Bool} (h1 : PySem.W.exmOne K c (.ref A) = some b) (h2 : PySem.W.exmOne K c (.ref B) = some d) (e : (b || (d || false)) = true) : PySem.W.exmAny K c [.ref A, .ref B] = some true := by
  unfold PySem.W.exmAny PySem.W.exmAny PySem.W.exmAny
  rw [h1, h2]
  show some (b || (d || false)) = some true
  rw [e]
end
section
variable {P : Program} {w : World} {K : PySem.W.Frag} {mg : Str → Option Value} {base : Heap}
theorem law_at {fnum fcom fisf fnee fpai flow fpro fquo ftim fpow fbeg fdra fllo flpa fwho ffra fsai fodd flpo fref flaw cref claw Pt R1 R2 CN CF CP iN iF iP : Addr} {dnum dcom disf dnee dpai dlow dpro dquo dtim dpow dbeg ddra dllo dlpa dwho dfra dsai dodd dlpo : FuncData} {mp : Tok} (B : Bi mg) (hmp : mg "MOST_POWER" = some (.int 20 mp))
    (h1 : mg "Refused" = some (.ref R1)) (h2 : mg "Barred" = some (.ref R2)) (TN : OwnN K mg CN iN) (TF : OwnF K mg CF iF) (TP : OwnP K mg CP iP)
    (eN : PySem.W.exmAny K (.ref CN) [.ref R1, .ref R2] = some true) (eF : PySem.W.exmAny K (.ref CF) [.ref R1, .ref R2] = some true) (eP : PySem.W.exmAny K (.ref CP) [.ref R1, .ref R2] = some true)
    (fcN : Fc K CN CF CP CN "number") (fcF : Fc K CN CF CP CF "fraction") (fcP : Fc K CN CF CP CP "none")
    (Dnum : Df K mg "is_number" sNum fnum dnum) (Dcom : Df K mg "common" sCom fcom dcom) (Disf : Df K mg "is_fraction" sIsF fisf disf) (Dnee : Df K mg "need_fractions" sNeed fnee dnee)
    (Dpai : Df K mg "pair_of" sPair fpai dpai) (Dlow : Df K mg "lowest" sLow flow dlow) (Dpro : Df K mg "product" sPro fpro dpro) (Dquo : Df K mg "quotient" sQuo fquo dquo)
    (Dtim : Df K mg "times" sTim ftim dtim) (Dpow : Df K mg "power" sPow fpow dpow) (Dbeg : Df K mg "_law_begun" sBeg fbeg dbeg) (Ddra : Df K mg "_law_draw" sDraw fdra ddra)
    (Dllo : Df K mg "_law_lowest" sLLow fllo dllo) (Dlpa : Df K mg "_law_pair" sLPair flpa dlpa) (Dwho : Df K mg "_law_whole_number" sWhole fwho dwho) (Dfra : Df K mg "_law_fraction" sFra ffra dfra)
    (Dsai : Df K mg "_law_said" sSaid fsai dsai) (Dodd : Df K mg "_law_odd" sOdd fodd dodd) (Dlpo : Df K mg "_law_power" sLPow flpo dlpo)
    (Dref : DfC K mg "_law_refused_right" sRef fref cref) (Dlaw : DfC K mg "law" sLaw flaw claw) (TB : LamX.TabB base mg cref Pt) (hd : base.NoDigits) {H : Hp} {s : Shared} {a : Addr} {ns : List Int}
    (e0 : Env0 P w K mg base callerA [] s H) (tb : LamX.Tabs [(Pt, qLam)] H) (hS : SqL K H a (ns.map V.int)) (few : ns.length ≤ 63) :
    codeAny (model P w) callerA (.call (.ref flaw) ⟨[.ref a], []⟩) (CR CX0 [] P w H s (fun v _ => v = .bl true) E0) s := by
  have bnum : Binds K dnum ["thing"] [] := Dnum.F.binds (ps := ["thing"]) fun _ _ _ _ _ _ us hl => match us, hl with | [_], _ => rfl
  have bcom : Binds K dcom ["one", "other"] [] := Dcom.F.binds (ps := ["one", "other"]) fun _ _ _ _ _ _ us hl => match us, hl with | [_, _], _ => rfl
  have bisf : Binds K disf ["thing"] [] := Disf.F.binds (ps := ["thing"]) fun _ _ _ _ _ _ us hl => match us, hl with | [_], _ => rfl
  have bnee : Binds K dnee ["things"] [] := Dnee.F.binds (ps := ["things"]) fun _ _ _ _ _ _ us hl => match us, hl with | [_], _ => rfl
  have bpai : Binds K dpai ["a"] [] := Dpai.F.binds (ps := ["a"]) fun _ _ _ _ _ _ us hl => match us, hl with | [_], _ => rfl
  have blow : Binds K dlow ["top", "bottom"] [] := Dlow.F.binds (ps := ["top", "bottom"]) fun _ _ _ _ _ _ us hl => match us, hl with | [_, _], _ => rfl
  have bpro : Binds K dpro ["a", "b"] [] := Dpro.F.binds (ps := ["a", "b"]) fun _ _ _ _ _ _ us hl => match us, hl with | [_, _], _ => rfl
  have bquo : Binds K dquo ["a", "b"] [] := Dquo.F.binds (ps := ["a", "b"]) fun _ _ _ _ _ _ us hl => match us, hl with | [_, _], _ => rfl
  have btim : Binds K dtim ["a", "b"] [] := Dtim.F.binds (ps := ["a", "b"]) fun _ _ _ _ _ _ us hl => match us, hl with | [_, _], _ => rfl
  have bpow : Binds K dpow ["a", "count"] [] := Dpow.F.binds (ps := ["a", "count"]) fun _ _ _ _ _ _ us hl => match us, hl with | [_, _], _ => rfl
  have bbeg : Binds K dbeg ["_law_script"] [] := Dbeg.F.binds (ps := ["_law_script"]) fun _ _ _ _ _ _ us hl => match us, hl with | [_], _ => rfl
  have bdra : Binds K ddra ["_law_m", "_law_many"] [] := Ddra.F.binds (ps := ["_law_m", "_law_many"]) fun _ _ _ _ _ _ us hl => match us, hl with | [_, _], _ => rfl
  have bllo : Binds K dllo ["_law_high", "_law_low"] [] := Dllo.F.binds (ps := ["_law_high", "_law_low"]) fun _ _ _ _ _ _ us hl => match us, hl with | [_, _], _ => rfl
  have blpa : Binds K dlpa ["_law_x"] [] := Dlpa.F.binds (ps := ["_law_x"]) fun _ _ _ _ _ _ us hl => match us, hl with | [_], _ => rfl
  have bwho : Binds K dwho ["_law_m"] [] := Dwho.F.binds (ps := ["_law_m"]) fun _ _ _ _ _ _ us hl => match us, hl with | [_], _ => rfl
  have bfra : Binds K dfra ["_law_m"] [] := Dfra.F.binds (ps := ["_law_m"]) fun _ _ _ _ _ _ us hl => match us, hl with | [_], _ => rfl
  have bsai : Binds K dsai ["_law_deed"] [] := Dsai.F.binds (ps := ["_law_deed"]) fun _ _ _ _ _ _ us hl => match us, hl with | [_], _ => rfl
  have bodd : Binds K dodd ["_law_m", "_law_x"] [] := Dodd.F.binds (ps := ["_law_m", "_law_x"]) fun _ _ _ _ _ _ us hl => match us, hl with | [_, _], _ => rfl
  have blpo : Binds K dlpo ["_law_x", "_law_often"] [] := Dlpo.F.binds (ps := ["_law_x", "_law_often"]) fun _ _ _ _ _ _ us hl => match us, hl with | [_, _], _ => rfl
  have Gnum : FnOk P w K mg base CX0 1 fnum dnum ["thing"] spNum := ok_num Dnum B
  have Gcom : FnOk P w K mg base CX0 1 fcom dcom ["one", "other"] spCom := ok_com Dcom B
  have Gisf : FnOk P w K mg base CX0 2 fisf disf ["thing"] spIsF := ok_isf Disf B Dnum Dcom bnum bcom
  have Gnee : FnOk P w K mg base (L2.CX P w) 3 fnee dnee ["things"] (spNeed CF) := ok_need Dnee B TF Disf bisf Gisf
  have Gpai : FnOk P w K mg base CX0 1 fpai dpai ["a"] spPair := ok_pair Dpai B
  have Glow : FnOk P w K mg base CX0 2 flow dlow ["top", "bottom"] spLow := ok_low Dlow B Dcom bcom Gcom
  have Gpro : FnOk P w K mg base CX0 3 fpro dpro ["a", "b"] spPro := ok_pro Dpro Dpai bpai Gpai Dlow blow Glow
  have Gquo : FnOk P w K mg base CX0 4 fquo dquo ["a", "b"] spQuo := ok_quo Dquo Dpai bpai Gpai Dlow blow Glow Dpro bpro Gpro
  have Gtim : FnOk P w K mg base (L2.CX P w) 4 ftim dtim ["a", "b"] spTim := ok_tim Dtim Dnee bnee Gnee Dpro bpro Gpro
  have Gpow : FnOk P w K mg base (L2.CX P w) 5 fpow dpow ["a", "count"] (spPow CF CN CP) := ok_pow Dpow B hmp TN TP Dnee bnee Gnee Dnum bnum Gnum Dquo bquo Gquo Dpro bpro Gpro
  have Gbeg : FnOk P w K mg base CX0 1 fbeg dbeg ["_law_script"] (spBeg K) := ok_beg Dbeg
  have Gdra : FnOk P w K mg base CX0 1 fdra ddra ["_law_m", "_law_many"] spDraw := ok_draw Ddra B
  have Gllo : FnOk P w K mg base CX0 1 fllo dllo ["_law_high", "_law_low"] spLow := ok_llow Dllo
  have Glpa : FnOk P w K mg base CX0 1 flpa dlpa ["_law_x"] spPair := ok_lpair Dlpa B
  have Gwho : FnOk P w K mg base CX0 2 fwho dwho ["_law_m"] spWhole := ok_whole Dwho Ddra bdra Gdra
  have Gfra : FnOk P w K mg base CX0 3 ffra dfra ["_law_m"] spFra := ok_fra Dfra Ddra bdra Gdra Dwho bwho Gwho Dllo bllo Gllo
  have Godd : FnOk P w K mg base CX0 2 fodd dodd ["_law_m", "_law_x"] spOdd := ok_odd Dodd Ddra bdra Gdra Dlpa blpa Glpa
  have Glpo : FnOk P w K mg base CX0 2 flpo dlpo ["_law_x", "_law_often"] spLPow := ok_lpow Dlpo B Dlpa blpa Glpa Dllo bllo Gllo
  obtain ⟨gR, kR, oc, kV, doc, pm, ct, od, an, osl, lR, cR⟩ := Dref
  have Gref := ok_ref (P := P) (w := w) (base := base) rfl lR cR B h1 h2 TN.gC TF.gC TP.gC TB eN eF eP fcN fcF fcP Dodd bodd Godd Ddra bdra Gdra Dsai bsai Dpow bpow Gpow
  have FR : Fun K "_law_refused_right" "_law_refused_right" sRef fref _ := fun_mk lR cR kR
  have bR : Binds K _ ["_law_m", "_law_x"] [] := FR.binds (ps := ["_law_m", "_law_x"]) fun _ _ _ _ _ _ us hl => match us, hl with | [_, _], _ => rfl
  have kW : KBinds K dpow ["a", "count"] ["count", "a"] (fun us ws => us ++ ws.reverse) (fun us ws => us ++ ws.reverse) := by
    obtain ⟨⟨oc, od, kV, doc, pm, an, cdv, ct, osl, rfl, l, c⟩, k⟩ := Dpow.F
    refine ⟨fun s us ws _ hl => ?_, fun r1 r2 => r1.append r2.reverse⟩
    match us, ws, hl with
    | [x, y], [], _ => exact .of_eq rfl
    | [x], [y], _ => exact .of_eq rfl
    | [], [y, x], _ => exact .of_eq rfl
    | [], [], hl => simp at hl
    | [_], [], hl => simp at hl
    | [], [_], hl => simp at hl
    | _ :: _ :: _ :: _, _, hl => simp at hl
    | _ :: _ :: _, _ :: _, hl => simp at hl <;> omega
    | _ :: _, _ :: _ :: _, hl => simp at hl <;> omega
    | _, _ :: _ :: _ :: _, hl => simp at hl <;> omega
  obtain ⟨gL, kL, oc', kV', doc', pm', ct', od', an', osl', lL, cL⟩ := Dlaw
  refine LamX.run_ofS (k := 8) (N := nLaw) (ps := ["_law_script"]) (vs := [.ref a]) (us := [.ref a]) lL cL scLaw ⟨rfl, by decide, by decide⟩ e0 (.of_eq rfl) (.cons rfl .nil) rfl fun hr => ?_
  obtain ⟨t, ht, hq⟩ := law_term (P := P) (w := w) (base := base) (Q := fun v _ => v = V.bl true) (E := E0) B Dbeg bbeg Gbeg Dfra bfra Gfra Ddra bdra Gdra Dllo bllo Gllo Dpow bpow kW Gpow Dtim btim Gtim Dlpo blpo Glpo ⟨FR, gR⟩ bR Gref rfl hd hr hS few tb fun _ => rfl
  exact ⟨t, ht.nox, hq⟩
end
end Cw
namespace Cw
open PySem PySem.Spec PyProof.Rows L2
section
variable {K : PySem.W.Frag} {mg : Str → Option Value}
/-- an own error's class, by what the written part says -/
theorem own_mk {h : Heap} (X : K.In h) (G : h.Ns mainGlobals mg) {x : Str} {C fI : Addr} {bmB : List Value} {newId : String} {oc doc pm cdv ct : Value} {od an : Option Addr} {osl : Array (Option Value)} {qual : Str} {p1 p2 q1 q2 q3 q4 : Pos}
    (n : PySem.W.nsIn K mainGlobals x = some (some (.ref C))) (iC : PySem.W.findIn K (.ref C) "__init__" = some (some (.ref fI))) (ini : PySem.W.excInitIn K C bmB newId = true) (over : PySem.W.excOver K C bmB = true) (tak : PySem.W.takerIn K C "why" = some none)
    (sa : PySem.W.findIn K (.ref C) "__setattr__" = some (some (.builtin "object.__setattr__"))) (tC : PySem.W.typeIn K (.ref fI) = some (.type "function")) (kC : PySem.W.keepIn K (.ref C) = true) (exC : PySem.W.subIn K (.ref C) (.type "BaseException") = some true)
    (tyC : PySem.W.typeIn K (.ref C) = some (.type "type")) (hdC : PySem.W.hasDictIn K C = true) (l : K.lookup fI = some ⟨oc, od, .func (PySem.W.fnOf "__init__" qual (iA p1 p2) (iB q1 q2 q3 q4) iS .none .none doc pm an cdv ct), osl⟩) (c : PySem.W.codeIn K cdv qual = true) :
    OwnX K mg x C fI bmB newId := ⟨PySem.W.mg_of X G n, ini, over, tak, sa, iC, tC, kC, exC, tyC, hdC, _, _, _, _, _, _, _, _, _, _, _, _, _, _, _, l, c⟩
theorem most_ex {h : Heap} (X : K.In h) (G : h.Ns mainGlobals mg) {mp : Tok} (n : PySem.W.nsIn K mainGlobals "MOST_POWER" = some (some (.int 20 mp))) : ∃ mp, mg "MOST_POWER" = some (.int 20 mp) := ⟨mp, PySem.W.mg_of X G n⟩
theorem isx_mk {D : Addr} (cl : PySem.W.isClsIn K D = true) (ga : PySem.W.findIn K (.ref D) "__getattribute__" = some (some (.builtin "BaseException.__getattribute__"))) (gg : PySem.W.findIn K (.ref D) "__getattr__" = some none) (sb : PySem.W.subIn K (.ref D) (.type "BaseException") = some true)
    (ca : PySem.W.findIn K (.ref D) "__class__" = some (some (.builtin "object.__class__"))) (gt : PySem.W.specialIn K (.builtin "object.__class__") "__get__" = some (some (.builtin "getset_descriptor.__get__"))) (tk : PySem.W.takesIn K (.builtin "object.__class__") = some true) (mr : PySem.W.mroIn K D (.type "object") = some true) : IsX K D :=
  ⟨cl, ga, gg, sb, ca, gt, tk, mr⟩
end
end Cw
open PySem PySem.W PyProof.Rows
set_option maxRecDepth 100000 in
set_option maxHeartbeats 0 in
theorem PySem.Challenge.cw_cubicway_k05_whole_powers_holds : PySem.Challenge.rw_cubicway_k05_whole_powers.Holds := by
  w_on; o_law; k_head; (case hw => w_witness2)
  k_fill
  refine Att.attach_callB (l := PySem.Challenge.rw_cubicway_k05_whole_powers) (n := 63) (by decide +kernel) rfl fun w s₀ s₁ mg mb fa o pm cd doc a vs ns G Y ho hd hcd hmg hobj hints hlen hbits hg => ?_
  clear ho hd hcd
  replace hmg : mg "law" = some (.ref fa) := hmg
  have KX := km_in_of Y
  have hT := km_tabs_of Y
  have GG := G.T.g
  obtain ⟨fnum, dnum, Dnum⟩ : ∃ f d, Cw.Df _ mg "is_number" Cw.sNum f d := by
    refine' ⟨_, Cw.df_ex KX GG ?n ?l ?c ?k⟩
    (case n => first | k_is | kernel_rfl)
    (case l => first | k_is | kernel_rfl)
    (case c => first | k_is | kernel_rfl)
    (case k => first | k_is | kernel_rfl)
  obtain ⟨fcom, dcom, Dcom⟩ : ∃ f d, Cw.Df _ mg "common" Cw.sCom f d := by
    refine' ⟨_, Cw.df_ex KX GG ?n ?l ?c ?k⟩
    (case n => first | k_is | kernel_rfl)
    (case l => first | k_is | kernel_rfl)
    (case c => first | k_is | kernel_rfl)
    (case k => first | k_is | kernel_rfl)
  obtain ⟨fisf, disf, Disf⟩ : ∃ f d, Cw.Df _ mg "is_fraction" Cw.sIsF f d := by
    refine' ⟨_, Cw.df_ex KX GG ?n ?l ?c ?k⟩
    (case n => first | k_is | kernel_rfl)
    (case l => first | k_is | kernel_rfl)
    (case c => first | k_is | kernel_rfl)
    (case k => first | k_is | kernel_rfl)
  obtain ⟨fnee, dnee, Dnee⟩ : ∃ f d, Cw.Df _ mg "need_fractions" Cw.sNeed f d := by
    refine' ⟨_, Cw.df_ex KX GG ?n ?l ?c ?k⟩
    (case n => first | k_is | kernel_rfl)
    (case l => first | k_is | kernel_rfl)
    (case c => first | k_is | kernel_rfl)
    (case k => first | k_is | kernel_rfl)
  obtain ⟨fpai, dpai, Dpai⟩ : ∃ f d, Cw.Df _ mg "pair_of" Cw.sPair f d := by
    refine' ⟨_, Cw.df_ex KX GG ?n ?l ?c ?k⟩
    (case n => first | k_is | kernel_rfl)
    (case l => first | k_is | kernel_rfl)
    (case c => first | k_is | kernel_rfl)
    (case k => first | k_is | kernel_rfl)
  obtain ⟨flow, dlow, Dlow⟩ : ∃ f d, Cw.Df _ mg "lowest" Cw.sLow f d := by
    refine' ⟨_, Cw.df_ex KX GG ?n ?l ?c ?k⟩
    (case n => first | k_is | kernel_rfl)
    (case l => first | k_is | kernel_rfl)
    (case c => first | k_is | kernel_rfl)
    (case k => first | k_is | kernel_rfl)
  obtain ⟨fpro, dpro, Dpro⟩ : ∃ f d, Cw.Df _ mg "product" Cw.sPro f d := by
    refine' ⟨_, Cw.df_ex KX GG ?n ?l ?c ?k⟩
    (case n => first | k_is | kernel_rfl)
    (case l => first | k_is | kernel_rfl)
    (case c => first | k_is | kernel_rfl)
    (case k => first | k_is | kernel_rfl)
  obtain ⟨fquo, dquo, Dquo⟩ : ∃ f d, Cw.Df _ mg "quotient" Cw.sQuo f d := by
    refine' ⟨_, Cw.df_ex KX GG ?n ?l ?c ?k⟩
    (case n => first | k_is | kernel_rfl)
    (case l => first | k_is | kernel_rfl)
    (case c => first | k_is | kernel_rfl)
    (case k => first | k_is | kernel_rfl)
  obtain ⟨ftim, dtim, Dtim⟩ : ∃ f d, Cw.Df _ mg "times" Cw.sTim f d := by
    refine' ⟨_, Cw.df_ex KX GG ?n ?l ?c ?k⟩
    (case n => first | k_is | kernel_rfl)
    (case l => first | k_is | kernel_rfl)
    (case c => first | k_is | kernel_rfl)
    (case k => first | k_is | kernel_rfl)
  obtain ⟨fpow, dpow, Dpow⟩ : ∃ f d, Cw.Df _ mg "power" Cw.sPow f d := by
    refine' ⟨_, Cw.df_ex KX GG ?n ?l ?c ?k⟩
    (case n => first | k_is | kernel_rfl)
    (case l => first | k_is | kernel_rfl)
    (case c => first | k_is | kernel_rfl)
    (case k => first | k_is | kernel_rfl)
  obtain ⟨fbeg, dbeg, Dbeg⟩ : ∃ f d, Cw.Df _ mg "_law_begun" Cw.sBeg f d := by
    refine' ⟨_, Cw.df_ex KX GG ?n ?l ?c ?k⟩
    (case n => first | k_is | kernel_rfl)
    (case l => first | k_is | kernel_rfl)
    (case c => first | k_is | kernel_rfl)
    (case k => first | k_is | kernel_rfl)
  obtain ⟨fdra, ddra, Ddra⟩ : ∃ f d, Cw.Df _ mg "_law_draw" Cw.sDraw f d := by
    refine' ⟨_, Cw.df_ex KX GG ?n ?l ?c ?k⟩
    (case n => first | k_is | kernel_rfl)
    (case l => first | k_is | kernel_rfl)
    (case c => first | k_is | kernel_rfl)
    (case k => first | k_is | kernel_rfl)
  obtain ⟨fllo, dllo, Dllo⟩ : ∃ f d, Cw.Df _ mg "_law_lowest" Cw.sLLow f d := by
    refine' ⟨_, Cw.df_ex KX GG ?n ?l ?c ?k⟩
    (case n => first | k_is | kernel_rfl)
    (case l => first | k_is | kernel_rfl)
    (case c => first | k_is | kernel_rfl)
    (case k => first | k_is | kernel_rfl)
  obtain ⟨flpa, dlpa, Dlpa⟩ : ∃ f d, Cw.Df _ mg "_law_pair" Cw.sLPair f d := by
    refine' ⟨_, Cw.df_ex KX GG ?n ?l ?c ?k⟩
    (case n => first | k_is | kernel_rfl)
    (case l => first | k_is | kernel_rfl)
    (case c => first | k_is | kernel_rfl)
    (case k => first | k_is | kernel_rfl)
  obtain ⟨fwho, dwho, Dwho⟩ : ∃ f d, Cw.Df _ mg "_law_whole_number" Cw.sWhole f d := by
    refine' ⟨_, Cw.df_ex KX GG ?n ?l ?c ?k⟩
    (case n => first | k_is | kernel_rfl)
    (case l => first | k_is | kernel_rfl)
    (case c => first | k_is | kernel_rfl)
    (case k => first | k_is | kernel_rfl)
  obtain ⟨ffra, dfra, Dfra⟩ : ∃ f d, Cw.Df _ mg "_law_fraction" Cw.sFra f d := by
    refine' ⟨_, Cw.df_ex KX GG ?n ?l ?c ?k⟩
    (case n => first | k_is | kernel_rfl)
    (case l => first | k_is | kernel_rfl)
    (case c => first | k_is | kernel_rfl)
    (case k => first | k_is | kernel_rfl)
  obtain ⟨fsai, dsai, Dsai⟩ : ∃ f d, Cw.Df _ mg "_law_said" Cw.sSaid f d := by
    refine' ⟨_, Cw.df_ex KX GG ?n ?l ?c ?k⟩
    (case n => first | k_is | kernel_rfl)
    (case l => first | k_is | kernel_rfl)
    (case c => first | k_is | kernel_rfl)
    (case k => first | k_is | kernel_rfl)
  obtain ⟨fodd, dodd, Dodd⟩ : ∃ f d, Cw.Df _ mg "_law_odd" Cw.sOdd f d := by
    refine' ⟨_, Cw.df_ex KX GG ?n ?l ?c ?k⟩
    (case n => first | k_is | kernel_rfl)
    (case l => first | k_is | kernel_rfl)
    (case c => first | k_is | kernel_rfl)
    (case k => first | k_is | kernel_rfl)
  obtain ⟨flpo, dlpo, Dlpo⟩ : ∃ f d, Cw.Df _ mg "_law_power" Cw.sLPow f d := by
    refine' ⟨_, Cw.df_ex KX GG ?n ?l ?c ?k⟩
    (case n => first | k_is | kernel_rfl)
    (case l => first | k_is | kernel_rfl)
    (case c => first | k_is | kernel_rfl)
    (case k => first | k_is | kernel_rfl)
  obtain ⟨flaw, claw, Dlaw⟩ : ∃ f c, Cw.DfC _ mg "law" Cw.sLaw f c := by
    refine' ⟨_, _, Cw.dfc_ex KX GG ?n ?l ?c ?k⟩
    (case n => first | k_is | kernel_rfl)
    (case l => first | k_is | kernel_rfl)
    (case c => first | k_is | kernel_rfl)
    (case k => first | k_is | kernel_rfl)
  obtain ⟨fref, cref, Dref, hhd⟩ : ∃ f c, Cw.DfC _ mg "_law_refused_right" Cw.sRef f c ∧ CodeHd s₁.heap c 226 := by
    refine' ⟨_, _, Cw.dfc_ex KX GG ?n ?l ?c ?k, codeHd_of_K KX ?h⟩
    (case n => first | k_is | kernel_rfl)
    (case l => first | k_is | kernel_rfl)
    (case c => first | k_is | kernel_rfl)
    (case k => first | k_is | kernel_rfl)
    (case h => first | k_is | kernel_rfl)
  have BB : Cw.Bi mg := by
    refine' ⟨mg_none_of KX GG ?isi, mg_none_of KX GG ?int, mg_none_of KX GG ?bool, mg_none_of KX GG ?tup, mg_none_of KX GG ?abs, mg_none_of KX GG ?len, mg_none_of KX GG ?all, mg_none_of KX GG ?rng, mg_none_of KX GG ?rep⟩
    (case isi => first | k_is | kernel_rfl)
    (case int => first | k_is | kernel_rfl)
    (case bool => first | k_is | kernel_rfl)
    (case tup => first | k_is | kernel_rfl)
    (case abs => first | k_is | kernel_rfl)
    (case len => first | k_is | kernel_rfl)
    (case all => first | k_is | kernel_rfl)
    (case rng => first | k_is | kernel_rfl)
    (case rep => first | k_is | kernel_rfl)
  obtain ⟨mp, hmp⟩ : ∃ mp, mg "MOST_POWER" = some (.int 20 mp) := by
    refine' Cw.most_ex KX GG ?n
    (case n => first | k_is | kernel_rfl)
  obtain ⟨R1, R2, CN, CF, CP, iN, iF, iP, h1, h2, TN, TF, TP, eN, eF, eP, fcN, fcF, fcP⟩ : ∃ R1 R2 CN CF CP iN iF iP, mg "Refused" = some (.ref R1) ∧ mg "Barred" = some (.ref R2) ∧ Cw.OwnN _ mg CN iN ∧ Cw.OwnF _ mg CF iF ∧ Cw.OwnP _ mg CP iP ∧
      exmAny _ (.ref CN) [.ref R1, .ref R2] = some true ∧ exmAny _ (.ref CF) [.ref R1, .ref R2] = some true ∧ exmAny _ (.ref CP) [.ref R1, .ref R2] = some true ∧ Cw.Fc _ CN CF CP CN "number" ∧ Cw.Fc _ CN CF CP CF "fraction" ∧ Cw.Fc _ CN CF CP CP "none" := by
    refine' ⟨_, _, _, _, _, _, _, _, mg_of KX GG ?r1, mg_of KX GG ?r2, Cw.own_mk KX GG ?Nn ?NiC ?Nini ?Nover ?Ntak ?Nsa ?NtC ?NkC ?NexC ?NtyC ?NhdC ?Nl ?Nc, Cw.own_mk KX GG ?Fn ?FiC ?Fini ?Fover ?Ftak ?Fsa ?FtC ?FkC ?FexC ?FtyC ?FhdC ?Fl ?Fc, Cw.own_mk KX GG ?Pn ?PiC ?Pini ?Pover ?Ptak ?Psa ?PtC ?PkC ?PexC ?PtyC ?PhdC ?Pl ?Pc,
      Cw.any2 (b := true) (d := false) (PySem.W.exm_ref ?rB ?rD ?rT ?Ns1) (PySem.W.exm_ref ?bB ?bD ?bT ?Ns2) rfl, Cw.any2 (b := true) (d := false) (PySem.W.exm_ref ?rB ?rD ?rT ?Fs1) (PySem.W.exm_ref ?bB ?bD ?bT ?Fs2) rfl, Cw.any2 (b := false) (d := true) (PySem.W.exm_ref ?rB ?rD ?rT ?Ps1) (PySem.W.exm_ref ?bB ?bD ?bT ?Ps2) rfl,
      ⟨Cw.isx_mk ?Nxcl ?Nxga ?Nxgg ?Nxsb ?Nxca ?Nxgt ?Nxtk ?Nxmr, _, _, _, Cw.kits, Cw.kitx ?NFe ?Fk1 ?Fk2 ?NFs, Cw.kitx ?NPe ?Pk1 ?Pk2 ?NPs, .inl ⟨rfl, rfl, rfl, rfl⟩⟩,
      ⟨Cw.isx_mk ?Fxcl ?Fxga ?Fxgg ?Fxsb ?Fxca ?Fxgt ?Fxtk ?Fxmr, _, _, _, Cw.kitx ?FNe ?Nk1 ?Nk2 ?FNs, Cw.kits, Cw.kitx ?FPe ?Pk1 ?Pk2 ?FPs, .inr (.inl ⟨rfl, rfl, rfl, rfl⟩)⟩,
      ⟨Cw.isx_mk ?Pxcl ?Pxga ?Pxgg ?Pxsb ?Pxca ?Pxgt ?Pxtk ?Pxmr, _, _, _, Cw.kitx ?PNe ?Nk1 ?Nk2 ?PNs, Cw.kitx ?PFe ?Fk1 ?Fk2 ?PFs, Cw.kits, .inr (.inr ⟨rfl, rfl, rfl, rfl⟩)⟩⟩
    (case r1 => first | k_is | kernel_rfl)
    (case r2 => first | k_is | kernel_rfl)
    (case Nn => first | k_is | kernel_rfl)
    (case NiC => first | k_is | kernel_rfl)
    (case Nini => first | k_is | kernel_rfl)
    (case Nover => first | k_is | kernel_rfl)
    (case Ntak => first | k_is | kernel_rfl)
    (case Nsa => first | k_is | kernel_rfl)
    (case NtC => first | k_is | kernel_rfl)
    (case NkC => first | k_is | kernel_rfl)
    (case NexC => first | k_is | kernel_rfl)
    (case NtyC => first | k_is | kernel_rfl)
    (case NhdC => first | k_is | kernel_rfl)
    (case Nl => first | k_is | kernel_rfl)
    (case Nc => first | k_is | kernel_rfl)
    (case Fn => first | k_is | kernel_rfl)
    (case FiC => first | k_is | kernel_rfl)
    (case Fini => first | k_is | kernel_rfl)
    (case Fover => first | k_is | kernel_rfl)
    (case Ftak => first | k_is | kernel_rfl)
    (case Fsa => first | k_is | kernel_rfl)
    (case FtC => first | k_is | kernel_rfl)
    (case FkC => first | k_is | kernel_rfl)
    (case FexC => first | k_is | kernel_rfl)
    (case FtyC => first | k_is | kernel_rfl)
    (case FhdC => first | k_is | kernel_rfl)
    (case Fl => first | k_is | kernel_rfl)
    (case Fc => first | k_is | kernel_rfl)
    (case Pn => first | k_is | kernel_rfl)
    (case PiC => first | k_is | kernel_rfl)
    (case Pini => first | k_is | kernel_rfl)
    (case Pover => first | k_is | kernel_rfl)
    (case Ptak => first | k_is | kernel_rfl)
    (case Psa => first | k_is | kernel_rfl)
    (case PtC => first | k_is | kernel_rfl)
    (case PkC => first | k_is | kernel_rfl)
    (case PexC => first | k_is | kernel_rfl)
    (case PtyC => first | k_is | kernel_rfl)
    (case PhdC => first | k_is | kernel_rfl)
    (case Pl => first | k_is | kernel_rfl)
    (case Pc => first | k_is | kernel_rfl)
    (case rB => first | k_is | kernel_rfl)
    (case rD => first | k_is | kernel_rfl)
    (case rT => first | k_is | kernel_rfl)
    (case bB => first | k_is | kernel_rfl)
    (case bD => first | k_is | kernel_rfl)
    (case bT => first | k_is | kernel_rfl)
    (case Ns1 => first | k_is | kernel_rfl)
    (case Ns2 => first | k_is | kernel_rfl)
    (case Fs1 => first | k_is | kernel_rfl)
    (case Fs2 => first | k_is | kernel_rfl)
    (case Ps1 => first | k_is | kernel_rfl)
    (case Ps2 => first | k_is | kernel_rfl)
    (case Nxcl => first | k_is | kernel_rfl)
    (case Nxga => first | k_is | kernel_rfl)
    (case Nxgg => first | k_is | kernel_rfl)
    (case Nxsb => first | k_is | kernel_rfl)
    (case Nxca => first | k_is | kernel_rfl)
    (case Nxgt => first | k_is | kernel_rfl)
    (case Nxtk => first | k_is | kernel_rfl)
    (case Nxmr => first | k_is | kernel_rfl)
    (case Fxcl => first | k_is | kernel_rfl)
    (case Fxga => first | k_is | kernel_rfl)
    (case Fxgg => first | k_is | kernel_rfl)
    (case Fxsb => first | k_is | kernel_rfl)
    (case Fxca => first | k_is | kernel_rfl)
    (case Fxgt => first | k_is | kernel_rfl)
    (case Fxtk => first | k_is | kernel_rfl)
    (case Fxmr => first | k_is | kernel_rfl)
    (case Pxcl => first | k_is | kernel_rfl)
    (case Pxga => first | k_is | kernel_rfl)
    (case Pxgg => first | k_is | kernel_rfl)
    (case Pxsb => first | k_is | kernel_rfl)
    (case Pxca => first | k_is | kernel_rfl)
    (case Pxgt => first | k_is | kernel_rfl)
    (case Pxtk => first | k_is | kernel_rfl)
    (case Pxmr => first | k_is | kernel_rfl)
    (case Nk1 => first | k_is | kernel_rfl)
    (case Nk2 => first | k_is | kernel_rfl)
    (case Fk1 => first | k_is | kernel_rfl)
    (case Fk2 => first | k_is | kernel_rfl)
    (case Pk1 => first | k_is | kernel_rfl)
    (case Pk2 => first | k_is | kernel_rfl)
    (case NFs => first | k_is | kernel_rfl)
    (case NPs => first | k_is | kernel_rfl)
    (case FNs => first | k_is | kernel_rfl)
    (case FPs => first | k_is | kernel_rfl)
    (case PNs => first | k_is | kernel_rfl)
    (case PFs => first | k_is | kernel_rfl)
    (case NFe => rfl)
    (case NPe => rfl)
    (case FNe => rfl)
    (case FPe => rfl)
    (case PNe => rfl)
    (case PFe => rfl)
  have e := hmg.symm.trans Dlaw.1
  cases e
  refine Cw.entered (c := cref) (Pt := 226) KX GG G.T.b G.T.builtins G.T.nolimit ?dig hg (hT 226 (by simp)) ?tabK hhd G.T.bmain hobj hints (Nat.le_trans hlen (by decide)) fun base H _ hdig TB e0 tb hS => ?_
  (case dig => k_is)
  (case tabK => first | rfl | kernel_rfl)
  exact Cw.law_at BB hmp h1 h2 TN TF TP eN eF eP fcN fcF fcP Dnum Dcom Disf Dnee Dpai Dlow Dpro Dquo Dtim Dpow Dbeg Ddra Dllo Dlpa Dwho Dfra Dsai Dodd Dlpo Dref Dlaw TB hdig e0 tb hS hlen
