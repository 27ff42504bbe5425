import PyProof.Rows.All
import Wide.All
import OpenK.AllK
import Wide.FinOn
import Open.SpecLaws
import KE.OsHead
import KE.OsGo
import HandS.ForSpec
import HandS.Evl
import HandS.NoneIn
import PySem.Challenge.RW_conesails_s01_answers
set_option Elab.async false
set_option linter.all false
set_option maxRecDepth 100000
set_option maxHeartbeats 4000000
namespace Cs
open Sq69

/-! ## Ways -/
theorem size_le {p q r s a b : Int} (h : r * q - p * s = 1) (hx : 1 ≤ r * b - a * s) (hy : 1 ≤ a * q - p * b)
    (hp : 0 ≤ p) (hq : 0 ≤ q) (hr : 0 ≤ r) (hs : 0 ≤ s) : p + q + r + s ≤ a + b := by
  have ea : a = (r * b - a * s) * p + (a * q - p * b) * r := by grind
  have eb : b = (r * b - a * s) * q + (a * q - p * b) * s := by grind
  have h1 : p ≤ (r * b - a * s) * p := by
    have := Int.mul_le_mul_of_nonneg_right hx hp
    omega
  have h2 : q ≤ (r * b - a * s) * q := by
    have := Int.mul_le_mul_of_nonneg_right hx hq
    omega
  have h3 : r ≤ (a * q - p * b) * r := by
    have := Int.mul_le_mul_of_nonneg_right hy hr
    omega
  have h4 : s ≤ (a * q - p * b) * s := by
    have := Int.mul_le_mul_of_nonneg_right hy hs
    omega
  omega

theorem size_leN {p q r s a b : Nat} (h : r * q = p * s + 1) (hx : a * s < r * b) (hy : p * b < a * q) : p + q + r + s ≤ a + b := by
  have e1 : (r : Int) * q = p * s + 1 := by exact_mod_cast h
  have e2 : (a : Int) * s < r * b := by exact_mod_cast hx
  have e3 : (p : Int) * b < a * q := by exact_mod_cast hy
  have := @size_le (p : Int) q r s a b (by omega) (by omega) (by omega) (by omega) (by omega) (by omega) (by omega)
  omega

theorem less_iff {a b : Frac} : less a b = true ↔ a.1 * b.2 < b.1 * a.2 := by
  unfold less
  exact decide_eq_true_iff
theorem less_iff_not {a b : Frac} : less a b = false ↔ b.1 * a.2 ≤ a.1 * b.2 := by
  unfold less
  rw [decide_eq_false_iff_not]
  omega

def mid (lo hi : Frac) : Frac := (lo.1 + hi.1, lo.2 + hi.2)
def msum (lo hi : Frac) : Nat := lo.1 + lo.2 + hi.1 + hi.2
def fsum (a b : Frac) : Nat := a.1 + a.2 + b.1 + b.2

structure Btw (a b : Frac) (f : Nat) (lo hi : Frac) (w : List Nat) : Prop where
  det : hi.1 * lo.2 = lo.1 * hi.2 + 1
  a2 : 0 < a.2
  ab : a.1 * b.2 < b.1 * a.2
  la : lo.1 * a.2 ≤ a.1 * lo.2
  ah : a.1 * hi.2 < hi.1 * a.2
  lb : lo.1 * b.2 < b.1 * lo.2
  bh : b.1 * hi.2 ≤ hi.1 * b.2
  f1 : 1 ≤ f
  fs : fsum a b + 4 ≤ f + msum lo hi
  wl : w.length + f ≤ fsum a b + 2
  eq : between a b f lo hi w = simplest a b

theorem Btw.start {a b : Frac} (ha : 0 < a.2) (h : less a b = true) : Btw a b (a.1 + a.2 + b.1 + b.2 + 2) (0, 1) (1, 0) [] := by
  rw [less_iff] at h
  have hb : 0 < b.1 := by
    rcases Nat.eq_zero_or_pos b.1 with e | e
    · rw [e, Nat.zero_mul] at h
      omega
    · exact e
  refine ⟨rfl, ha, h, ?_, ?_, ?_, ?_, by omega, ?_, ?_, rfl⟩
  · show 0 * a.2 ≤ a.1 * 1
    omega
  · show a.1 * 0 < 1 * a.2
    omega
  · show 0 * b.2 < b.1 * 1
    omega
  · show b.1 * 0 ≤ 1 * b.2
    omega
  · show a.1 + a.2 + b.1 + b.2 + 4 ≤ a.1 + a.2 + b.1 + b.2 + 2 + 2
    omega
  · show 0 + (a.1 + a.2 + b.1 + b.2 + 2) ≤ a.1 + a.2 + b.1 + b.2 + 2
    omega

theorem Btw.lo2 {a b : Frac} {f : Nat} {lo hi : Frac} {w : List Nat} (B : Btw a b f lo hi w) : 0 < lo.2 := by
  rcases Nat.eq_zero_or_pos lo.2 with e | e
  · have := B.det
    rw [e] at this
    omega
  · exact e
theorem Btw.hi1 {a b : Frac} {f : Nat} {lo hi : Frac} {w : List Nat} (B : Btw a b f lo hi w) : 0 < hi.1 := by
  rcases Nat.eq_zero_or_pos hi.1 with e | e
  · have := B.det
    rw [e] at this
    omega
  · exact e

theorem Btw.right {a b : Frac} {f : Nat} {lo hi : Frac} {w : List Nat} (B : Btw a b f lo hi w) (h : less a (mid lo hi) = false) :
    ∃ g, g < f ∧ Btw a b g (mid lo hi) hi (w ++ [1]) := by
  have h' : (lo.1 + hi.1) * a.2 ≤ a.1 * (lo.2 + hi.2) := less_iff_not.mp h
  have hm := h'
  rw [Nat.add_mul, Nat.mul_add] at hm
  have hah := B.ah
  have hsz : msum lo hi ≤ a.1 + a.2 := by
    have := size_leN B.det hah (by omega)
    unfold msum
    omega
  have hf := B.fs
  unfold fsum at hf
  obtain ⟨g, rfl⟩ : ∃ g, f = g + 1 := ⟨f - 1, by have := B.f1; omega⟩
  have l2 := B.lo2
  have h1 := B.hi1
  refine ⟨g, by omega, ?_, B.a2, B.ab, h', B.ah, ?_, B.bh, by omega, ?_, ?_, ?_⟩
  · show hi.1 * (lo.2 + hi.2) = (lo.1 + hi.1) * hi.2 + 1
    have := B.det
    rw [Nat.mul_add, Nat.add_mul]
    omega
  · show (lo.1 + hi.1) * b.2 < b.1 * (lo.2 + hi.2)
    have k1 : (lo.1 + hi.1) * a.2 * b.2 ≤ a.1 * (lo.2 + hi.2) * b.2 := Nat.mul_le_mul_right _ h'
    have k2 : a.1 * b.2 * (lo.2 + hi.2) < b.1 * a.2 * (lo.2 + hi.2) := Nat.mul_lt_mul_of_pos_right B.ab (by omega)
    have k3 : a.1 * (lo.2 + hi.2) * b.2 = a.1 * b.2 * (lo.2 + hi.2) := by grind
    have k4 : b.1 * a.2 * (lo.2 + hi.2) = a.2 * (b.1 * (lo.2 + hi.2)) := by grind
    have k5 : (lo.1 + hi.1) * a.2 * b.2 = a.2 * ((lo.1 + hi.1) * b.2) := by grind
    exact Nat.lt_of_mul_lt_mul_left (a := a.2) (by omega)
  · show fsum a b + 4 ≤ g + (lo.1 + hi.1 + (lo.2 + hi.2) + hi.1 + hi.2)
    have := B.fs
    unfold msum at this
    omega
  · have := B.wl
    rw [List.length_append]
    show w.length + 1 + g ≤ fsum a b + 2
    omega
  · have e := B.eq
    rw [← e]
    show between a b g (mid lo hi) hi (w ++ [1]) = (if less a (mid lo hi) = false then between a b g (mid lo hi) hi (w ++ [1]) else _)
    rw [if_pos h]

theorem Btw.left {a b : Frac} {f : Nat} {lo hi : Frac} {w : List Nat} (B : Btw a b f lo hi w) (ha : less a (mid lo hi) = true) (h : less (mid lo hi) b = false) :
    ∃ g, g < f ∧ Btw a b g lo (mid lo hi) (w ++ [0]) := by
  have h' : b.1 * (lo.2 + hi.2) ≤ (lo.1 + hi.1) * b.2 := less_iff_not.mp h
  have ha' : a.1 * (lo.2 + hi.2) < (lo.1 + hi.1) * a.2 := less_iff.mp ha
  have hm := h'
  rw [Nat.add_mul, Nat.mul_add] at hm
  have hlb := B.lb
  have hsz : msum lo hi ≤ b.1 + b.2 := by
    have := size_leN (a := b.1) (b := b.2) B.det (by omega) hlb
    unfold msum
    omega
  have hf := B.fs
  unfold fsum at hf
  obtain ⟨g, rfl⟩ : ∃ g, f = g + 1 := ⟨f - 1, by have := B.f1; omega⟩
  have l2 := B.lo2
  have h1 := B.hi1
  refine ⟨g, by omega, ?_, B.a2, B.ab, B.la, ha', B.lb, h', by omega, ?_, ?_, ?_⟩
  · show (lo.1 + hi.1) * lo.2 = lo.1 * (lo.2 + hi.2) + 1
    have := B.det
    rw [Nat.mul_add, Nat.add_mul]
    omega
  · show fsum a b + 4 ≤ g + (lo.1 + lo.2 + (lo.1 + hi.1) + (lo.2 + hi.2))
    have := B.fs
    unfold msum at this
    omega
  · have := B.wl
    rw [List.length_append]
    show w.length + 1 + g ≤ fsum a b + 2
    omega
  · have e := B.eq
    rw [← e]
    show between a b g lo (mid lo hi) (w ++ [0]) = (if less a (mid lo hi) = false then _ else if less (mid lo hi) b = false then between a b g lo (mid lo hi) (w ++ [0]) else _)
    rw [if_neg (by rw [ha]; decide), if_pos h]

theorem Btw.done {a b : Frac} {f : Nat} {lo hi : Frac} {w : List Nat} (B : Btw a b f lo hi w) (ha : less a (mid lo hi) = true) (h : less (mid lo hi) b = true) :
    simplest a b = (mid lo hi, w) := by
  obtain ⟨g, rfl⟩ : ∃ g, f = g + 1 := ⟨f - 1, by have := B.f1; omega⟩
  have e := B.eq
  rw [← e]
  show (if less a (mid lo hi) = false then _ else if less (mid lo hi) b = false then _ else (mid lo hi, w)) = _
  rw [if_neg (by rw [ha]; decide), if_neg (by rw [h]; decide)]

structure Wto (a : Frac) (f : Nat) (lo hi : Frac) (w : List Nat) : Prop where
  det : hi.1 * lo.2 = lo.1 * hi.2 + 1
  la : lo.1 * a.2 < a.1 * lo.2
  ah : a.1 * hi.2 < hi.1 * a.2
  fs : a.1 + a.2 + 3 ≤ f + msum lo hi
  wl : w.length + f ≤ a.1 + a.2 + 1
  eq : w ++ wayTo a f lo hi = wayTo a (a.1 + a.2 + 1) (0, 1) (1, 0)

theorem Wto.start {a : Frac} (h1 : 0 < a.1) (h2 : 0 < a.2) : Wto a (a.1 + a.2 + 1) (0, 1) (1, 0) [] := by
  refine ⟨rfl, ?_, ?_, ?_, ?_, rfl⟩
  · show 0 * a.2 < a.1 * 1
    omega
  · show a.1 * 0 < 1 * a.2
    omega
  · show a.1 + a.2 + 3 ≤ a.1 + a.2 + 1 + 2
    omega
  · show 0 + (a.1 + a.2 + 1) ≤ a.1 + a.2 + 1
    omega
theorem Wto.f3 {a : Frac} {f : Nat} {lo hi : Frac} {w : List Nat} (B : Wto a f lo hi w) : 3 ≤ f := by
  have := size_leN B.det B.ah B.la
  have := B.fs
  unfold msum at this
  omega
theorem Wto.lo2 {a : Frac} {f : Nat} {lo hi : Frac} {w : List Nat} (B : Wto a f lo hi w) : 0 < lo.2 := by
  rcases Nat.eq_zero_or_pos lo.2 with e | e
  · have := B.det
    rw [e] at this
    omega
  · exact e
theorem Wto.hi1 {a : Frac} {f : Nat} {lo hi : Frac} {w : List Nat} (B : Wto a f lo hi w) : 0 < hi.1 := by
  rcases Nat.eq_zero_or_pos hi.1 with e | e
  · have := B.det
    rw [e] at this
    omega
  · exact e
theorem Wto.right {a : Frac} {f : Nat} {lo hi : Frac} {w : List Nat} (B : Wto a f lo hi w) (h : less (mid lo hi) a = true) :
    ∃ g, g < f ∧ Wto a g (mid lo hi) hi (w ++ [1]) := by
  have h' : (lo.1 + hi.1) * a.2 < a.1 * (lo.2 + hi.2) := less_iff.mp h
  obtain ⟨g, rfl⟩ : ∃ g, f = g + 1 := ⟨f - 1, by have := B.f3; omega⟩
  have h1 := B.hi1
  refine ⟨g, by omega, ?_, h', B.ah, ?_, ?_, ?_⟩
  · show hi.1 * (lo.2 + hi.2) = (lo.1 + hi.1) * hi.2 + 1
    have := B.det
    rw [Nat.mul_add, Nat.add_mul]
    omega
  · show a.1 + a.2 + 3 ≤ g + (lo.1 + hi.1 + (lo.2 + hi.2) + hi.1 + hi.2)
    have := B.fs
    unfold msum at this
    omega
  · have := B.wl
    rw [List.length_append]
    show w.length + 1 + g ≤ a.1 + a.2 + 1
    omega
  · rw [← B.eq, List.append_assoc]
    refine congrArg (w ++ ·) ?_
    show 1 :: wayTo a g (mid lo hi) hi = (if less (mid lo hi) a = true then 1 :: wayTo a g (mid lo hi) hi else _)
    rw [if_pos h]
theorem Wto.left {a : Frac} {f : Nat} {lo hi : Frac} {w : List Nat} (B : Wto a f lo hi w) (hn : less (mid lo hi) a = false) (h : less a (mid lo hi) = true) :
    ∃ g, g < f ∧ Wto a g lo (mid lo hi) (w ++ [0]) := by
  have h' : a.1 * (lo.2 + hi.2) < (lo.1 + hi.1) * a.2 := less_iff.mp h
  obtain ⟨g, rfl⟩ : ∃ g, f = g + 1 := ⟨f - 1, by have := B.f3; omega⟩
  have l2 := B.lo2
  refine ⟨g, by omega, ?_, B.la, h', ?_, ?_, ?_⟩
  · show (lo.1 + hi.1) * lo.2 = lo.1 * (lo.2 + hi.2) + 1
    have := B.det
    rw [Nat.mul_add, Nat.add_mul]
    omega
  · show a.1 + a.2 + 3 ≤ g + (lo.1 + lo.2 + (lo.1 + hi.1) + (lo.2 + hi.2))
    have := B.fs
    unfold msum at this
    omega
  · have := B.wl
    rw [List.length_append]
    show w.length + 1 + g ≤ a.1 + a.2 + 1
    omega
  · rw [← B.eq, List.append_assoc]
    refine congrArg (w ++ ·) ?_
    show 0 :: wayTo a g lo (mid lo hi) = (if less (mid lo hi) a = true then _ else if less a (mid lo hi) = true then 0 :: wayTo a g lo (mid lo hi) else _)
    rw [if_neg (by rw [hn]; decide), if_pos h]
theorem Wto.done {a : Frac} {f : Nat} {lo hi : Frac} {w : List Nat} (B : Wto a f lo hi w) (hn : less (mid lo hi) a = false) (h : less a (mid lo hi) = false) :
    w = wayTo a (a.1 + a.2 + 1) (0, 1) (1, 0) := by
  obtain ⟨g, rfl⟩ : ∃ g, f = g + 1 := ⟨f - 1, by have := B.f3; omega⟩
  have e : wayTo a (g + 1) lo hi = [] := by
    show (if less (mid lo hi) a = true then _ else if less a (mid lo hi) = true then _ else []) = []
    rw [if_neg (by rw [hn]; decide), if_neg (by rw [h]; decide)]
  rw [← B.eq, e, List.append_nil]
end Cs
namespace Cs
open Sq69

/-! ## Cones -/
theorem single_iff {p : Point} : single p = true ↔ Nat.gcd p.1.natAbs p.2.natAbs = 1 := by
  unfold single
  exact beq_iff_eq

structure Good (c : Cone) : Prop where
  su : single c.u = true
  sv : single c.v = true
  pos : 0 < det c.u c.v
  u1 : c.u.1.natAbs ≤ 40
  u2 : c.u.2.natAbs ≤ 40
  v1 : c.v.1.natAbs ≤ 40
  v2 : c.v.2.natAbs ≤ 40

theorem natAbs_mul_le {a b : Int} {k l : Nat} (h1 : a.natAbs ≤ k) (h2 : b.natAbs ≤ l) : (a * b).natAbs ≤ k * l := by
  rw [Int.natAbs_mul]
  exact Nat.mul_le_mul h1 h2
theorem Good.n_le {c : Cone} (G : Good c) : det c.u c.v ≤ 3200 := by
  have h1 := natAbs_mul_le G.u1 G.v2
  have h2 := natAbs_mul_le G.u2 G.v1
  unfold det
  omega

theorem bezout_gcd : ∀ (f : Nat) (x y : Int), y.natAbs < f → (bezout f x y).1 * x + (bezout f x y).2 * y = (Nat.gcd x.natAbs y.natAbs : Int)
  | 0, _, _, h => absurd h (Nat.not_lt_zero _)
  | f + 1, x, y, h => by
    by_cases e : y = 0
    · subst e
      have e1 : bezout (f + 1) x 0 = (if 0 ≤ x then 1 else -1, 0) := by
        show (if (0 : Int) = 0 then _ else _) = _
        rw [if_pos rfl]
      rw [e1]
      show (if 0 ≤ x then 1 else -1) * x + 0 * 0 = (Nat.gcd x.natAbs 0 : Int)
      rw [Nat.gcd_zero_right]
      split <;> omega
    · have e1 : bezout (f + 1) x y = ((bezout f y (x % y)).2, (bezout f y (x % y)).1 - x / y * (bezout f y (x % y)).2) := by
        show (if y = 0 then _ else _) = _
        rw [if_neg e]
      have hl : (x % y).natAbs < y.natAbs := by
        have h1 := Int.emod_nonneg x e
        have h2 := Int.emod_lt x e
        omega
      have ih := bezout_gcd f y (x % y) (by omega)
      have hg : Nat.gcd y.natAbs (x % y).natAbs = Nat.gcd x.natAbs y.natAbs := by
        have : Int.gcd y (x % y) = Int.gcd x y := by
          rw [Int.emod_def, Int.gcd_sub_mul_left_right, Int.gcd_comm]
        exact this
      rw [e1, ← hg, ← ih]
      have := Int.emod_add_mul_ediv x y
      grind

def wofC (c : Cone) : Point := (-(bezout (c.u.1.natAbs + c.u.2.natAbs + 2) c.u.1 c.u.2).2, (bezout (c.u.1.natAbs + c.u.2.natAbs + 2) c.u.1 c.u.2).1)
theorem second_eq (c : Cone) : c.second = sub (wofC c) (scale (det (wofC c) c.v / det c.u c.v) c.u) := rfl
def share (c : Cone) : Int := det c.second c.v

theorem Good.wof {c : Cone} (G : Good c) : det c.u (wofC c) = 1 := by
  have h := bezout_gcd (c.u.1.natAbs + c.u.2.natAbs + 2) c.u.1 c.u.2 (by omega)
  rw [single_iff.mp G.su] at h
  unfold det wofC
  grind
theorem Good.sec {c : Cone} (G : Good c) : det c.u c.second = 1 := by
  have h := G.wof
  rw [second_eq]
  unfold det sub scale at *
  grind
theorem Good.share_eq {c : Cone} (_ : Good c) : share c = det (wofC c) c.v % det c.u c.v := by
  unfold share
  rw [second_eq, Int.emod_def]
  unfold det sub scale
  grind
theorem Good.share_nn {c : Cone} (G : Good c) : 0 ≤ share c := by
  rw [G.share_eq]
  exact Int.emod_nonneg _ (by have := G.pos; omega)
theorem Good.share_lt {c : Cone} (G : Good c) : share c < det c.u c.v := by
  rw [G.share_eq]
  exact Int.emod_lt_of_pos _ G.pos
/-- any v is told by two points whose det is 1 -/
theorem by_two {a b v : Point} (h : det a b = 1) : v.1 = det a v * b.1 - det b v * a.1 ∧ v.2 = det a v * b.2 - det b v * a.2 := by
  unfold det at *
  constructor <;> grind
theorem Good.v_eq1 {c : Cone} (G : Good c) : c.v.1 + share c * c.u.1 = det c.u c.v * c.second.1 := by
  have := (by_two (v := c.v) G.sec).1
  unfold share
  omega
theorem Good.v_eq2 {c : Cone} (G : Good c) : c.v.2 + share c * c.u.2 = det c.u c.v * c.second.2 := by
  have := (by_two (v := c.v) G.sec).2
  unfold share
  omega
theorem Good.uniq {c : Cone} (G : Good c) {i : Int} (h0 : 0 ≤ i) (hl : i < det c.u c.v) (h1 : (c.v.1 + i * c.u.1) % det c.u c.v = 0) (h2 : (c.v.2 + i * c.u.2) % det c.u c.v = 0) : i = share c := by
  have d1 := Int.dvd_of_emod_eq_zero h1
  have d2 := Int.dvd_of_emod_eq_zero h2
  obtain ⟨x, hx⟩ := d1
  obtain ⟨y, hy⟩ := d2
  have e1 := G.v_eq1
  have e2 := G.v_eq2
  have hs := G.sec
  have hd : i - share c = det c.u c.v * (det (x - c.second.1, y - c.second.2) c.second) := by
    have k1 : (i - share c) * c.u.1 = det c.u c.v * (x - c.second.1) := by grind
    have k2 : (i - share c) * c.u.2 = det c.u c.v * (y - c.second.2) := by grind
    have : (i - share c) * det c.u c.second = det c.u c.v * (det (x - c.second.1, y - c.second.2) c.second) := by
      generalize det c.u c.v = n at *
      unfold det
      grind
    rw [hs] at this
    omega
  have a1 := G.share_nn
  have a2 := G.share_lt
  generalize det (x - c.second.1, y - c.second.2) c.second = t at hd
  generalize det c.u c.v = n at *
  have : t = 0 := by
    rcases Int.lt_trichotomy t 0 with h | h | h
    · have : n * t ≤ n * (-1) := Int.mul_le_mul_of_nonneg_left (by omega) (by omega)
      omega
    · exact h
    · have : n * 1 ≤ n * t := Int.mul_le_mul_of_nonneg_left (by omega) (by omega)
      omega
  rw [this] at hd
  omega
theorem Good.divs1 {c : Cone} (G : Good c) : (c.v.1 + share c * c.u.1) % det c.u c.v = 0 := by
  rw [G.v_eq1]
  exact Int.mul_emod_right _ _
theorem Good.divs2 {c : Cone} (G : Good c) : (c.v.2 + share c * c.u.2) % det c.u c.v = 0 := by
  rw [G.v_eq2]
  exact Int.mul_emod_right _ _
theorem Good.quo1 {c : Cone} (G : Good c) : (c.v.1 + share c * c.u.1) / det c.u c.v = c.second.1 := by
  rw [G.v_eq1]
  exact Int.mul_ediv_cancel_left _ (by have := G.pos; omega)
theorem Good.quo2 {c : Cone} (G : Good c) : (c.v.2 + share c * c.u.2) / det c.u c.v = c.second.2 := by
  rw [G.v_eq2]
  exact Int.mul_ediv_cancel_left _ (by have := G.pos; omega)

/-! ### the numbers, the chain -/
/-- over by part, rounded up -/
def cl (m n : Int) : Int := (m + n - 1) / n
theorem cl_spec {m n : Int} (hn : 0 < n) : 0 ≤ cl m n * n - m ∧ cl m n * n - m < n := by
  unfold cl
  have h1 := Int.emod_nonneg (m + n - 1) (show n ≠ 0 by omega)
  have h2 := Int.emod_lt_of_pos (m + n - 1) hn
  have h3 := Int.emod_add_mul_ediv (m + n - 1) n
  have h4 : n * ((m + n - 1) / n) = (m + n - 1) / n * n := Int.mul_comm _ _
  omega
theorem up_cl {m n : Int} (hn : 0 < n) : up m n = cl m n := by
  unfold up
  have h1 := Int.emod_nonneg (-m) (show n ≠ 0 by omega)
  have h2 := Int.emod_lt_of_pos (-m) hn
  have h3 := Int.emod_add_mul_ediv (-m) n
  have h4 := cl_spec (m := m) hn
  have h5 : n * (-m / n) = -(-(-m / n) * n) := by grind
  generalize -(-m / n) = x at *
  generalize cl m n = y at *
  have h6 : (x - y) * n < n := by
    have : (x - y) * n = x * n - y * n := Int.sub_mul _ _ _
    omega
  have h7 : -n < (x - y) * n := by
    have : (x - y) * n = x * n - y * n := Int.sub_mul _ _ _
    omega
  have : x - y = 0 := by
    rcases Int.lt_trichotomy (x - y) 0 with h | h | h
    · have : (x - y) * n ≤ (-1) * n := Int.mul_le_mul_of_nonneg_right (by omega) (by omega)
      omega
    · exact h
    · have : 1 * n ≤ (x - y) * n := Int.mul_le_mul_of_nonneg_right (by omega) (by omega)
      omega
  omega
/-- the numbers: by a number above how many -/
def nums : Nat → Int → Int → List Int
  | 0, _, _ => []
  | f + 1, over, part => if 0 < part then cl over part :: nums f part (cl over part * part - over) else []
theorem nums_zero {f : Nat} {over part : Int} (h : part ≤ 0) : nums f over part = [] := by
  cases f with
  | zero => rfl
  | succ f =>
    show (if 0 < part then _ else []) = []
    rw [if_neg (by omega)]
theorem nums_pos {f : Nat} {over part : Int} (h : 0 < part) : nums (f + 1) over part = cl over part :: nums f part (cl over part * part - over) := if_pos h
/-- more than enough is as good -/
theorem nums_more : ∀ (f g : Nat) (over part : Int), part.toNat ≤ f → part.toNat ≤ g → nums f over part = nums g over part
  | 0, g, over, part, h, _ => by rw [nums_zero (by omega), nums_zero (by omega)]
  | f + 1, 0, over, part, _, h => by rw [nums_zero (by omega), nums_zero (by omega)]
  | f + 1, g + 1, over, part, h1, h2 => by
    by_cases hp : 0 < part
    · have k := cl_spec (m := over) hp
      rw [nums_pos hp, nums_pos hp, nums_more f g part _ (by omega) (by omega)]
    · rw [nums_zero (by omega), nums_zero (by omega)]
theorem nums_len : ∀ (f : Nat) (over part : Int), (nums f over part).length ≤ f
  | 0, _, _ => Nat.le_refl _
  | f + 1, over, part => by
    show (if 0 < part then _ else ([] : List Int)).length ≤ f + 1
    split
    · rw [List.length_cons]
      have := nums_len f part (cl over part * part - over)
      omega
    · exact Nat.zero_le _
theorem cl_bnd {m n k : Int} (hn : 0 < n) (hm : 0 < m) (hk : m ≤ k) : 0 ≤ cl m n ∧ cl m n ≤ k := by
  have h := cl_spec (m := m) hn
  generalize cl m n = y at *
  constructor
  · rcases Int.lt_or_le y 0 with q | q
    · have : y * n ≤ 0 * n := Int.mul_le_mul_of_nonneg_right (by omega) (by omega)
      omega
    · exact q
  · rcases Int.lt_or_le m y with q | q
    · have : (m + 1) * n ≤ y * n := Int.mul_le_mul_of_nonneg_right (by omega) (by omega)
      have h3 : (m + 1) * n = m * n + n := by grind
      have h4 : m * 1 ≤ m * n := Int.mul_le_mul_of_nonneg_left (by omega) (by omega)
      omega
    · omega
theorem nums_bnd {k : Int} : ∀ (f : Nat) (over part : Int), 0 < over → over ≤ k → part ≤ k → ∀ x ∈ nums f over part, 0 ≤ x ∧ x ≤ k
  | 0, _, _, _, _, _ => fun x hx => nomatch hx
  | f + 1, over, part, h0, h1, h2 => by
    intro x hx
    by_cases hp : 0 < part
    · rw [nums_pos hp] at hx
      have k1 := cl_spec (m := over) hp
      rcases List.mem_cons.mp hx with e | hx
      · rw [e]
        exact cl_bnd hp h0 h1
      · exact nums_bnd f part _ hp h2 (by omega) x hx
    · rw [nums_zero (by omega)] at hx
      exact nomatch hx

def nxt (k : Int) (a b : Point) : Point := (k * b.1 - a.1, k * b.2 - a.2)
def chain : Point → Point → List Int → List Point
  | _, _, [] => []
  | a, b, k :: ks => nxt k a b :: chain b (nxt k a b) ks
theorem det_nxt {k : Int} {a b : Point} (h : det a b = 1) : det b (nxt k a b) = 1 := by
  unfold det nxt at *
  grind
theorem det_nxt_v {k : Int} {a b v : Point} : det (nxt k a b) v = k * det b v - det a v := by
  unfold det nxt
  grind
theorem eq_of_zero {a b v : Point} (h : det a b = 1) (hv : single v = true) (hp : 0 < det a v) (h0 : det b v = 0) : b = v := by
  obtain ⟨e1, e2⟩ := by_two (v := v) h
  rw [h0] at e1 e2
  have hg := single_iff.mp hv
  have d : (det a v).natAbs ∣ Nat.gcd v.1.natAbs v.2.natAbs := Nat.dvd_gcd (Int.natAbs_dvd_natAbs.mpr ⟨b.1, by omega⟩) (Int.natAbs_dvd_natAbs.mpr ⟨b.2, by omega⟩)
  rw [hg] at d
  have := Nat.dvd_one.mp d
  have e3 : det a v = 1 := by omega
  rw [e3] at e1 e2
  exact Prod.ext (by omega) (by omega)
theorem on_eq {v : Point} (hv : single v = true) : ∀ (f g : Nat) (a b : Point), det a b = 1 → 0 < det a v → 0 ≤ det b v → (det b v).toNat < f → (det b v).toNat ≤ g →
    on_ v f a b = b :: chain a b (nums g (det a v) (det b v))
  | 0, _, _, _, _, _, _, h, _ => absurd h (Nat.not_lt_zero _)
  | f + 1, g, a, b, hab, hp, hb, hf, hg => by
    by_cases e : b = v
    · have h0 : det b v = 0 := by
        rw [e]
        unfold det
        rw [Int.mul_comm]
        omega
      rw [h0, nums_zero (Int.le_refl _)]
      show b :: (if b = v then [] else _) = [b]
      rw [if_pos e]
    · have h0 : 0 < det b v := by
        rcases Int.lt_or_le 0 (det b v) with h | h
        · exact h
        · exact absurd (eq_of_zero hab hv hp (by omega)) e
      obtain ⟨g, rfl⟩ : ∃ x, g = x + 1 := ⟨g - 1, by omega⟩
      rw [nums_pos h0]
      have hk := cl_spec (m := det a v) h0
      have ed : sub (scale (up (det a v) (det b v)) b) a = nxt (cl (det a v) (det b v)) a b := by
        rw [up_cl h0]
        rfl
      have e2 : det (nxt (cl (det a v) (det b v)) a b) v = cl (det a v) (det b v) * det b v - det a v := det_nxt_v
      show b :: (if b = v then [] else on_ v f b (sub (scale (up (det a v) (det b v)) b) a)) = b :: nxt _ a b :: chain b (nxt _ a b) _
      rw [if_neg e, ed, on_eq hv f g b _ (det_nxt hab) h0 (by rw [e2]; omega) (by rw [e2]; omega) (by rw [e2]; omega), e2]
def numsOf (c : Cone) : List Int := nums (share c).toNat (det c.u c.v) (share c)
theorem Good.least_eq {c : Cone} (G : Good c) : Cone.least c = c.u :: c.second :: chain c.u c.second (numsOf c) := by
  have h1 := G.share_nn
  have h2 := G.share_lt
  unfold share at h1 h2
  show c.u :: on_ c.v (det c.u c.v).toNat c.u c.second = _
  rw [on_eq G.sv _ (det c.second c.v).toNat _ _ G.sec G.pos h1 (by omega) (Nat.le_refl _)]
  rfl
theorem numbers_chain : ∀ (ks : List Int) (a b : Point), det a b = 1 → numbers (a :: b :: chain a b ks) = ks
  | [], _, _, _ => rfl
  | k :: ks, a, b, h => by
    show (if b.1 ≠ 0 then (a.1 + (k * b.1 - a.1)) / b.1 else (a.2 + (k * b.2 - a.2)) / b.2) :: numbers (b :: nxt k a b :: chain b (nxt k a b) ks) = k :: ks
    rw [numbers_chain ks b _ (det_nxt h)]
    refine congrArg (· :: ks) ?_
    split
    · next q =>
      have : a.1 + (k * b.1 - a.1) = k * b.1 := by omega
      rw [this, Int.mul_ediv_cancel _ q]
    · next q =>
      have q1 : b.1 = 0 := Decidable.of_not_not q
      have q2 : b.2 ≠ 0 := by
        intro z
        unfold det at h
        rw [q1, z] at h
        omega
      have : a.2 + (k * b.2 - a.2) = k * b.2 := by omega
      rw [this, Int.mul_ediv_cancel _ q2]
theorem Good.numbers_eq {c : Cone} (G : Good c) : numbers (Cone.least c) = numsOf c := by
  rw [G.least_eq, numbers_chain _ _ _ G.sec]
theorem chain_len : ∀ (ks : List Int) (a b : Point), (chain a b ks).length = ks.length
  | [], _, _ => rfl
  | k :: ks, a, b => by
    show (chain b (nxt k a b) ks).length + 1 = ks.length + 1
    rw [chain_len]
theorem Good.nums_le {c : Cone} (G : Good c) : (numsOf c).length ≤ 3200 := by
  have h1 := Cs.nums_len (share c).toNat (det c.u c.v) (share c)
  have := G.n_le
  have := G.share_lt
  show (nums _ _ _).length ≤ 3200
  omega
theorem Good.least_len {c : Cone} (G : Good c) : (Cone.least c).length = (numsOf c).length + 2 := by
  rw [G.least_eq, List.length_cons, List.length_cons, chain_len]
end Cs
namespace Cs
open Sq69

theorem Good.turned {c : Cone} (G : Good c) : Good c.turned := by
  refine ⟨?_, ?_, ?_, G.v2, G.v1, G.u2, G.u1⟩
  · rw [single_iff, Nat.gcd_comm]
    exact single_iff.mp G.sv
  · rw [single_iff, Nat.gcd_comm]
    exact single_iff.mp G.su
  · have := G.pos
    unfold det Cone.turned at *
    dsimp only
    grind
theorem det_turned (c : Cone) : det c.turned.u c.turned.v = det c.u c.v := by
  unfold det Cone.turned
  dsimp only
  grind
theorem Good.dual {c : Cone} (G : Good c) : Good c.dual := by
  refine ⟨?_, ?_, ?_, G.v2, ?_, ?_, G.u1⟩
  · rw [single_iff, Nat.gcd_comm]
    show Nat.gcd (-c.v.1).natAbs c.v.2.natAbs = 1
    rw [Int.natAbs_neg]
    exact single_iff.mp G.sv
  · rw [single_iff, Nat.gcd_comm]
    show Nat.gcd c.u.1.natAbs (-c.u.2).natAbs = 1
    rw [Int.natAbs_neg]
    exact single_iff.mp G.su
  · have := G.pos
    unfold det Cone.dual at *
    dsimp only
    grind
  · show (-c.v.1).natAbs ≤ 40
    rw [Int.natAbs_neg]
    exact G.v1
  · show (-c.u.2).natAbs ≤ 40
    rw [Int.natAbs_neg]
    exact G.u2
theorem good_fresh : Good Sq69.fresh := ⟨by decide, by decide, by decide, by decide, by decide, by decide, by decide⟩

/-! ### alike -/
theorem kind_eq (c : Cone) : Cone.kind c = (det c.u c.v, share c) := rfl
/-- q times the other q leaves 1 -/
theorem Good.inv {c : Cone} (G : Good c) : ∃ t, share c * share c.turned = 1 + det c.u c.v * t := by
  have e1 := G.v_eq1
  have e2 := G.v_eq2
  have f1 := G.turned.v_eq1
  have f2 := G.turned.v_eq2
  rw [det_turned] at f1 f2
  have g1 : c.turned.v.1 = c.u.2 := rfl
  have g2 : c.turned.v.2 = c.u.1 := rfl
  have g3 : c.turned.u.1 = c.v.2 := rfl
  have g4 : c.turned.u.2 = c.v.1 := rfl
  rw [g1, g3] at f1
  rw [g2, g4] at f2
  have hs := G.sec
  generalize share c.turned = q' at *
  generalize share c = q at *
  generalize c.turned.second = w' at *
  generalize det c.u c.v = n at *
  -- (1 - q q') u = n (..): times second
  have k1 : (1 - q * q') * c.u.1 = n * (w'.2 - q' * c.second.1) := by grind
  have k2 : (1 - q * q') * c.u.2 = n * (w'.1 - q' * c.second.2) := by grind
  refine ⟨-((w'.2 - q' * c.second.1) * c.second.2 - (w'.1 - q' * c.second.2) * c.second.1), ?_⟩
  unfold det at hs
  have k3 : (1 - q * q') * (c.u.1 * c.second.2 - c.u.2 * c.second.1) = n * ((w'.2 - q' * c.second.1) * c.second.2 - (w'.1 - q' * c.second.2) * c.second.1) := by grind
  rw [hs] at k3
  grind
theorem near_eq {n t x y : Int} (h0 : 0 ≤ x) (h1 : x < n) (h2 : 0 ≤ y) (h3 : y < n) (e : x - y = n * t) : x = y := by
  have : t = 0 := by
    rcases Int.lt_trichotomy t 0 with h | h | h
    · have : n * t ≤ n * (-1) := Int.mul_le_mul_of_nonneg_left (by omega) (by omega)
      omega
    · exact h
    · have : n * 1 ≤ n * t := Int.mul_le_mul_of_nonneg_left (by omega) (by omega)
      omega
  rw [this] at e
  omega
/-- two inverses of one are one -/
theorem inv_uniq {n q a b s t : Int} (ha0 : 0 ≤ a) (ha : a < n) (hb0 : 0 ≤ b) (hb : b < n) (h1 : q * a = 1 + n * s) (h2 : q * b = 1 + n * t) : a = b := by
  refine near_eq (n := n) (t := (a * t - b * s) * (-1)) ha0 ha hb0 hb ?_
  grind
theorem turned_iff {c d : Cone} (G : Good c) (D : Good d) (hn : det c.u c.v = det d.u d.v) : (share c.turned = share d) ↔ (share c = share d.turned) := by
  obtain ⟨s, hs⟩ := G.inv
  obtain ⟨t, ht⟩ := D.inv
  have a1 := G.share_nn
  have a2 := G.share_lt
  have b1 := D.share_nn
  have b2 := D.share_lt
  have c1 := G.turned.share_nn
  have c2 := G.turned.share_lt
  have d1 := D.turned.share_nn
  have d2 := D.turned.share_lt
  rw [det_turned] at c2 d2
  rw [← hn] at ht b2 d2
  constructor
  · intro e
    rw [e] at hs
    exact inv_uniq (q := share d) a1 a2 d1 d2 (by rw [Int.mul_comm]; exact hs) ht
  · intro e
    rw [e] at hs
    exact inv_uniq (q := share d.turned) c1 c2 b1 b2 hs (by rw [Int.mul_comm]; exact ht)
/-- as the program asks it -/
def likeP (c d : Cone) : Bool := if det c.u c.v = det d.u d.v then (decide (share c = share d) || decide (share c = share d.turned)) else false
theorem like_eq {c d : Cone} (G : Good c) (D : Good d) : likeP c d = alike c d := by
  unfold likeP alike
  rw [kind_eq, kind_eq, kind_eq, det_turned]
  by_cases hn : det c.u c.v = det d.u d.v
  · rw [if_pos hn, hn]
    have e := turned_iff G D hn
    by_cases h1 : share c = share d
    · rw [h1]
      simp
    · by_cases h2 : share c = share d.turned
      · rw [e.mpr h2]
        simp [h2]
      · have h3 : ¬ share c.turned = share d := fun z => h2 (e.mp z)
        simp [h1, h2, h3]
  · rw [if_neg hn]
    simp [hn]

/-! ### told -/
/-- neighbours, all of them between the ends: what is said of a list of points -/
def Rowed (u v : Point) : List Point → Prop
  | a :: b :: l => det a b = 1 ∧ 0 ≤ det u a ∧ 0 ≤ det a v ∧ 0 ≤ det u b ∧ 0 ≤ det b v ∧ Rowed u v (b :: l)
  | _ => True
theorem rowed_chain {u v : Point} : ∀ (f : Nat) (a b : Point), det a b = 1 → 0 ≤ det u a → det u a < det u b → 0 ≤ det b v → det b v < det a v →
    Rowed u v (a :: b :: chain a b (nums f (det a v) (det b v)))
  | 0, a, b, h, h1, h2, h3, h4 => ⟨h, h1, by omega, by omega, h3, trivial⟩
  | f + 1, a, b, h, h1, h2, h3, h4 => by
    by_cases hp : 0 < det b v
    · rw [nums_pos hp]
      have k := cl_spec (m := det a v) hp
      have e2 : det (nxt (cl (det a v) (det b v)) a b) v = cl (det a v) (det b v) * det b v - det a v := det_nxt_v
      have e3 : det u (nxt (cl (det a v) (det b v)) a b) = cl (det a v) (det b v) * det u b - det u a := by
        unfold det nxt
        grind
      have k2 : 2 ≤ cl (det a v) (det b v) := by
        rcases Int.lt_or_le (cl (det a v) (det b v)) 2 with q | q
        · have : cl (det a v) (det b v) * det b v ≤ 1 * det b v := Int.mul_le_mul_of_nonneg_right (by omega) (by omega)
          omega
        · exact q
      have k3 : 2 * det u b ≤ cl (det a v) (det b v) * det u b := Int.mul_le_mul_of_nonneg_right k2 (by omega)
      have ih := rowed_chain (u := u) (v := v) f b (nxt (cl (det a v) (det b v)) a b) (det_nxt h) (by omega) (by rw [e3]; omega) (by rw [e2]; omega) (by rw [e2]; omega)
      rw [e2] at ih
      exact ⟨h, h1, by omega, by omega, h3, ih⟩
    · rw [nums_zero (by omega)]
      exact ⟨h, h1, by omega, by omega, h3, trivial⟩
theorem det_self (p : Point) : det p p = 0 := by
  unfold det
  rw [Int.mul_comm]
  omega
theorem Good.rowed {c : Cone} (G : Good c) : Rowed c.u c.v (Cone.least c) := by
  rw [G.least_eq]
  have h1 := G.share_nn
  have h2 := G.share_lt
  exact rowed_chain _ _ _ G.sec (by rw [det_self]; omega) (by rw [det_self, G.sec]; omega) h1 h2
theorem Rowed.at {u v : Point} : ∀ {l : List Point} {i : Nat} {a b : Point}, Rowed u v l → l[i]? = some a → l[i + 1]? = some b →
    det a b = 1 ∧ 0 ≤ det u a ∧ 0 ≤ det a v ∧ 0 ≤ det u b ∧ 0 ≤ det b v
  | [], _, _, _, _, h1, _ => by simp at h1
  | [_], 0, _, _, _, _, h2 => by simp at h2
  | [_], i + 1, _, _, _, h1, _ => by simp at h1
  | x :: y :: l, 0, a, b, R, h1, h2 => by
    have e1 : x = a := Option.some.inj h1
    have e2 : y = b := Option.some.inj h2
    subst e1 e2
    obtain ⟨r1, r2, r3, r4, r5, _⟩ := R
    exact ⟨r1, r2, r3, r4, r5⟩
  | x :: y :: l, i + 1, a, b, R, h1, h2 => Rowed.at (l := y :: l) (i := i) R.2.2.2.2.2 h1 h2
theorem has_of {c : Cone} {a b p : Point} (h : det a b = 1 ∧ 0 ≤ det c.u a ∧ 0 ≤ det a c.v ∧ 0 ≤ det c.u b ∧ 0 ≤ det b c.v) (h1 : 0 ≤ det a p) (h2 : 0 ≤ det p b) : Cone.has c p = true := by
  obtain ⟨hab, ua, av, ub, bv⟩ := h
  have e1 : det c.u p = det p b * det c.u a + det a p * det c.u b := by
    obtain ⟨x, y⟩ := by_two (v := p) hab
    unfold det at *
    grind
  have e2 : det p c.v = det p b * det a c.v + det a p * det b c.v := by
    obtain ⟨x, y⟩ := by_two (v := p) hab
    unfold det at *
    grind
  unfold Cone.has
  rw [Bool.and_eq_true, decide_eq_true_iff, decide_eq_true_iff, e1, e2]
  exact ⟨Int.add_nonneg (Int.mul_nonneg h2 ua) (Int.mul_nonneg h1 ub), Int.add_nonneg (Int.mul_nonneg h2 av) (Int.mul_nonneg h1 bv)⟩
/-- as the program asks it, at the i-th place -/
def fits (l : List Point) (p : Point) (i : Nat) : Prop := ∃ a b, l[i]? = some a ∧ l[i + 1]? = some b ∧ 0 ≤ det p b ∧ 0 ≤ det a p
/-- what the call is answered -/
def toldOut (c : Cone) (p : Point) : List Int := if Cone.has c p = false then [0] else match Cone.told c p with
  | none => [0]
  | some z => [1, (z.1 : Int), z.2.1, z.2.2]
theorem told_find {c : Cone} {p : Point} {i : Nat} {a b : Point} (ha : (Cone.least c)[i]? = some a) (hb : (Cone.least c)[i + 1]? = some b) (h1 : 0 ≤ det p b) (h2 : 0 ≤ det a p) (hn : ∀ j, j < i → ¬ fits (Cone.least c) p j) :
    Cone.told c p = some (i, (det p b, det a p)) := by
  have hl : i + 1 < (Cone.least c).length := (List.getElem?_eq_some_iff.mp hb).1
  have hf : (List.range ((Cone.least c).length - 1)).find? (fun i => decide (0 ≤ det (((Cone.least c)[i]?).getD c.u) p) && decide (0 ≤ det p (((Cone.least c)[i + 1]?).getD c.v))) = some i := by
    rw [List.find?_range_eq_some]
    refine ⟨?_, List.mem_range.mpr (by omega), fun j hj => ?_⟩
    · rw [ha, hb]
      show (decide (0 ≤ det a p) && decide (0 ≤ det p b)) = true
      rw [decide_eq_true h2, decide_eq_true h1]
      rfl
    · have k1 : (Cone.least c)[j]? = some ((Cone.least c)[j]'(by omega)) := List.getElem?_eq_getElem _
      have k2 : (Cone.least c)[j + 1]? = some ((Cone.least c)[j + 1]'(by omega)) := List.getElem?_eq_getElem _
      rw [k1, k2]
      show (!(decide (0 ≤ det ((Cone.least c)[j]'(by omega)) p) && decide (0 ≤ det p ((Cone.least c)[j + 1]'(by omega))))) = true
      rw [Bool.not_eq_true', Bool.and_eq_false_iff, decide_eq_false_iff_not, decide_eq_false_iff_not]
      have := hn j hj
      by_cases q : 0 ≤ det ((Cone.least c)[j]'(by omega)) p
      · exact .inr fun z => this ⟨_, _, k1, k2, z, q⟩
      · exact .inl q
  show ((List.range ((Cone.least c).length - 1)).find? _).map _ = _
  rw [hf]
  show some (i, (det p (((Cone.least c)[i + 1]?).getD c.v), det (((Cone.least c)[i]?).getD c.u) p)) = _
  rw [ha, hb]
  rfl
theorem toldOut_some {c : Cone} (G : Good c) {p : Point} {i : Nat} {a b : Point} (ha : (Cone.least c)[i]? = some a) (hb : (Cone.least c)[i + 1]? = some b) (h1 : 0 ≤ det p b) (h2 : 0 ≤ det a p) (hn : ∀ j, j < i → ¬ fits (Cone.least c) p j) :
    toldOut c p = [1, (i : Int), det p b, det a p] := by
  unfold toldOut
  rw [has_of (G.rowed.at ha hb) h2 h1, if_neg (by decide), told_find ha hb h1 h2 hn]
theorem toldOut_none {c : Cone} {p : Point} (hn : ∀ j, j < (Cone.least c).length - 1 → ¬ fits (Cone.least c) p j) : toldOut c p = [0] := by
  have hf : (List.range ((Cone.least c).length - 1)).find? (fun i => decide (0 ≤ det (((Cone.least c)[i]?).getD c.u) p) && decide (0 ≤ det p (((Cone.least c)[i + 1]?).getD c.v))) = none := by
    rw [List.find?_range_eq_none]
    intro j hj
    have k1 : (Cone.least c)[j]? = some ((Cone.least c)[j]'(by omega)) := List.getElem?_eq_getElem _
    have k2 : (Cone.least c)[j + 1]? = some ((Cone.least c)[j + 1]'(by omega)) := List.getElem?_eq_getElem _
    rw [k1, k2]
    show (!(decide (0 ≤ det ((Cone.least c)[j]'(by omega)) p) && decide (0 ≤ det p ((Cone.least c)[j + 1]'(by omega))))) = true
    rw [Bool.not_eq_true', Bool.and_eq_false_iff, decide_eq_false_iff_not, decide_eq_false_iff_not]
    have := hn j hj
    by_cases q : 0 ≤ det ((Cone.least c)[j]'(by omega)) p
    · exact .inr fun z => this ⟨_, _, k1, k2, z, q⟩
    · exact .inl q
  have ht : Cone.told c p = none := by
    show ((List.range ((Cone.least c).length - 1)).find? _).map _ = _
    rw [hf]
    rfl
  unfold toldOut
  rw [ht]
  split <;> rfl
end Cs
namespace Cs
open PySem PySem.Spec PyProof.Rows L2 Evl

/-! ## The text by places; what each def is promised to do -/
def top (i : Nat) : Stmt := PySem.Challenge.pw_conesails_s01_answers.main.body.getD i (.Pass ⟨0, 0, 0, 0⟩)

/-- what a def is asked: of arguments and heap, what its answer is: R; all that was tracked stands -/
abbrev Pre := List V → Hp → (V → Hp → Prop) → Prop
def spG (pre : Pre) : Sp := fun vs H Q _ => ∃ R, pre vs H R ∧ ∀ v H', Ex H H' → R v H' → Q v H'

/-- a def of the program's that keeps its promise -/
structure Has (P : Program) (w : World) (K : PySem.W.Frag) (mg : Str → Option Value) (base : Heap) (k : Nat) (x : Str) (ps : List Str) (pre : Pre) : Prop where
  ex : ∃ (f : Addr) (fd : FuncData), mg x = some (.ref f) ∧ PySem.W.keepIn K (.ref f) = true ∧ Binds K fd ps [] ∧ FnOk P w K mg base CX0 k f fd ps (spG pre) ∧ ∃ (oc : Value) (od : Option Addr) (osl : Array (Option Value)), K.lookup f = some ⟨oc, od, .func fd, osl⟩
/-- a def of the program's as the top has left it -/
structure Df (K : PySem.W.Frag) (mg : Str → Option Value) (x : Str) (i : Nat) (ps : List Str) : Prop where
  ex : ∃ (f : Addr) (fd : FuncData), Fun K x x (top i) f fd ∧ mg x = some (.ref f) ∧ Binds K fd ps []

section
variable {P : Program} {w : World} {K : PySem.W.Frag} {mg : Str → Option Value} {base : Heap}
theorem Df.has {x : Str} {i k : Nat} {N ps : List Str} {pre : Pre} (D : Df K mg x i ps) (S : FnScope N ps (defScope (top i))) (len : ∀ vs H R, pre vs H R → vs.length = ps.length)
    (hbody : ∀ (f : Addr) (cdv : Value) (A : Around) (outer : List Env) (s : Shared) (H : Hp) (vs : List V) (R : V → Hp → Prop) (Q : VK) (E : XK), Room k (A.deeper (envOfC x (defScope (top i)) s.heap.objs.size f cdv)) → pre vs H R → (∀ v H', Ex H H' → R v H' → Q v H') →
      ∃ t, PSs (cxOf CX0 P w K mg base N x (defScope (top i)) f cdv A outer s H E).nox (defBody (top i)) t ∧ t { nx := fun _ H' => Q .non H', rt := Q } (start N vs) H) : Has P w K mg base (k + 1) x ps pre := by
  obtain ⟨f, fd, F, hm, hb⟩ := D.ex
  exact ⟨f, fd, hm, F.kp, hb, F.ok S (fun vs H Q E h => by obtain ⟨R, h, _⟩ := h; exact len _ _ _ h) fun cdv A outer s H vs Q E hr h => by
    obtain ⟨R, h, q⟩ := h
    exact hbody f cdv A outer s H vs R Q E hr h q, by
    obtain ⟨oc, od, _, _, _, _, _, _, osl, _, lk, _⟩ := F.ex
    exact ⟨oc, od, osl, lk⟩⟩
theorem Has.mono {x : Str} {j k : Nat} {ps : List Str} {pre : Pre} (F : Has P w K mg base j x ps pre) (h : j ≤ k) : Has P w K mg base k x ps pre := by
  obtain ⟨f, fd, a, b, c, d, e⟩ := F.ex
  exact ⟨f, fd, a, b, c, d.mono h, e⟩
end
section
variable {X : Cx}
theorem pe_has {x : Str} {p pos : Pos} {e : Expr} {es : List Expr} {k : Nat} {ps : List Str} {pre : Pre} {t : TA} (F : Has X.prog X.w X.K X.mg X.base k x ps pre) (hr : Room k X.A) (hg : Gl X x) (ha : PA X (e :: es) t)
    (hdb : (x == ("__debug__" : Str)) = false := by decide) (he : starEach (e :: es) X.env = (false, eval e X.env) :: starEach es X.env := by rfl) (hpl : (backTo pos (starEach es X.env)).any (·.1) = false := by rfl) :
    PE X (.Call (.Name x p) (e :: es) [] pos) (tCall (spG pre) [] E0 t) := by
  obtain ⟨f, fd, hm, hk, hb, F, _⟩ := F.ex
  exact pe_call F hr hg hm hk hb .nil pass0 ha hdb he hpl
end

/-! ### what is evaluated to what, told by a relation -/
def Er (te : TE) (σ : L2.St) (H : Hp) (R : V → Hp → Prop) : Prop := ∀ H1, Ex H H1 → ∀ Q : VK, (∀ v H2, Ex H1 H2 → R v H2 → Q v H2) → te σ H1 Q
section
variable {σ : L2.St} {H H' : Hp} {ta tb te : TE} {v z : V} {pre : Pre} {R : V → Hp → Prop} {tu tw tz : TS} {D : Ends}
theorem Er.mono (e : Ex H H') (h : Er te σ H R) : Er te σ H' R := fun H1 a Q q => h H1 (e.trans a) Q q
theorem Er.use {Q : VK} (h : Er te σ H R) (k : ∀ v H1, Ex H H1 → R v H1 → Q v H1) : te σ H Q := h H (Ex.refl H) Q k
theorem Ev.use {Q : VK} (h : Ev te σ H v) (k : ∀ H1, Ex H H1 → Q v H1) : te σ H Q := h H (Ex.refl H) Q k
/-- a call that gives back one value; one whose answer is told by R -/
theorem ev_has {E : XK} {t : TA} {vs : List V} (h : EvA t σ H vs) (hp : ∀ H1, Ex H H1 → pre vs H1 (fun x _ => x = z)) : Ev (tCall (spG pre) [] E t) σ H z := fun H1 e Q q =>
  h H1 e _ fun H2 e2 => ⟨_, by rw [List.append_nil]; exact hp H2 (e.trans e2), fun v H3 e3 r => by subst r; exact q H3 (e2.trans e3)⟩
theorem er_has {E : XK} {t : TA} {vs : List V} (h : EvA t σ H vs) (hp : ∀ H1, Ex H H1 → pre vs H1 R) : Er (tCall (spG pre) [] E t) σ H R := fun H1 e Q q =>
  h H1 e _ fun H2 e2 => ⟨_, by rw [List.append_nil]; exact hp H2 (e.trans e2), fun v H3 e3 r => q v H3 (e2.trans e3) r⟩
theorem q_asgR {i : Nat} (h : Er te σ H R) (k : ∀ v H1, Ex H H1 → R v H1 → tz D (σ.set i (some v)) H1) : tSeq (tAsg te (gName i)) tz D σ H := h.use k
theorem s_retR (h : Er te σ H R) (k : ∀ v H1, Ex H H1 → R v H1 → D.rt v H1) : tRet te D σ H := h.use k
theorem er_ev (h : Ev te σ H v) : Er te σ H (fun x _ => x = v) := fun H1 e Q q => h H1 e Q fun H2 e2 => q v H2 e2 rfl
theorem ev_glob : Ev (tC v) σ H v := ev_c
/-- a field -/
theorem ev_fld {K : PySem.W.Frag} {f : Str} {a C dx : Addr} {fs : List (Str × V)} (h : Ev te σ H (.ref a)) (ho : H a = some (.ins C dx fs)) (c : Cls K C) (n : NoAttr K C f) (l : fs.lookup f = some v) : Ev (tFld K te f) σ H v := fun H1 e Q q =>
  h H1 e _ fun H2 e2 => ⟨a, C, dx, fs, v, rfl, e2 _ _ (e _ _ ho), c, n, l, q H2 e2⟩
end

/-! ### points and what holds them -/
def PtAt (H : Hp) (a : Addr) (p : Sq69.Point) : Prop := H a = some (.tup [.int p.1, .int p.2])
theorem PtAt.ex {H H' : Hp} {a : Addr} {p : Sq69.Point} (h : PtAt H a p) (e : Ex H H') : PtAt H' a p := e _ _ h
/-- a value that is a point's tuple -/
def PtV (H : Hp) (v : V) (p : Sq69.Point) : Prop := ∃ a, v = .ref a ∧ PtAt H a p
theorem PtV.ex {H H' : Hp} {v : V} {p : Sq69.Point} (h : PtV H v p) (e : Ex H H') : PtV H' v p := by
  obtain ⟨a, rfl, h⟩ := h
  exact ⟨a, rfl, h.ex e⟩
/-- values that are points' tuples, one by one -/
def PtVs (H : Hp) : List V → List Sq69.Point → Prop
  | [], [] => True
  | v :: vs, p :: ps => PtV H v p ∧ PtVs H vs ps
  | _, _ => False
theorem PtVs.ex {H H' : Hp} (e : Ex H H') : ∀ {vs : List V} {ps : List Sq69.Point}, PtVs H vs ps → PtVs H' vs ps
  | [], [], h => h
  | _ :: _, _ :: _, h => ⟨h.1.ex e, PtVs.ex e h.2⟩
  | [], _ :: _, h => h.elim
  | _ :: _, [], h => h.elim
theorem PtVs.len {H : Hp} : ∀ {vs : List V} {ps : List Sq69.Point}, PtVs H vs ps → vs.length = ps.length
  | [], [], _ => rfl
  | _ :: _, _ :: _, h => congrArg (· + 1) (PtVs.len h.2)
  | [], _ :: _, h => h.elim
  | _ :: _, [], h => h.elim
theorem PtVs.app {H : Hp} {v : V} {p : Sq69.Point} : ∀ {vs : List V} {ps : List Sq69.Point}, PtVs H vs ps → PtV H v p → PtVs H (vs ++ [v]) (ps ++ [p])
  | [], [], _, q => ⟨q, trivial⟩
  | _ :: _, _ :: _, h, q => ⟨h.1, PtVs.app h.2 q⟩
  | [], _ :: _, h, _ => h.elim
  | _ :: _, [], h, _ => h.elim
theorem PtVs.at {H : Hp} : ∀ {vs : List V} {ps : List Sq69.Point} {i : Nat} {v : V}, PtVs H vs ps → vs[i]? = some v → ∃ p, ps[i]? = some p ∧ PtV H v p
  | [], [], _, _, _, e => by simp at e
  | v :: _, p :: _, 0, _, h, e => ⟨p, rfl, by have e : v = _ := Option.some.inj e; rw [← e]; exact h.1⟩
  | _ :: vs, _ :: ps, i + 1, x, h, e => PtVs.at (vs := vs) (ps := ps) (i := i) (v := x) h.2 e
  | [], _ :: _, _, _, h, _ => h.elim
  | _ :: _, [], _, _, h, _ => h.elim
theorem PtVs.of {H : Hp} : ∀ {vs : List V} {ps : List Sq69.Point} {i : Nat} {p : Sq69.Point}, PtVs H vs ps → ps[i]? = some p → ∃ a, vs[i]? = some (.ref a) ∧ PtAt H a p
  | [], [], _, _, _, e => by simp at e
  | v :: _, p :: _, 0, x, h, e => by
    have e : p = x := Option.some.inj e
    subst e
    obtain ⟨⟨a, rfl, h⟩, _⟩ := h
    exact ⟨a, rfl, h⟩
  | _ :: vs, _ :: ps, i + 1, x, h, e => PtVs.of (vs := vs) (ps := ps) (i := i) (p := x) h.2 e
  | [], _ :: _, _, _, h, _ => h.elim
  | _ :: _, [], _, _, h, _ => h.elim
/-- a list of points -/
def PtsAt (H : Hp) (l : Addr) (ps : List Sq69.Point) : Prop := ∃ vs, H l = some (.lst vs) ∧ PtVs H vs ps
theorem PtsAt.ex {H H' : Hp} {l : Addr} {ps : List Sq69.Point} (h : PtsAt H l ps) (e : Ex H H') : PtsAt H' l ps := by
  obtain ⟨vs, h1, h2⟩ := h
  exact ⟨vs, e _ _ h1, h2.ex e⟩
/-- what is read of a list that H does not know, once it has changed -/
theorem PtVs.set {H : Hp} {l : Addr} {xs ys : List V} (hl : H l = some (.lst xs)) : ∀ {vs : List V} {ps : List Sq69.Point}, PtVs H vs ps → PtVs (upd H l (.lst ys)) vs ps
  | [], [], h => h
  | _ :: _, _ :: _, h => by
    obtain ⟨⟨a, rfl, h1⟩, h2⟩ := h
    refine ⟨⟨a, rfl, ?_⟩, PtVs.set hl h2⟩
    have ne : a ≠ l := by
      rintro rfl
      have e : some (HO.tup _) = some (HO.lst xs) := (show H a = _ from h1).symm.trans hl
      cases e
    show upd H l (.lst ys) a = _
    rw [upd_ne ne]
    exact h1
  | [], _ :: _, h => h.elim
  | _ :: _, [], h => h.elim
/-- numbers that a product may hold -/
def Bd (p : Sq69.Point) : Prop := (-(2 ^ 64) < p.1 ∧ p.1 < 2 ^ 64) ∧ (-(2 ^ 64) < p.2 ∧ p.2 < 2 ^ 64)
theorem Bd.of {p : Sq69.Point} {n : Nat} (hn : n ≤ 100000) (h1 : p.1.natAbs ≤ n) (h2 : p.2.natAbs ≤ n) : Bd p := by
  unfold Bd
  omega
end Cs
namespace Cs
open PySem PySem.Spec PyProof.Rows L2 Evl

/-- the built-in names that the program calls are the built-in ones -/
structure Blt (mg : Str → Option Value) : Prop where
  len : mg "len" = none
  range : mg "range" = none
  abs : mg "abs" = none
  int : mg "int" = none

section
variable {P : Program} {w : World} {K : PySem.W.Frag} {mg : Str → Option Value} {base : Heap}

/-! ### points_in -/
def ptAt (p m : List Int) (k : Nat) : Sq69.Point := (p.getD (2 * k) 0 - m.getD (2 * k) 0, p.getD (2 * k + 1) 0 - m.getD (2 * k + 1) 0)
def pointsIn (p m : List Int) (n : Nat) : Option (List Sq69.Point) := if p.length = 2 * n ∧ m.length = 2 * n then some ((List.range n).map (ptAt p m)) else none
def prePointsIn (K : PySem.W.Frag) : Pre := fun vs H R => ∃ (a b : Addr) (p m : List Int) (n : Nat), vs = [.ref a, .ref b, .int (n : Int)] ∧ SqL K H a (p.map V.int) ∧ SqL K H b (m.map V.int) ∧ n ≤ 2 ∧
  R = fun v H' => (pointsIn p m n = none ∧ v = .non) ∨ ∃ ps l, pointsIn p m n = some ps ∧ v = .ref l ∧ PtsAt H' l ps
theorem scPointsIn : FnScope ["plus", "minus", "many", "found", "k", "x", "y"] ["plus", "minus", "many"] (defScope (top 1)) := ⟨rfl, rfl, rfl, by decide +kernel, rfl, by decide +kernel, by decide +kernel⟩
theorem rv_ixN {H : Hp} {a : Addr} {p : List Int} {i : Int} {j : Nat} (h : SqL K H a (p.map V.int)) (e : i = (j : Int)) (hj : j < p.length) : RV (rIxL K) (.ref a) (.int i) H (.int (p.getD j 0)) := by
  refine rv_ixL h ?_
  rw [e]
  refine atI_nat ?_
  rw [List.getElem?_map, List.getElem?_eq_getElem hj, List.getD_eq_getElem?_getD, List.getElem?_eq_getElem hj]
  rfl
theorem ok_points_in (B : Blt mg) (D : Df K mg "points_in" 1 ["plus", "minus", "many"]) : Has P w K mg base 1 "points_in" ["plus", "minus", "many"] (prePointsIn K) := by
  refine D.has scPointsIn (fun vs H R h => ?_) (fun f cdv A outer s H vs R Q E hr h k => ?_)
  · obtain ⟨a, b, p, m, n, rfl, _⟩ := h
    rfl
  · obtain ⟨a, b, p, m, n, rfl, ha, hb, hn, rfl⟩ := h
    have nd := scPointsIn.nd
    refine ⟨_, pss_cons (ps_if (PW.pt (pw_or (pt_cmpR op_ne (pe_callB call_len_seq (by rfl) B.len PySem.boot_len (pa_cons (pv 0) pa_nil)) (pe_op op_mul pe_int (pv 2)) (nomark _))
        (pw_or1 (pt_cmpR op_ne (pe_callB call_len_seq (by rfl) B.len PySem.boot_len (pa_cons (pv 1) pa_nil)) (pe_op op_mul pe_int (pv 2)) (nomark _))))) (pss_one (ps_ret pe_non)) pss_nil)
      (pss_cons (ps_set (i := 3) nd rfl (Or.inl rfl) (pe_lst pa_nil))
      (pss_cons (ps_for PassesOwn.never rfl (pi_range1 (by rfl) B.range (pa_cons (pv 2) pa_nil)) (pg_name (i := 4) nd rfl (Or.inl rfl))
        (pss_cons (ps_set (i := 5) nd rfl (Or.inl rfl) (pe_op op_sub (pe_ix ix_list (pv 0) (pe_op op_mul pe_int (pv 4)) (fun _ _ => rfl)) (pe_ix ix_list (pv 1) (pe_op op_mul pe_int (pv 4)) (fun _ _ => rfl))))
        (pss_cons (ps_set (i := 6) nd rfl (Or.inl rfl) (pe_op op_sub (pe_ix ix_list (pv 0) (pe_op op_add (pe_op op_mul pe_int (pv 4)) pe_int) (fun _ _ => rfl)) (pe_ix ix_list (pv 1) (pe_op op_add (pe_op op_mul pe_int (pv 4)) pe_int) (fun _ _ => rfl))))
        (pss_one (ps_expr (pe_bm PySem.F.plainAttrs_list PySem.F.slot_list_append PySem.F.type_list_append mt_append (pv 3) (pa_cons (pe_tup (pa_cons (pv 5) (pa_cons (pv 6) pa_nil))) pa_nil)))))))
      (pss_one (ps_ret (pv 3))))), ?_⟩
    refine q_when (et_or (et_test (ev_op (ev_len (ev_var rfl) ha) (ev_op ev_c (ev_var rfl) (rv_I (.inl ⟨by decide, by decide⟩))) (rv_ne rfl))) (fun _ => et_test (ev_op (ev_len (ev_var rfl) hb) (ev_op ev_c (ev_var rfl) (rv_I (.inl ⟨by decide, by decide⟩))) (rv_ne rfl)))) (fun ht H1 e1 => ?_) (fun ht H1 e1 => ?_)
    · refine s_ret ev_c fun H2 e2 => k _ _ (e1.trans e2) (.inl ⟨?_, rfl⟩)
      unfold pointsIn
      rw [if_neg]
      intro ⟨z1, z2⟩
      rw [List.length_map, List.length_map, z1, z2] at ht
      simp at ht
    · have hl : p.length = 2 * n ∧ m.length = 2 * n := by
        rw [Bool.or_eq_false_iff, Bool.not_eq_false', Bool.not_eq_false', decide_eq_true_iff, decide_eq_true_iff, List.length_map, List.length_map] at ht
        have z1 := V.int.inj ht.1
        have z2 := V.int.inj ht.2
        omega
      have hpi : pointsIn p m n = some ((List.range n).map (ptAt p m)) := if_pos hl
      refine q_asgL (el_lst ea_nil (by decide)) fun l H2 fl e2 hL => ?_
      refine q_forR1 (n := (n : Int)) (ea_cons (ev_var rfl) ea_nil) ⟨by omega, by omega⟩
        (fun i σ H' => ∃ v4 v5 v6 vs, σ = [some (.ref a), some (.ref b), some (.int n), some (.ref l), v4, v5, v6] ∧ Ex H H' ∧ H' l = some (.lst vs) ∧ PtVs H' vs ((List.range i).map (ptAt p m)))
        (fun H3 e3 => ⟨_, _, _, _, rfl, (e1.trans e2).trans e3, e3 _ _ hL, trivial⟩) ?_ ?_
      · rintro i σ H3 hi ⟨v4, v5, v6, vs, rfl, e3, h3, hv⟩
        have hln : H l = none := fresh_back e1 fl
        refine q_asg (ev_op (ev_op (ev_var rfl) (ev_op ev_c (ev_var rfl) (rv_I (.inl ⟨by decide, by decide⟩))) (rv_ixN (ex_l e3 ha) (j := 2 * i) (by omega) (by omega))) (ev_op (ev_var rfl) (ev_op ev_c (ev_var rfl) (rv_I (.inl ⟨by decide, by decide⟩))) (rv_ixN (ex_l e3 hb) (j := 2 * i) (by omega) (by omega))) rv_I0) fun H4 e4 => ?_
        have e34 := e3.trans e4
        refine q_asg (ev_op (ev_op (ev_var rfl) (ev_op (ev_op ev_c (ev_var rfl) (rv_I (.inl ⟨by decide, by decide⟩))) ev_c rv_I0) (rv_ixN (ex_l e34 ha) (j := 2 * i + 1) (by omega) (by omega))) (ev_op (ev_var rfl) (ev_op (ev_op ev_c (ev_var rfl) (rv_I (.inl ⟨by decide, by decide⟩))) ev_c rv_I0) (rv_ixN (ex_l e34 hb) (j := 2 * i + 1) (by omega) (by omega))) rv_I0) fun H5 e5 => ?_
        have hv5 := hv.ex (e4.trans e5)
        have h5 := e5 _ _ (e4 _ _ h3)
        refine s_appU h5 (ev_var rfl) (eu_tup (ea_cons (ev_var rfl) (ea_cons (ev_var rfl) ea_nil)) (by show 2 ≤ 100000; decide)) (by rw [hv5.len, List.length_map, List.length_range]; omega) fun q H6 fq e6 hq => ?_
        refine ⟨_, _, _, _, rfl, ((e34.trans e5).trans e6).mut hln, upd_same, ?_⟩
        rw [List.range_succ, List.map_append]
        exact PtVs.set (e6 _ _ h5) (PtVs.app (hv5.ex e6) ⟨q, rfl, hq⟩)
      · rintro σ H3 ⟨v4, v5, v6, vs, rfl, e3, h3, hv⟩
        exact s_ret (ev_var rfl) fun H4 e4 => k _ _ (e3.trans e4) (.inr ⟨_, l, hpi, rfl, vs, e4 _ _ h3, hv.ex e4⟩)

/-! ### turn -/
def preTurn : Pre := fun vs H R => ∃ (a b : Addr) (p q : Sq69.Point), vs = [.ref a, .ref b] ∧ PtAt H a p ∧ PtAt H b q ∧ (Bd p ∨ Bd q) ∧ R = fun v _ => v = .int (Sq69.det p q)
theorem scTurn : FnScope ["one", "other"] ["one", "other"] (defScope (top 3)) := ⟨rfl, rfl, rfl, by decide +kernel, rfl, by decide +kernel, by decide +kernel⟩
theorem cm11 {p q : Sq69.Point} (h : Bd p ∨ Bd q) : CMul p.1 q.2 := h.elim (fun z => .inl z.1) (fun z => .inr z.2)
theorem cm21 {p q : Sq69.Point} (h : Bd p ∨ Bd q) : CMul p.2 q.1 := h.elim (fun z => .inl z.2) (fun z => .inr z.1)
theorem ix0 {H : Hp} {a : Addr} {p : Sq69.Point} (h : PtAt H a p) : RV (rIxT K) (.ref a) (.int 0) H (.int p.1) := rv_ixT (st_of h) rfl
theorem ix1 {H : Hp} {a : Addr} {p : Sq69.Point} (h : PtAt H a p) : RV (rIxT K) (.ref a) (.int 1) H (.int p.2) := rv_ixT (st_of h) rfl
theorem ok_turn (D : Df K mg "turn" 3 ["one", "other"]) : Has P w K mg base 1 "turn" ["one", "other"] preTurn := by
  refine D.has scTurn (fun vs H R h => ?_) (fun f cdv A outer s H vs R Q E hr h k => ?_)
  · obtain ⟨a, b, p, q, rfl, _⟩ := h
    rfl
  · obtain ⟨a, b, p, q, rfl, ha, hb, hB, rfl⟩ := h
    refine ⟨_, pss_one (ps_ret (pe_op op_sub (pe_op op_mul (pe_ix ix_tup (pv 0) pe_int (fun _ _ => rfl)) (pe_ix ix_tup (pv 1) pe_int (fun _ _ => rfl))) (pe_op op_mul (pe_ix ix_tup (pv 0) pe_int (fun _ _ => rfl)) (pe_ix ix_tup (pv 1) pe_int (fun _ _ => rfl))))), ?_⟩
    exact s_ret (ev_op (ev_op (ev_op (ev_var rfl) ev_c (ix0 ha)) (ev_op (ev_var rfl) ev_c (ix1 hb)) (rv_I (cm11 hB))) (ev_op (ev_op (ev_var rfl) ev_c (ix1 ha)) (ev_op (ev_var rfl) ev_c (ix0 hb)) (rv_I (cm21 hB))) rv_I0) fun H1 e1 => k _ _ e1 rfl

/-! ### are_near -/
def near (n : Nat) (ps : List Sq69.Point) : Bool := ps.all fun x => decide (x.1.natAbs ≤ n) && decide (x.2.natAbs ≤ n)
theorem near_iff {n : Nat} {ps : List Sq69.Point} : near n ps = true ↔ ∀ x ∈ ps, x.1.natAbs ≤ n ∧ x.2.natAbs ≤ n := by
  unfold near
  rw [List.all_eq_true]
  exact ⟨fun h x hx => by have := h x hx; rwa [Bool.and_eq_true, decide_eq_true_iff, decide_eq_true_iff] at this, fun h x hx => by rw [Bool.and_eq_true, decide_eq_true_iff, decide_eq_true_iff]; exact h x hx⟩
def preAreNear : Pre := fun vs H R => ∃ (l : Addr) (ps : List Sq69.Point) (n : Nat), vs = [.ref l, .int (n : Int)] ∧ PtsAt H l ps ∧ R = fun v _ => v = .bl (near n ps)
theorem scAreNear : FnScope ["points", "most", "x", "y"] ["points", "most"] (defScope (top 2)) := ⟨rfl, rfl, rfl, by decide +kernel, rfl, by decide +kernel, by decide +kernel⟩
theorem rc_abs {H : Hp} {i : Int} : RC (fun xs H Q => ∃ i, xs = [.int i] ∧ Q (.int (if i < 0 then -i else i)) H) [.int i] H (.int (i.natAbs : Int)) := fun H1 _ Q q => ⟨i, rfl, by
  have e : (if i < 0 then -i else i) = (i.natAbs : Int) := by split <;> omega
  rw [e]
  exact q H1 (Ex.refl _)⟩
theorem take_snoc {α : Type} : ∀ {l : List α} {i : Nat} {x : α}, l[i]? = some x → l.take (i + 1) = l.take i ++ [x]
  | [], i, x, h => by simp at h
  | a :: l, 0, x, h => by
    have e : a = x := Option.some.inj h
    subst e
    rfl
  | a :: l, i + 1, x, h => by
    have ih := take_snoc (l := l) (i := i) (x := x) h
    show a :: l.take (i + 1) = a :: l.take i ++ [x]
    rw [ih]
    rfl
theorem ok_are_near (B : Blt mg) (D : Df K mg "are_near" 2 ["points", "most"]) : Has P w K mg base 1 "are_near" ["points", "most"] preAreNear := by
  refine D.has scAreNear (fun vs H R h => ?_) (fun f cdv A outer s H vs R Q E hr h k => ?_)
  · obtain ⟨l, ps, n, rfl, _⟩ := h
    rfl
  · obtain ⟨l, ps, n, rfl, ⟨vs, hl, hv⟩, rfl⟩ := h
    have nd := scAreNear.nd
    refine ⟨_, pss_cons (ps_for PassesOwn.never rfl (pi_list (pv 0)) (pg_tup rfl (pgs_cons (pg_name (i := 2) nd rfl (Or.inl rfl)) (pgs_cons (pg_name (i := 3) nd rfl (Or.inl rfl)) pgs_nil)))
        (pss_one (ps_if (PW.pt (pw_or (pt_cmpR op_gt (pe_callB call_abs (by rfl) B.abs (by decide +kernel) (pa_cons (pv 2) pa_nil)) (pv 1) (nomark _)) (pw_or1 (pt_cmpR op_gt (pe_callB call_abs (by rfl) B.abs (by decide +kernel) (pa_cons (pv 3) pa_nil)) (pv 1) (nomark _)))))
          (pss_one (ps_ret pe_bl)) pss_nil)))
      (pss_one (ps_ret pe_bl)), ?_⟩
    refine q_forL (K := K) (ev_var rfl) (sq_of hl) (fun i σ H' => ∃ v2 v3, σ = [some (.ref l), some (.int n), v2, v3] ∧ Ex H H' ∧ near n (ps.take i) = true)
      (fun H1 e1 => ⟨_, _, rfl, e1, rfl⟩) (fun i σ H' _ ⟨_, _, _, e, _⟩ => sq_of (e _ _ hl)) ?_ ?_
    · rintro i x σ H1 hx ⟨v2, v3, rfl, e1, hn⟩
      obtain ⟨p, hp, a, rfl, ha⟩ := hv.at hx
      refine ⟨a, _, rfl, st_of (e1 _ _ ha), rfl, _, _, rfl, _, _, rfl, rfl, ?_⟩
      have hm : near n (ps.take (i + 1)) = true ↔ (p.1.natAbs ≤ n ∧ p.2.natAbs ≤ n) := by
        rw [near_iff, take_snoc hp]
        rw [near_iff] at hn
        constructor
        · intro h
          exact h p (List.mem_append_right _ (List.mem_singleton.mpr rfl))
        · intro h x hx
          rcases List.mem_append.mp hx with hx | hx
          · exact hn x hx
          · rw [List.mem_singleton.mp hx]
            exact h
      refine s_when (et_or (et_test (ev_op (ev_cb (ea_cons (ev_var rfl) ea_nil) rc_abs) (ev_var rfl) rv_I0)) (fun _ => et_test (ev_op (ev_cb (ea_cons (ev_var rfl) ea_nil) rc_abs) (ev_var rfl) rv_I0))) (fun ht H2 e2 => ?_) (fun ht H2 e2 => ?_)
      · refine s_ret ev_c fun H3 e3 => k _ _ ((e1.trans e2).trans e3) (congrArg V.bl ?_)
        symm
        rw [Bool.eq_false_iff]
        intro z
        rw [near_iff] at z
        have := z p (List.mem_of_getElem? hp)
        rw [Bool.or_eq_true, decide_eq_true_iff, decide_eq_true_iff] at ht
        omega
      · refine ⟨_, _, rfl, e1.trans e2, hm.mpr ?_⟩
        rw [Bool.or_eq_false_iff, decide_eq_false_iff_not, decide_eq_false_iff_not] at ht
        omega
    · rintro σ H1 ⟨v2, v3, rfl, e1, hn⟩
      refine s_ret ev_c fun H2 e2 => k _ _ (e1.trans e2) (congrArg V.bl ?_)
      rw [hv.len, List.take_length] at hn
      exact hn.symm

/-! ### common -/
def preCommon : Pre := fun vs H R => ∃ (a b : Nat), vs = [.int (a : Int), .int (b : Int)] ∧ R = fun v _ => v = .int (Nat.gcd a b : Nat)
theorem scCommon : FnScope ["one", "other", "rest"] ["one", "other"] (defScope (top 4)) := ⟨rfl, rfl, rfl, by decide +kernel, rfl, by decide +kernel, by decide +kernel⟩
theorem ok_common (D : Df K mg "common" 4 ["one", "other"]) : Has P w K mg base 1 "common" ["one", "other"] preCommon := by
  refine D.has scCommon (fun vs H R h => ?_) (fun f cdv A outer s H vs R Q E hr h k => ?_)
  · obtain ⟨a, b, rfl, _⟩ := h
    rfl
  · obtain ⟨a, b, rfl, rfl⟩ := h
    have nd := scCommon.nd
    refine ⟨_, pss_cons (ps_while PassesOwn.never (pt_cmpR op_gt (pv 1) pe_int (nomark _))
        (pss_cons (ps_set (i := 2) nd rfl (Or.inl rfl) (pe_op op_modN (pv 0) (pv 1)))
        (pss_cons (ps_set (i := 0) nd rfl (Or.inl rfl) (pv 1))
        (pss_one (ps_set (i := 1) nd rfl (Or.inl rfl) (pv 2))))))
      (pss_one (ps_ret (pv 0))), ?_⟩
    refine q_while (fun m σ H' => ∃ (x : Nat) (v2 : Option V), σ = [some (.int (x : Int)), some (.int (m : Int)), v2] ∧ Ex H H' ∧ Nat.gcd x m = Nat.gcd a b) b ⟨a, _, rfl, Ex.refl _, rfl⟩ ?_
    rintro m σ H1 ⟨x, v2, rfl, e1, hg⟩
    refine ⟨_, et_test (ev_op (ev_var rfl) ev_c rv_I0), fun ht H2 e2 => ?_, fun ht H2 e2 => ?_⟩
    · rw [decide_eq_true_iff] at ht
      refine ⟨fun σ' H' => σ' = [some (.int (m : Int)), some (.int ((x % m : Nat) : Int)), some (.int ((x % m : Nat) : Int))] ∧ Ex H H', ?_, ?_⟩
      · rintro σ' H' ⟨rfl, e'⟩
        refine ⟨x % m, Nat.mod_lt _ (by omega), m, _, rfl, e', ?_⟩
        rw [← hg, Nat.gcd_comm m, Nat.gcd_comm x, Nat.gcd_rec m x]
      · have em : (x : Int).fmod m = ((x % m : Nat) : Int) := by
          rw [Int.fmod_eq_emod_of_nonneg _ (by omega)]
          omega
        refine q_asg (ev_is (ev_op (ev_var rfl) (ev_var rfl) (rv_I (show (m : Int) ≠ 0 by omega))) (congrArg V.int em)) fun H3 e3 => ?_
        refine q_asg (ev_var rfl) fun H4 e4 => ?_
        exact s_asg (ev_var rfl) fun H5 e5 => ⟨rfl, (((e1.trans e2).trans e3).trans e4).trans e5⟩
    · rw [decide_eq_false_iff_not] at ht
      refine s_ret (ev_var rfl) fun H3 e3 => k _ _ ((e1.trans e2).trans e3) ?_
      have : m = 0 := by omega
      subst this
      rw [Nat.gcd_zero_right] at hg
      rw [hg]

/-! ### is_bare -/
def preIsBare : Pre := fun vs H R => ∃ (a : Addr) (p : Sq69.Point), vs = [.ref a] ∧ PtAt H a p ∧ R = fun v _ => v = .bl (Sq69.single p)
theorem scIsBare : FnScope ["point"] ["point"] (defScope (top 5)) := ⟨rfl, rfl, rfl, by decide +kernel, rfl, by decide +kernel, by decide +kernel⟩
theorem ok_is_bare (B : Blt mg) (D : Df K mg "is_bare" 5 ["point"]) (FC : Has P w K mg base 1 "common" ["one", "other"] preCommon) : Has P w K mg base 2 "is_bare" ["point"] preIsBare := by
  refine D.has scIsBare (fun vs H R h => ?_) (fun f cdv A outer s H vs R Q E hr h k => ?_)
  · obtain ⟨a, p, rfl, _⟩ := h
    rfl
  · obtain ⟨a, p, rfl, ha, rfl⟩ := h
    refine ⟨_, pss_one (ps_ret (pe_cmpR op_eq (pe_has FC hr (by rfl) (pa_cons (pe_callB call_abs (by rfl) B.abs (by decide +kernel) (pa_cons (pe_ix ix_tup (pv 0) pe_int (fun _ _ => rfl)) pa_nil)) (pa_cons (pe_callB call_abs (by rfl) B.abs (by decide +kernel) (pa_cons (pe_ix ix_tup (pv 0) pe_int (fun _ _ => rfl)) pa_nil)) pa_nil))) pe_int (nomark _))), ?_⟩
    refine s_ret (ev_op (ev_has (z := .int (Nat.gcd p.1.natAbs p.2.natAbs : Nat)) (ea_cons (ev_cb (ea_cons (ev_op (ev_var rfl) ev_c (ix0 ha)) ea_nil) rc_abs) (ea_cons (ev_cb (ea_cons (ev_op (ev_var rfl) ev_c (ix1 ha)) ea_nil) rc_abs) ea_nil)) fun H1 e1 => ⟨_, _, rfl, rfl⟩) ev_c (rv_eq rfl)) fun H1 e1 => k _ _ e1 (congrArg V.bl ?_)
    unfold Sq69.single
    rw [Bool.eq_iff_iff, decide_eq_true_iff, beq_iff_eq]
    constructor
    · intro z
      have := V.int.inj z
      omega
    · intro z
      rw [z]
      rfl

/-! ### told_points -/
def preToldPoints : Pre := fun vs H R => ∃ (l : Addr) (ps : List Sq69.Point), vs = [.ref l] ∧ PtsAt H l ps ∧ ps.length ≤ 10000 ∧ R = fun v H' => ∃ q, v = .ref q ∧ H' q = some (.lst ((Sq69.listed ps).map V.int))
theorem scToldPoints : FnScope ["points", "found", "x", "y"] ["points"] (defScope (top 6)) := ⟨rfl, rfl, rfl, by decide +kernel, rfl, by decide +kernel, by decide +kernel⟩
theorem listed_snoc {ps : List Sq69.Point} {i : Nat} {p : Sq69.Point} (h : ps[i]? = some p) : Sq69.listed (ps.take (i + 1)) = Sq69.listed (ps.take i) ++ [p.1, p.2] := by
  rw [take_snoc h]
  unfold Sq69.listed
  rw [List.flatMap_append]
  rfl
theorem listed_len : ∀ ps : List Sq69.Point, (Sq69.listed ps).length = 2 * ps.length
  | [] => rfl
  | p :: ps => by
    have e : Sq69.listed (p :: ps) = [p.1, p.2] ++ Sq69.listed ps := rfl
    rw [e, List.length_append, listed_len ps, List.length_cons]
    show 2 + 2 * ps.length = 2 * (ps.length + 1)
    omega
theorem ok_told_points (D : Df K mg "told_points" 6 ["points"]) : Has P w K mg base 1 "told_points" ["points"] preToldPoints := by
  refine D.has scToldPoints (fun vs H R h => ?_) (fun f cdv A outer s H vs R Q E hr h k => ?_)
  · obtain ⟨l, ps, rfl, _⟩ := h
    rfl
  · obtain ⟨l, ps, rfl, ⟨vs, hl, hv⟩, hz, rfl⟩ := h
    have nd := scToldPoints.nd
    refine ⟨_, pss_cons (ps_set (i := 1) nd rfl (Or.inl rfl) (pe_lst pa_nil))
      (pss_cons (ps_for PassesOwn.never rfl (pi_list (pv 0)) (pg_tup rfl (pgs_cons (pg_name (i := 2) nd rfl (Or.inl rfl)) (pgs_cons (pg_name (i := 3) nd rfl (Or.inl rfl)) pgs_nil)))
        (pss_cons (ps_expr (pe_bm PySem.F.plainAttrs_list PySem.F.slot_list_append PySem.F.type_list_append mt_append (pv 1) (pa_cons (pv 2) pa_nil)))
        (pss_one (ps_expr (pe_bm PySem.F.plainAttrs_list PySem.F.slot_list_append PySem.F.type_list_append mt_append (pv 1) (pa_cons (pv 3) pa_nil))))))
      (pss_one (ps_ret (pv 1)))), ?_⟩
    refine q_asgL (el_lst ea_nil (by decide)) fun q H1 fq e1 hq => ?_
    refine q_forL (K := K) (ev_var rfl) (sq_of (e1 _ _ hl)) (fun i σ H' => ∃ v2 v3, σ = [some (.ref l), some (.ref q), v2, v3] ∧ Ex H H' ∧ H' q = some (.lst ((Sq69.listed (ps.take i)).map V.int)))
      (fun H2 e2 => ⟨_, _, rfl, e1.trans e2, e2 _ _ hq⟩) (fun i σ H' _ ⟨_, _, _, e, _⟩ => sq_of (e _ _ hl)) ?_ ?_
    · rintro i x σ H2 hx ⟨v2, v3, rfl, e2, h2⟩
      obtain ⟨p, hp, a, rfl, ha⟩ := hv.at hx
      refine ⟨a, _, rfl, st_of (e2 _ _ ha), rfl, _, _, rfl, _, _, rfl, rfl, ?_⟩
      have hi : i < ps.length := (List.getElem?_eq_some_iff.mp hp).1
      refine q_app h2 (ev_var rfl) (ev_var rfl) (by rw [List.length_map, listed_len, List.length_take]; omega) fun H3 e3 => ?_
      refine s_app upd_same (ev_var rfl) (ev_var rfl) (by rw [List.length_append, List.length_map, listed_len, List.length_take]; show _ + 1 < _; omega) fun H4 e4 => ?_
      refine ⟨_, _, rfl, (((e2.trans e3).mut fq).trans e4).mut fq, ?_⟩
      rw [upd_same, listed_snoc hp, List.map_append, List.append_assoc]
      rfl
    · rintro σ H2 ⟨v2, v3, rfl, e2, h2⟩
      rw [hv.len, List.take_length] at h2
      exact s_ret (ev_var rfl) fun H3 e3 => k _ _ (e2.trans e3) ⟨q, rfl, e3 _ _ h2⟩
end
end Cs
namespace Cs
open PySem PySem.Spec PyProof.Rows L2 Evl

/-! ## Cones as objects -/
def coneF (v1 v2 : V) : List (Str × V) := [("first", v1), ("second", v2)]
def ConeAt (C : Addr) (H : Hp) (a : Addr) (c : Sq69.Cone) : Prop := ∃ dx v1 v2, H a = some (.ins C dx (coneF v1 v2)) ∧ PtV H v1 c.u ∧ PtV H v2 c.v
theorem ConeAt.ex {C : Addr} {H H' : Hp} {a : Addr} {c : Sq69.Cone} (h : ConeAt C H a c) (e : Ex H H') : ConeAt C H' a c := by
  obtain ⟨dx, v1, v2, h1, h2, h3⟩ := h
  exact ⟨dx, v1, v2, e _ _ h1, h2.ex e, h3.ex e⟩
theorem lk_here {k : Str} {v : V} {r : List (Str × V)} : List.lookup k ((k, v) :: r) = some v := by
  have e : (k == k) = true := beq_self_eq_true k
  simp only [List.lookup, e]
theorem lk_past {k g : Str} {v : V} {r : List (Str × V)} (h : (k == g) = false) : List.lookup k ((g, v) :: r) = List.lookup k r := by
  simp only [List.lookup, h]
theorem coneF_first (v1 v2 : V) : (coneF v1 v2).lookup ("first" : Str) = some v1 := lk_here
theorem coneF_second (v1 v2 : V) : (coneF v1 v2).lookup ("second" : Str) = some v2 := (lk_past (by decide +kernel)).trans lk_here
theorem coneF_new (v1 v2 : V) : putF "second" v2 (putF "first" v1 []) = coneF v1 v2 := by
  show (if ("first" : Str) = "second" then [(("second" : Str), v2)] else ("first", v1) :: putF "second" v2 []) = _
  rw [if_neg (by decide +kernel)]
  rfl
/-- the class as the top has left it -/
structure Cl (K : PySem.W.Frag) (C : Addr) : Prop where
  cl : Cls K C
  nF : NoAttr K C "first"
  nS : NoAttr K C "second"
def spInit (C : Addr) : Sp := fun vs H Q _ => ∃ (p dx : Addr) (v1 v2 : V), vs = [.ref p, v1, v2] ∧ H p = some (.ins C dx []) ∧
  ∀ H' : Hp, (∃ dx', H' p = some (.ins C dx' (coneF v1 v2))) → (∀ b o, H b = some o → b ≠ p → H' b = some o) → Q .non H'
/-- cones are made of it -/
structure Makes (P : Program) (w : World) (K : PySem.W.Frag) (mg : Str → Option Value) (base : Heap) (C : Addr) : Prop where
  ex : ∃ (f : Addr) (fd : FuncData), Mk K C f ∧ mg "Cone" = some (.ref C) ∧ Binds K fd ["self", "first", "second"] [] ∧ FnOk P w K mg base CX0 1 f fd ["self", "first", "second"] (spInit C)
/-- a global number -/
def GI (mg : Str → Option Value) (x : Str) (i : Int) : Prop := ∃ t, mg x = some (.int i t)
section
variable {X : Cx}
theorem pe_gi {x : Str} {i : Int} {pos : Pos} (h : GI X.mg x i) (hg : Gl X x) (hd : (x == ("__debug__" : Str)) = false := by decide) : PE X (.Name x pos) (tC (.int i)) := by
  obtain ⟨t, h⟩ := h
  exact pe_glob hg h ⟨_, rfl⟩ hd
theorem pe_cone {C : Addr} {p pos : Pos} {e : Expr} {es : List Expr} {t : TA} (M : Makes X.prog X.w X.K X.mg X.base C) (hr : Room 2 X.A) (hg : Gl X "Cone") (ha : PA X (e :: es) t)
    (he : starEach (e :: es) X.env = (false, eval e X.env) :: starEach es X.env := by rfl) (hpl : (backTo pos (starEach es X.env)).any (·.1) = false := by rfl) :
    PE X (.Call (.Name "Cone" p) (e :: es) [] pos) (tMake C (spInit C) [] E0 t) := by
  obtain ⟨f, fd, M, hm, hb, F⟩ := M.ex
  exact pe_make M F hr hg hm hb .nil pass0 ha (by decide) he hpl
end
section
variable {P : Program} {w : World} {K : PySem.W.Frag} {mg : Str → Option Value} {base : Heap} {C : Addr}
theorem scInit : FnScope ["self", "first", "second"] ["self", "first", "second"] (defScope (inClass (top 12) 0)) := ⟨rfl, rfl, rfl, by decide +kernel, rfl, by decide +kernel, by decide +kernel⟩
theorem ok_init {f : Addr} {fd : FuncData} (F : Fun K "__init__" "Cone.__init__" (inClass (top 12) 0) f fd) (T : Cl K C) : FnOk P w K mg base CX0 1 f fd ["self", "first", "second"] (spInit C) := by
  refine F.ok scInit (fun vs H Q E h => ?_) (fun cdv A outer s H vs Q E hr h => ?_)
  · obtain ⟨p, dx, v1, v2, rfl, _⟩ := h
    rfl
  · obtain ⟨p, dx, v1, v2, rfl, hp, k⟩ := h
    refine ⟨_, pss_cons (ps_fld (pv 0) (pv 1) rfl) (pss_one (ps_fld (pv 0) (pv 2) rfl)), ?_⟩
    refine ⟨_, rfl, _, rfl, p, C, dx, [], rfl, hp, T.cl, T.nF, (by show 0 < 1000; decide), ?_⟩
    refine ⟨_, rfl, _, rfl, p, C, dx, _, rfl, upd_same, T.cl, T.nS, (by show 1 < 1000; decide), ?_⟩
    refine k _ ⟨dx, Eq.trans upd_same (congrArg (fun q => some (HO.ins C dx q)) (coneF_new v1 v2))⟩ fun b o e hb => ?_
    rw [upd_ne hb, upd_ne hb]
    exact e
end

/-! ### arguments told by a relation -/
def Ra (t : TA) (σ : L2.St) (H : Hp) (R : List V → Hp → Prop) : Prop := ∀ H1, Ex H H1 → ∀ Q : List V → Hp → Prop, (∀ vs H2, Ex H1 H2 → R vs H2 → Q vs H2) → t σ H1 Q
section
variable {σ : L2.St} {H H' : Hp} {ta tb te : TE} {t : TA} {v z : V} {pre : Pre} {R : V → Hp → Prop} {tu tw tz : TS} {D : Ends} {K : PySem.W.Frag} {C : Addr}
def Pts2 (p q : Sq69.Point) : List V → Hp → Prop := fun vs H' => ∃ v1 v2, vs = [v1, v2] ∧ PtV H' v1 p ∧ PtV H' v2 q
theorem ra_pts2 {p q : Sq69.Point} (h1 : Er ta σ H (fun v H' => PtV H' v p)) (h2 : Er tb σ H (fun v H' => PtV H' v q)) : Ra (tCons ta (tCons tb tNil)) σ H (Pts2 p q) := fun H1 e Q k =>
  h1 H1 e _ fun v1 H2 e2 r1 => h2 H2 (e.trans e2) _ fun v2 H3 e3 r2 => k _ H3 (e2.trans e3) ⟨v1, v2, rfl, r1.ex e3, r2⟩
theorem er_pt {x y : Int} (h : EvA t σ H [.int x, .int y]) : Er (tTup t) σ H (fun v H' => PtV H' v (x, y)) := fun H1 e Q k =>
  h H1 e _ fun H2 e2 => ⟨by show 2 ≤ sizeLine; decide, fun p hp => k _ _ (e2.trans (Ex.new hp)) ⟨p, rfl, upd_same⟩⟩
theorem er_ptv {p : Sq69.Point} (h : Ev te σ H v) (hp : PtV H v p) : Er te σ H (fun v H' => PtV H' v p) := fun H1 e Q k =>
  h H1 e _ fun H2 e2 => k _ _ e2 (hp.ex (e.trans e2))
theorem er_tup2 {x : V} (ha : Ev ta σ H x) (hb : Er tb σ H R) : Er (tTup (tCons ta (tCons tb tNil))) σ H (fun v H' => ∃ t y H1, v = .ref t ∧ H' t = some (.tup [x, y]) ∧ R y H1 ∧ Ex H1 H') := fun H1 e Q k =>
  ha H1 e _ fun H2 e2 => hb H2 (e.trans e2) _ fun y H3 e3 r => ⟨by show 2 ≤ sizeLine; decide, fun p hp => k _ _ ((e2.trans e3).trans (Ex.new hp)) ⟨p, y, H3, rfl, upd_same, r, Ex.new hp⟩⟩
/-- a value that is a cone -/
def ConeV (C : Addr) (H : Hp) (v : V) (c : Sq69.Cone) : Prop := ∃ x, v = .ref x ∧ ConeAt C H x c
theorem er_make {p q : Sq69.Point} {E : XK} (h : Ra t σ H (Pts2 p q)) : Er (tMake C (spInit C) [] E t) σ H (fun v H' => ConeV C H' v ⟨p, q⟩) := fun H1 e Q k =>
  h H1 e _ fun vs H2 e2 r x dx nx nd ne => by
    obtain ⟨v1, v2, rfl, r1, r2⟩ := r
    refine ⟨x, dx, v1, v2, rfl, upd_same, fun H3 h3 kp => ⟨rfl, ?_⟩⟩
    have e3 : Ex H2 H3 := Same.made nx nd kp
    obtain ⟨dx', h3⟩ := h3
    exact k _ H3 (e2.trans e3) ⟨x, rfl, dx', v1, v2, h3, r1.ex e3, r2.ex e3⟩
theorem ConeAt.first (T : Cl K C) {a : Addr} {c : Sq69.Cone} (h : ConeAt C H a c) (hv : Ev te σ H (.ref a)) : ∃ v, Ev (tFld K te "first") σ H v ∧ PtV H v c.u := by
  obtain ⟨dx, v1, v2, h1, h2, h3⟩ := h
  exact ⟨v1, ev_fld hv h1 T.cl T.nF (coneF_first v1 v2), h2⟩
theorem ConeAt.second (T : Cl K C) {a : Addr} {c : Sq69.Cone} (h : ConeAt C H a c) (hv : Ev te σ H (.ref a)) : ∃ v, Ev (tFld K te "second") σ H v ∧ PtV H v c.v := by
  obtain ⟨dx, v1, v2, h1, h2, h3⟩ := h
  exact ⟨v2, ev_fld hv h1 T.cl T.nS (coneF_second v1 v2), h3⟩
/-- cone.first[0] and its kin -/
theorem ev_u0 (T : Cl K C) {a : Addr} {c : Sq69.Cone} (h : ConeAt C H a c) (hv : Ev te σ H (.ref a)) : Ev (tOp (rIxT K) (tFld K te "first") (tC (.int 0))) σ H (.int c.u.1) := by
  obtain ⟨v, h1, x, rfl, h2⟩ := h.first T hv
  exact ev_op h1 ev_c (ix0 h2)
theorem ev_u1 (T : Cl K C) {a : Addr} {c : Sq69.Cone} (h : ConeAt C H a c) (hv : Ev te σ H (.ref a)) : Ev (tOp (rIxT K) (tFld K te "first") (tC (.int 1))) σ H (.int c.u.2) := by
  obtain ⟨v, h1, x, rfl, h2⟩ := h.first T hv
  exact ev_op h1 ev_c (ix1 h2)
theorem ev_v0 (T : Cl K C) {a : Addr} {c : Sq69.Cone} (h : ConeAt C H a c) (hv : Ev te σ H (.ref a)) : Ev (tOp (rIxT K) (tFld K te "second") (tC (.int 0))) σ H (.int c.v.1) := by
  obtain ⟨v, h1, x, rfl, h2⟩ := h.second T hv
  exact ev_op h1 ev_c (ix0 h2)
theorem ev_v1 (T : Cl K C) {a : Addr} {c : Sq69.Cone} (h : ConeAt C H a c) (hv : Ev te σ H (.ref a)) : Ev (tOp (rIxT K) (tFld K te "second") (tC (.int 1))) σ H (.int c.v.2) := by
  obtain ⟨v, h1, x, rfl, h2⟩ := h.second T hv
  exact ev_op h1 ev_c (ix1 h2)
theorem rv_isN {x : V} : RV (fun x y H Q => y = .non ∧ Q (.bl (decide (x = .non))) H) x .non H (.bl (decide (x = .non))) := fun H1 _ Q q => ⟨rfl, q H1 (Ex.refl _)⟩
theorem rv_notN {x : V} : RV (fun x y H Q => y = .non ∧ Q (.bl (!decide (x = .non))) H) x .non H (.bl (!decide (x = .non))) := fun H1 _ Q q => ⟨rfl, q H1 (Ex.refl _)⟩
/-- a new list is given back: what its answer is -/
def retL (H : Hp) (xs : List V) : V → Hp → Prop := fun v H' => ∃ q, v = .ref q ∧ H q = none ∧ H' q = some (.lst xs)
theorem el_has {E : XK} {vs xs : List V} (h : EvA t σ H vs) (hp : ∀ H1, Ex H H1 → pre vs H1 (retL H1 xs)) : EvL (tCall (spG pre) [] E t) σ H xs := fun H1 e Q k =>
  h H1 e _ fun H2 e2 => ⟨_, by rw [List.append_nil]; exact hp H2 (e.trans e2), fun v H3 e3 r => by
    obtain ⟨q, rfl, r1, r2⟩ := r
    exact k q H3 (fresh_back e2 r1) (e2.trans e3) r2⟩
/-- xs + ys -/
theorem el_cat {xs ys : List V} (ha : EvL ta σ H xs) (hb : EvL tb σ H ys) (hz : xs.length + ys.length ≤ 100000) : EvL (tOp rCat ta tb) σ H (xs ++ ys) := fun H1 e Q k =>
  ha H1 e _ fun p H2 f2 e2 h2 => hb H2 (e.trans e2) _ fun q H3 f3 e3 h3 => ⟨p, q, xs, ys, rfl, rfl, e3 _ _ h2, h3, sz_of hz, fun r hr => k r _ (fresh_back (e2.trans e3) hr) ((e2.trans e3).trans (Ex.new hr)) upd_same⟩
end
theorem Good.bu {c : Sq69.Cone} (G : Good c) : Bd c.u := Bd.of (n := 40) (by decide) G.u1 G.u2
theorem Good.bv {c : Sq69.Cone} (G : Good c) : Bd c.v := Bd.of (n := 40) (by decide) G.v1 G.v2

section
variable {P : Program} {w : World} {K : PySem.W.Frag} {mg : Str → Option Value} {base : Heap} {C : Addr}
/-! ### cone_in -/
def coneIn (p m : List Int) : Except Int Sq69.Cone := match pointsIn p m 2 with
  | none => .error (-3)
  | some [x, y] => if near 40 [x, y] = false then .error (-1) else if (Sq69.single x && (Sq69.single y && decide (0 < Sq69.det x y))) = false then .error (-4) else .ok ⟨x, y⟩
  | _ => .error (-3)
theorem coneIn_none {p m : List Int} (h : pointsIn p m 2 = none) : coneIn p m = .error (-3) := by
  unfold coneIn
  rw [h]
theorem coneIn_some {p m : List Int} {x y : Sq69.Point} (h : pointsIn p m 2 = some [x, y]) : coneIn p m = if near 40 [x, y] = false then .error (-1) else if (Sq69.single x && (Sq69.single y && decide (0 < Sq69.det x y))) = false then .error (-4) else .ok ⟨x, y⟩ := by
  unfold coneIn
  rw [h]
theorem pointsIn_two {p m : List Int} {ps : List Sq69.Point} (h : pointsIn p m 2 = some ps) : ∃ x y, ps = [x, y] := by
  unfold pointsIn at h
  split at h
  · exact ⟨_, _, (Option.some.inj h).symm⟩
  · cases h
theorem coneIn_good {p m : List Int} {c : Sq69.Cone} (h : coneIn p m = .ok c) : Good c := by
  cases hp : pointsIn p m 2 with
  | none =>
    rw [coneIn_none hp] at h
    cases h
  | some ps =>
    obtain ⟨x, y, rfl⟩ := pointsIn_two hp
    rw [coneIn_some hp] at h
    by_cases hn : near 40 [x, y] = false
    · rw [if_pos hn] at h
      cases h
    · rw [if_neg hn] at h
      by_cases hs : (Sq69.single x && (Sq69.single y && decide (0 < Sq69.det x y))) = false
      · rw [if_pos hs] at h
        cases h
      · rw [if_neg hs] at h
        cases h
        rw [Bool.not_eq_false, Bool.and_eq_true, Bool.and_eq_true, decide_eq_true_iff] at hs
        rw [Bool.not_eq_false, near_iff] at hn
        have h1 := hn x (by simp)
        have h2 := hn y (by simp)
        exact ⟨hs.1, hs.2.1, hs.2.2, h1.1, h1.2, h2.1, h2.2⟩
def preConeIn (K : PySem.W.Frag) (C : Addr) : Pre := fun vs H R => ∃ (a b : Addr) (p m : List Int), vs = [.ref a, .ref b] ∧ SqL K H a (p.map V.int) ∧ SqL K H b (m.map V.int) ∧
  R = fun v H' => ∃ t, v = .ref t ∧ ((∃ e, coneIn p m = .error e ∧ H' t = some (.tup [.int e, .non])) ∨ ∃ c x, coneIn p m = .ok c ∧ H' t = some (.tup [.int 0, .ref x]) ∧ ConeAt C H' x c)
theorem scConeIn : FnScope ["plus", "minus", "points", "first", "second"] ["plus", "minus"] (defScope (top 13)) := ⟨rfl, rfl, rfl, by decide +kernel, rfl, by decide +kernel, by decide +kernel⟩
theorem ok_cone_in (D : Df K mg "cone_in" 13 ["plus", "minus"]) (M : Makes P w K mg base C) (g1 : GI mg "BAD_LISTS" (-3)) (g2 : GI mg "TOO_FAR" (-1)) (g3 : GI mg "NO_ENDS" (-4)) (g4 : GI mg "MOST_END" 40)
    (F1 : Has P w K mg base 1 "points_in" ["plus", "minus", "many"] (prePointsIn K)) (F2 : Has P w K mg base 1 "are_near" ["points", "most"] preAreNear) (F3 : Has P w K mg base 2 "is_bare" ["point"] preIsBare)
    (F4 : Has P w K mg base 1 "turn" ["one", "other"] preTurn) : Has P w K mg base 3 "cone_in" ["plus", "minus"] (preConeIn K C) := by
  refine D.has scConeIn (fun vs H R h => ?_) (fun f cdv A outer s H vs R Q E hr h k => ?_)
  · obtain ⟨a, b, p, m, rfl, _⟩ := h
    rfl
  · obtain ⟨a, b, p, m, rfl, ha, hb, rfl⟩ := h
    have nd := scConeIn.nd
    have hr1 := hr.mono (show 1 ≤ 2 by decide)
    refine ⟨_, pss_cons (ps_set (i := 2) nd rfl (Or.inl rfl) (pe_has F1 hr1 (by rfl) (pa_cons (pv 0) (pa_cons (pv 1) (pa_cons pe_int pa_nil)))))
      (pss_cons (ps_if (pt_cmpR op_isN (pv 2) pe_non (nomark _)) (pss_one (ps_ret (pe_tup (pa_cons (pe_gi g1 (by rfl)) (pa_cons pe_non pa_nil))))) pss_nil)
      (pss_cons (ps_if (pt_not (pt_val (pe_has F2 hr1 (by rfl) (pa_cons (pv 2) (pa_cons (pe_gi g4 (by rfl)) pa_nil))))) (pss_one (ps_ret (pe_tup (pa_cons (pe_gi g2 (by rfl)) (pa_cons pe_non pa_nil))))) pss_nil)
      (pss_cons (ps_asg (pv 2) (pg_unl rfl (pgs_cons (pg_name (i := 3) nd rfl (Or.inl rfl)) (pgs_cons (pg_name (i := 4) nd rfl (Or.inl rfl)) pgs_nil))))
      (pss_cons (ps_if (PW.pt (pw_or (pt_not (pt_val (pe_has F3 hr (by rfl) (pa_cons (pv 3) pa_nil)))) (pw_or (pt_not (pt_val (pe_has F3 hr (by rfl) (pa_cons (pv 4) pa_nil)))) (pw_or1 (pt_cmpR op_le (pe_has F4 hr1 (by rfl) (pa_cons (pv 3) (pa_cons (pv 4) pa_nil))) pe_int (nomark _))))))
        (pss_one (ps_ret (pe_tup (pa_cons (pe_gi g3 (by rfl)) (pa_cons pe_non pa_nil))))) pss_nil)
      (pss_one (ps_ret (pe_tup (pa_cons pe_int (pa_cons (pe_cone M hr (by rfl) (pa_cons (pv 3) (pa_cons (pv 4) pa_nil))) pa_nil))))))))), ?_⟩
    refine q_asgR (er_has (ea_cons (ev_var rfl) (ea_cons (ev_var rfl) (ea_cons ev_c ea_nil))) fun H1 e1 => ⟨a, b, p, m, 2, rfl, ex_l e1 ha, ex_l e1 hb, by decide, rfl⟩) fun v H1 e1 hv => ?_
    rcases hv with ⟨hp, rfl⟩ | ⟨ps, l, hp, rfl, vs, hl, hvs⟩
    · refine q_when (et_test (ev_op (ev_var rfl) ev_c rv_isN)) (fun _ H2 e2 => ?_) (fun ht => absurd ht (by decide))
      exact s_retU (eu_tup (ea_cons ev_c (ea_cons ev_c ea_nil)) (by show 2 ≤ 100000; decide)) fun t H3 ft e3 h3 => k _ _ ((e1.trans e2).trans e3) ⟨t, rfl, .inl ⟨_, coneIn_none hp, h3⟩⟩
    · obtain ⟨x, y, rfl⟩ := pointsIn_two hp
      have hc := coneIn_some hp
      refine q_when (et_test (ev_op (ev_var rfl) ev_c rv_isN)) (fun ht => absurd ht (by simp)) (fun _ H2 e2 => ?_)
      refine q_when (et_not (et_B (ev_has (z := .bl (near 40 [x, y])) (ea_cons (ev_var rfl) (ea_cons ev_c ea_nil)) fun H3 e3 => ⟨l, [x, y], 40, rfl, ⟨vs, e3 _ _ (e2 _ _ hl), hvs.ex (e2.trans e3)⟩, rfl⟩))) (fun ht H3 e3 => ?_) (fun ht H3 e3 => ?_)
      · rw [Bool.not_eq_true'] at ht
        rw [if_pos ht] at hc
        exact s_retU (eu_tup (ea_cons ev_c (ea_cons ev_c ea_nil)) (by show 2 ≤ 100000; decide)) fun t H4 ft e4 h4 => k _ _ (((e1.trans e2).trans e3).trans e4) ⟨t, rfl, .inl ⟨_, hc, h4⟩⟩
      · rw [Bool.not_eq_false'] at ht
        rw [if_neg (by rw [ht]; decide)] at hc
        have e23 := e2.trans e3
        obtain ⟨vx, vy, rfl⟩ : ∃ vx vy, vs = [vx, vy] := by
          match vs, hvs.len with
          | [vx, vy], _ => exact ⟨_, _, rfl⟩
        obtain ⟨⟨ax, rfl, hx⟩, ⟨ay, rfl, hy⟩, _⟩ := hvs
        refine ⟨_, rfl, l, _, rfl, sq_of (e23 _ _ hl), rfl, _, _, rfl, _, _, rfl, rfl, ?_⟩
        have hx3 := hx.ex e23
        have hy3 := hy.ex e23
        have hb2 : Bd x := by
          have := (near_iff.mp ht) x (by simp)
          exact Bd.of (n := 40) (by decide) this.1 this.2
        refine q_when (et_or (et_not (et_B (ev_has (z := .bl (Sq69.single x)) (ea_cons (ev_var rfl) ea_nil) fun H4 e4 => ⟨ax, x, rfl, hx3.ex e4, rfl⟩)))
          (fun _ => et_or (et_not (et_B (ev_has (z := .bl (Sq69.single y)) (ea_cons (ev_var rfl) ea_nil) fun H4 e4 => ⟨ay, y, rfl, hy3.ex e4, rfl⟩)))
          (fun _ => et_test (ev_op (ev_has (z := .int (Sq69.det x y)) (ea_cons (ev_var rfl) (ea_cons (ev_var rfl) ea_nil)) fun H4 e4 => ⟨ax, ay, x, y, rfl, hx3.ex e4, hy3.ex e4, .inl hb2, rfl⟩) ev_c rv_I0)))) (fun hu H4 e4 => ?_) (fun hu H4 e4 => ?_)
        · have hf : (Sq69.single x && (Sq69.single y && decide (0 < Sq69.det x y))) = false := by
            by_cases d : Sq69.det x y ≤ 0
            · rw [decide_eq_false (by omega : ¬ 0 < Sq69.det x y), Bool.and_false, Bool.and_false]
            · rw [decide_eq_false d] at hu
              revert hu
              cases Sq69.single x <;> cases Sq69.single y <;> simp
          rw [if_pos hf] at hc
          exact s_retU (eu_tup (ea_cons ev_c (ea_cons ev_c ea_nil)) (by show 2 ≤ 100000; decide)) fun t H5 ft e5 h5 => k _ _ (((e1.trans e23).trans e4).trans e5) ⟨t, rfl, .inl ⟨_, hc, h5⟩⟩
        · have hf : ¬ (Sq69.single x && (Sq69.single y && decide (0 < Sq69.det x y))) = false := by
            rw [Bool.or_eq_false_iff, Bool.or_eq_false_iff, decide_eq_false_iff_not] at hu
            rw [decide_eq_true (by omega : 0 < Sq69.det x y)]
            revert hu
            cases Sq69.single x <;> cases Sq69.single y <;> simp
          rw [if_neg hf] at hc
          refine s_retR (er_tup2 (x := .int 0) ev_c (er_make (ra_pts2 (er_ptv (ev_var rfl) ⟨ax, rfl, hx3.ex e4⟩) (er_ptv (ev_var rfl) ⟨ay, rfl, hy3.ex e4⟩)))) fun v H5 e5 hv => ?_
          obtain ⟨t, y', H6, rfl, ht, ⟨q, rfl, hq⟩, e6⟩ := hv
          exact k _ _ (((e1.trans e23).trans e4).trans e5) ⟨t, rfl, .inr ⟨_, q, hc, ht, hq.ex e6⟩⟩
end
end Cs
namespace Cs
open PySem PySem.Spec PyProof.Rows L2 Evl

section
variable {P : Program} {w : World} {K : PySem.W.Frag} {mg : Str → Option Value} {base : Heap} {C : Addr}
/-- a def of a good cone that gives back one value -/
def preC (C : Addr) (g : Sq69.Cone → V) : Pre := fun vs H R => ∃ (a : Addr) (c : Sq69.Cone), vs = [.ref a] ∧ ConeAt C H a c ∧ Good c ∧ R = fun v _ => v = g c
theorem preC_len {g : Sq69.Cone → V} : ∀ vs H R, preC C g vs H R → vs.length = (["cone"] : List Str).length := fun vs H R h => by
  obtain ⟨a, c, rfl, _⟩ := h
  rfl
/-! ### size_of -/
def gSize (c : Sq69.Cone) : V := .int (Sq69.det c.u c.v)
theorem scSizeOf : FnScope ["cone"] ["cone"] (defScope (top 14)) := ⟨rfl, rfl, rfl, by decide +kernel, rfl, by decide +kernel, by decide +kernel⟩
theorem ok_size_of (T : Cl K C) (D : Df K mg "size_of" 14 ["cone"]) (F : Has P w K mg base 1 "turn" ["one", "other"] preTurn) : Has P w K mg base 2 "size_of" ["cone"] (preC C gSize) := by
  refine D.has scSizeOf preC_len (fun f cdv A outer s H vs R Q E hr h k => ?_)
  obtain ⟨a, c, rfl, hc, G, rfl⟩ := h
  refine ⟨_, pss_one (ps_ret (pe_has F hr (by rfl) (pa_cons (pe_fld (pv 0) rfl) (pa_cons (pe_fld (pv 0) rfl) pa_nil)))), ?_⟩
  obtain ⟨v1, h1, x, rfl, p1⟩ := hc.first (te := tVar 0) (σ := [some (.ref a)]) T (ev_var rfl)
  obtain ⟨v2, h2, y, rfl, p2⟩ := hc.second (te := tVar 0) (σ := [some (.ref a)]) T (ev_var rfl)
  exact s_ret (ev_has (z := gSize c) (ea_cons h1 (ea_cons h2 ea_nil)) fun H1 e1 => ⟨x, y, c.u, c.v, rfl, p1.ex e1, p2.ex e1, .inl G.bu, rfl⟩) fun H1 e1 => k _ _ e1 rfl
/-- size_of(x) within another def -/
theorem ev_C {σ : L2.St} {H : Hp} {te : TE} {g : Sq69.Cone → V} {a : Addr} {c : Sq69.Cone} {E : XK} (h : Ev te σ H (.ref a)) (hc : ConeAt C H a c) (G : Good c) : Ev (tCall (spG (preC C g)) [] E (tCons te tNil)) σ H (g c) :=
  ev_has (ea_cons h ea_nil) fun H1 e1 => ⟨a, c, rfl, hc.ex e1, G, rfl⟩

/-! ### share_of -/
def gShare (c : Sq69.Cone) : V := .int (share c)
theorem scShareOf : FnScope ["cone", "n", "q", "x", "y"] ["cone"] (defScope (top 15)) := ⟨rfl, rfl, rfl, by decide +kernel, rfl, by decide +kernel, by decide +kernel⟩
theorem fmod_pos {x n : Int} (h : 0 < n) : x.fmod n = x % n := Int.fmod_eq_emod_of_nonneg _ (by omega)
theorem fdiv_pos {x n : Int} (h : 0 < n) : x.fdiv n = x / n := Int.fdiv_eq_ediv_of_nonneg _ (by omega)
theorem ok_share_of (B : Blt mg) (T : Cl K C) (D : Df K mg "share_of" 15 ["cone"]) (F : Has P w K mg base 2 "size_of" ["cone"] (preC C gSize)) : Has P w K mg base 3 "share_of" ["cone"] (preC C gShare) := by
  refine D.has scShareOf preC_len (fun f cdv A outer s H vs R Q E hr h k => ?_)
  obtain ⟨a, c, rfl, hc, G, rfl⟩ := h
  have nd := scShareOf.nd
  refine ⟨_, pss_cons (ps_set (i := 1) nd rfl (Or.inl rfl) (pe_has F hr (by rfl) (pa_cons (pv 0) pa_nil)))
    (pss_cons (ps_for PassesOwn.never rfl (pi_range1 (by rfl) B.range (pa_cons (pv 1) pa_nil)) (pg_name (i := 2) nd rfl (Or.inl rfl))
      (pss_cons (ps_set (i := 3) nd rfl (Or.inl rfl) (pe_op op_add (pe_ix ix_tup (pe_fld (pv 0) rfl) pe_int (fun _ _ => rfl)) (pe_op op_mul (pv 2) (pe_ix ix_tup (pe_fld (pv 0) rfl) pe_int (fun _ _ => rfl)))))
      (pss_cons (ps_set (i := 4) nd rfl (Or.inl rfl) (pe_op op_add (pe_ix ix_tup (pe_fld (pv 0) rfl) pe_int (fun _ _ => rfl)) (pe_op op_mul (pv 2) (pe_ix ix_tup (pe_fld (pv 0) rfl) pe_int (fun _ _ => rfl)))))
      (pss_one (ps_if (PW.pt (pw_and (pt_cmpR op_eq (pe_op op_modN (pv 3) (pv 1)) pe_int (nomark _)) (pw_and1 (pt_cmpR op_eq (pe_op op_modN (pv 4) (pv 1)) pe_int (nomark _)))))
        (pss_one (ps_ret (pv 2))) pss_nil)))))
    (pss_one (ps_ret pe_int))), ?_⟩
  have hn := G.n_le
  have hp := G.pos
  have hs0 := G.share_nn
  have hs1 := G.share_lt
  refine q_asg (ev_C (g := gSize) (ev_var rfl) hc G) fun H1 e1 => ?_
  refine q_forR1 (n := Sq69.det c.u c.v) (ea_cons (ev_var rfl) ea_nil) ⟨by omega, by omega⟩ (fun i σ H' => ∃ v2 v3 v4, σ = [some (.ref a), some (.int (Sq69.det c.u c.v)), v2, v3, v4] ∧ Ex H H' ∧ (i : Int) ≤ share c)
    (fun H2 e2 => ⟨_, _, _, rfl, e1.trans e2, hs0⟩) ?_ ?_
  · rintro i σ H2 hi ⟨v2, v3, v4, rfl, e2, hle⟩
    have hc2 := hc.ex e2
    have hq : CMul (i : Int) c.u.1 := .inr G.bu.1
    have hq2 : CMul (i : Int) c.u.2 := .inr G.bu.2
    refine q_asg (ev_op (ev_v0 T hc2 (ev_var rfl)) (ev_op (ev_var rfl) (ev_u0 T hc2 (ev_var rfl)) (rv_I hq)) rv_I0) fun H3 e3 => ?_
    have hc3 := hc2.ex e3
    refine q_asg (ev_op (ev_v1 T hc3 (ev_var rfl)) (ev_op (ev_var rfl) (ev_u1 T hc3 (ev_var rfl)) (rv_I hq2)) rv_I0) fun H4 e4 => ?_
    have e24 := (e2.trans e3).trans e4
    refine s_when (et_and (et_test (ev_op (ev_op (ev_var rfl) (ev_var rfl) (rv_I (show Sq69.det c.u c.v ≠ 0 by omega))) ev_c (rv_eq rfl))) (fun _ => et_test (ev_op (ev_op (ev_var rfl) (ev_var rfl) (rv_I (show Sq69.det c.u c.v ≠ 0 by omega))) ev_c (rv_eq rfl)))) (fun ht H5 e5 => ?_) (fun ht H5 e5 => ?_)
    · rw [Bool.and_eq_true, decide_eq_true_iff, decide_eq_true_iff] at ht
      have z1 := V.int.inj ht.1
      have z2 := V.int.inj ht.2
      rw [fmod_pos hp] at z1 z2
      refine s_ret (ev_var rfl) fun H6 e6 => k _ _ ((e24.trans e5).trans e6) ?_
      exact congrArg V.int (G.uniq (by omega) hi z1 z2)
    · refine ⟨_, _, _, rfl, e24.trans e5, ?_⟩
      by_cases z : (i : Int) = share c
      · exfalso
        rw [z, fmod_pos hp, fmod_pos hp, G.divs1, G.divs2] at ht
        simp at ht
      · omega
  · rintro σ H2 ⟨v2, v3, v4, rfl, e2, hle⟩
    exfalso
    omega

/-! ### second_point -/
def preR (C : Addr) (g : Sq69.Cone → Hp → V → Hp → Prop) : Pre := fun vs H R => ∃ (a : Addr) (c : Sq69.Cone), vs = [.ref a] ∧ ConeAt C H a c ∧ Good c ∧ R = g c H
theorem preR_len {g : Sq69.Cone → Hp → V → Hp → Prop} : ∀ vs H R, preR C g vs H R → vs.length = (["cone"] : List Str).length := fun vs H R h => by
  obtain ⟨a, c, rfl, _⟩ := h
  rfl
theorem er_C {σ : L2.St} {H : Hp} {te : TE} {g : Sq69.Cone → Hp → V → Hp → Prop} {R : V → Hp → Prop} {a : Addr} {c : Sq69.Cone} {E : XK} (h : Ev te σ H (.ref a)) (hc : ConeAt C H a c) (G : Good c) (hg : ∀ H1 v H2, g c H1 v H2 → R v H2) : Er (tCall (spG (preR C g)) [] E (tCons te tNil)) σ H R := fun H1 e Q q =>
  h H1 e _ fun H2 e2 => ⟨_, ⟨a, c, rfl, hc.ex (e.trans e2), G, rfl⟩, fun v H3 e3 r => q v H3 (e2.trans e3) (hg _ _ _ r)⟩
theorem el_C {σ : L2.St} {H : Hp} {te : TE} {f : Sq69.Cone → List V} {a : Addr} {c : Sq69.Cone} {E : XK} (h : Ev te σ H (.ref a)) (hc : ConeAt C H a c) (G : Good c) : EvL (tCall (spG (preR C fun c H => retL H (f c))) [] E (tCons te tNil)) σ H (f c) :=
  el_has (ea_cons h ea_nil) fun H1 e1 => ⟨a, c, rfl, hc.ex e1, G, rfl⟩
def gSecond (c : Sq69.Cone) (_ : Hp) : V → Hp → Prop := fun v H' => PtV H' v c.second
theorem scSecond : FnScope ["cone", "n", "q", "x", "y"] ["cone"] (defScope (top 16)) := ⟨rfl, rfl, rfl, by decide +kernel, rfl, by decide +kernel, by decide +kernel⟩
theorem ok_second_point (T : Cl K C) (D : Df K mg "second_point" 16 ["cone"]) (F : Has P w K mg base 2 "size_of" ["cone"] (preC C gSize)) (F2 : Has P w K mg base 3 "share_of" ["cone"] (preC C gShare)) : Has P w K mg base 4 "second_point" ["cone"] (preR C gSecond) := by
  refine D.has scSecond preR_len (fun f cdv A outer s H vs R Q E hr h k => ?_)
  obtain ⟨a, c, rfl, hc, G, rfl⟩ := h
  have nd := scSecond.nd
  refine ⟨_, pss_cons (ps_set (i := 1) nd rfl (Or.inl rfl) (pe_has F (hr.mono (by decide)) (by rfl) (pa_cons (pv 0) pa_nil)))
    (pss_cons (ps_set (i := 2) nd rfl (Or.inl rfl) (pe_has F2 hr (by rfl) (pa_cons (pv 0) pa_nil)))
    (pss_cons (ps_set (i := 3) nd rfl (Or.inl rfl) (pe_op op_add (pe_ix ix_tup (pe_fld (pv 0) rfl) pe_int (fun _ _ => rfl)) (pe_op op_mul (pv 2) (pe_ix ix_tup (pe_fld (pv 0) rfl) pe_int (fun _ _ => rfl)))))
    (pss_cons (ps_set (i := 4) nd rfl (Or.inl rfl) (pe_op op_add (pe_ix ix_tup (pe_fld (pv 0) rfl) pe_int (fun _ _ => rfl)) (pe_op op_mul (pv 2) (pe_ix ix_tup (pe_fld (pv 0) rfl) pe_int (fun _ _ => rfl)))))
    (pss_one (ps_ret (pe_tup (pa_cons (pe_op op_fdivN (pv 3) (pv 1)) (pa_cons (pe_op op_fdivN (pv 4) (pv 1)) pa_nil)))))))), ?_⟩
  have hn := G.n_le
  have hp := G.pos
  refine q_asg (ev_C (g := gSize) (ev_var rfl) hc G) fun H1 e1 => ?_
  refine q_asg (ev_C (g := gShare) (ev_var rfl) (hc.ex e1) G) fun H2 e2 => ?_
  have e12 := e1.trans e2
  have hc2 := hc.ex e12
  have hq : CMul (share c) c.u.1 := .inr G.bu.1
  have hq2 : CMul (share c) c.u.2 := .inr G.bu.2
  refine q_asg (ev_op (ev_v0 T hc2 (ev_var rfl)) (ev_op (ev_var rfl) (ev_u0 T hc2 (ev_var rfl)) (rv_I hq)) rv_I0) fun H3 e3 => ?_
  have hc3 := hc2.ex e3
  refine q_asg (ev_op (ev_v1 T hc3 (ev_var rfl)) (ev_op (ev_var rfl) (ev_u1 T hc3 (ev_var rfl)) (rv_I hq2)) rv_I0) fun H4 e4 => ?_
  have hd : CDivN (c.v.1 + share c * c.u.1) (Sq69.det c.u c.v) := ⟨by omega, by omega⟩
  have hd2 : CDivN (c.v.2 + share c * c.u.2) (Sq69.det c.u c.v) := ⟨by omega, by omega⟩
  have z1 : (c.v.1 + share c * c.u.1).fdiv (Sq69.det c.u c.v) = c.second.1 := by rw [fdiv_pos hp, G.quo1]
  have z2 : (c.v.2 + share c * c.u.2).fdiv (Sq69.det c.u c.v) = c.second.2 := by rw [fdiv_pos hp, G.quo2]
  refine s_retR (er_pt (ea_cons (ev_is (ev_op (ev_var rfl) (ev_var rfl) (rv_I hd)) (congrArg V.int z1)) (ea_cons (ev_is (ev_op (ev_var rfl) (ev_var rfl) (rv_I hd2)) (congrArg V.int z2)) ea_nil))) fun v H5 e5 hv => ?_
  exact k _ _ (((e12.trans e3).trans e4).trans e5) hv

/-! ### numbers_of -/
def fNums (c : Sq69.Cone) : List V := (numsOf c).map V.int
theorem scNumbers : FnScope ["cone", "found", "over", "part", "number", "left"] ["cone"] (defScope (top 17)) := ⟨rfl, rfl, rfl, by decide +kernel, rfl, by decide +kernel, by decide +kernel⟩
theorem ok_numbers_of (D : Df K mg "numbers_of" 17 ["cone"]) (F : Has P w K mg base 2 "size_of" ["cone"] (preC C gSize)) (F2 : Has P w K mg base 3 "share_of" ["cone"] (preC C gShare)) : Has P w K mg base 4 "numbers_of" ["cone"] (preR C fun c H => retL H (fNums c)) := by
  refine D.has scNumbers preR_len (fun f cdv A outer s H vs R Q E hr h k => ?_)
  obtain ⟨a, c, rfl, hc, G, rfl⟩ := h
  have nd := scNumbers.nd
  refine ⟨_, pss_cons (ps_set (i := 1) nd rfl (Or.inl rfl) (pe_lst pa_nil))
    (pss_cons (ps_set (i := 2) nd rfl (Or.inl rfl) (pe_has F (hr.mono (by decide)) (by rfl) (pa_cons (pv 0) pa_nil)))
    (pss_cons (ps_set (i := 3) nd rfl (Or.inl rfl) (pe_has F2 hr (by rfl) (pa_cons (pv 0) pa_nil)))
    (pss_cons (ps_while PassesOwn.never (pt_cmpR op_gt (pv 3) pe_int (nomark _))
      (pss_cons (ps_set (i := 4) nd rfl (Or.inl rfl) (pe_op op_fdivN (pe_op op_sub (pe_op op_add (pv 2) (pv 3)) pe_int) (pv 3)))
      (pss_cons (ps_expr (pe_bm PySem.F.plainAttrs_list PySem.F.slot_list_append PySem.F.type_list_append mt_append (pv 1) (pa_cons (pv 4) pa_nil)))
      (pss_cons (ps_set (i := 5) nd rfl (Or.inl rfl) (pe_op op_sub (pe_op op_mul (pv 4) (pv 3)) (pv 2)))
      (pss_cons (ps_set (i := 2) nd rfl (Or.inl rfl) (pv 3))
      (pss_one (ps_set (i := 3) nd rfl (Or.inl rfl) (pv 5))))))))
    (pss_one (ps_ret (pv 1)))))), ?_⟩
  have hn := G.n_le
  have hp := G.pos
  have hs0 := G.share_nn
  have hs1 := G.share_lt
  refine q_asgL (el_lst ea_nil (by decide)) fun l H1 fl e1 hl => ?_
  refine q_asg (ev_C (g := gSize) (ev_var rfl) (hc.ex e1) G) fun H2 e2 => ?_
  refine q_asg (ev_C (g := gShare) (ev_var rfl) (hc.ex (e1.trans e2)) G) fun H3 e3 => ?_
  refine q_while (fun m σ H' => ∃ (over part : Int) (acc : List Int) (v4 v5 : Option V), σ = [some (.ref a), some (.ref l), some (.int over), some (.int part), v4, v5] ∧ Ex H H' ∧ H' l = some (.lst (acc.map V.int)) ∧
    m = part.toNat ∧ 0 ≤ part ∧ part ≤ 3200 ∧ acc.length + m ≤ 3200 ∧ acc ++ nums m over part = numsOf c) (share c).toNat
    ⟨Sq69.det c.u c.v, share c, [], none, none, rfl, (e1.trans e2).trans e3, e3 _ _ (e2 _ _ hl), rfl, hs0, by omega, by show 0 + _ ≤ _; omega, rfl⟩ ?_
  rintro m σ H4 ⟨over, part, acc, v4, v5, rfl, e4, h4, rfl, hp0, hp1, hlen, heq⟩
  refine ⟨_, et_test (ev_op (ev_var rfl) ev_c rv_I0), fun ht H5 e5 => ?_, fun ht H5 e5 => ?_⟩
  · rw [decide_eq_true_iff] at ht
    have kk := cl_spec (m := over) ht
    refine ⟨fun σ' H' => σ' = [some (.ref a), some (.ref l), some (.int part), some (.int (cl over part * part - over)), some (.int (cl over part)), some (.int (cl over part * part - over))] ∧ Ex H H' ∧ H' l = some (.lst ((acc ++ [cl over part]).map V.int)), ?_, ?_⟩
    · rintro σ' H' ⟨rfl, e', h'⟩
      refine ⟨(cl over part * part - over).toNat, by omega, part, _, acc ++ [cl over part], _, _, rfl, e', h', rfl, kk.1, by omega, by rw [List.length_append]; show acc.length + 1 + _ ≤ _; omega, ?_⟩
      rw [← heq, List.append_assoc]
      refine congrArg (acc ++ ·) ?_
      obtain ⟨j, hj⟩ : ∃ j, part.toNat = j + 1 := ⟨part.toNat - 1, by omega⟩
      rw [hj, nums_pos ht]
      show cl over part :: nums _ _ _ = cl over part :: nums _ _ _
      rw [nums_more _ j part _ (Nat.le_refl _) (by omega)]
    · have hd : CDivN (over + part - 1) part := ⟨by omega, by omega⟩
      have z1 : (over + part - 1).fdiv part = cl over part := fdiv_pos ht
      refine q_asg (ev_is (ev_op (ev_op (ev_op (ev_var rfl) (ev_var rfl) rv_I0) ev_c rv_I0) (ev_var rfl) (rv_I hd)) (congrArg V.int z1)) fun H6 e6 => ?_
      refine q_app (e6 _ _ (e5 _ _ h4)) (ev_var rfl) (ev_var rfl) (by rw [List.length_map]; omega) fun H7 e7 => ?_
      have hm : CMul (cl over part) part := .inr ⟨by omega, by omega⟩
      refine q_asg (ev_op (ev_op (ev_var rfl) (ev_var rfl) (rv_I hm)) (ev_var rfl) rv_I0) fun H8 e8 => ?_
      refine q_asg (ev_var rfl) fun H9 e9 => ?_
      refine s_asg (ev_var rfl) fun H10 e10 => ?_
      refine ⟨rfl, (((((e4.trans e5).trans e6).trans e7).mut fl).trans ((e8.trans e9).trans e10)), ?_⟩
      rw [((e8.trans e9).trans e10) _ _ upd_same, List.map_append]
      rfl
  · rw [decide_eq_false_iff_not] at ht
    refine s_ret (ev_var rfl) fun H6 e6 => k _ _ ((e4.trans e5).trans e6) ⟨l, rfl, fl, ?_⟩
    have hz : part.toNat = 0 := by omega
    rw [hz] at heq
    have : acc = numsOf c := by rw [← heq]; show acc = acc ++ []; rw [List.append_nil]
    rw [e6 _ _ (e5 _ _ h4), this]
    rfl
end
end Cs
namespace Cs
open PySem PySem.Spec PyProof.Rows L2 Evl

/-! ### the chain, by its end -/
def lastTwo : Sq69.Point → Sq69.Point → List Int → Sq69.Point × Sq69.Point
  | a, b, [] => (a, b)
  | a, b, k :: ks => lastTwo b (nxt k a b) ks
theorem chain_snoc : ∀ (ks : List Int) (a b : Sq69.Point) (k : Int), chain a b (ks ++ [k]) = chain a b ks ++ [nxt k (lastTwo a b ks).1 (lastTwo a b ks).2]
  | [], _, _, _ => rfl
  | x :: ks, a, b, k => congrArg (nxt x a b :: ·) (chain_snoc ks b (nxt x a b) k)
theorem chain_last : ∀ (ks : List Int) (a b : Sq69.Point), (a :: b :: chain a b ks)[ks.length]? = some (lastTwo a b ks).1 ∧ (a :: b :: chain a b ks)[ks.length + 1]? = some (lastTwo a b ks).2
  | [], _, _ => ⟨rfl, rfl⟩
  | x :: ks, a, b => chain_last ks b (nxt x a b)

section
variable {P : Program} {w : World} {K : PySem.W.Frag} {mg : Str → Option Value} {base : Heap} {C : Addr}
theorem er_lst2 {σ : L2.St} {H : Hp} {ta tb : TE} {x : V} {R : V → Hp → Prop} (ha : Ev ta σ H x) (hb : Er tb σ H R) : Er (tLst (tCons ta (tCons tb tNil))) σ H (fun v H' => ∃ l y H1, v = .ref l ∧ H l = none ∧ Ex H1 H' ∧ H' l = some (.lst [x, y]) ∧ R y H1) := fun H1 e Q k =>
  ha H1 e _ fun H2 e2 => hb H2 (e.trans e2) _ fun y H3 e3 r => ⟨by show 2 ≤ sizeLine; decide, fun p hp => k _ _ ((e2.trans e3).trans (Ex.new hp)) ⟨p, y, H3, rfl, fresh_back ((e.trans e2).trans e3) hp, Ex.new hp, upd_same, r⟩⟩
theorem Good.num_bnd {c : Sq69.Cone} (G : Good c) {x : Int} (h : x ∈ numsOf c) : 0 ≤ x ∧ x ≤ 3200 := by
  have hn := G.n_le
  have hp := G.pos
  have hs1 := G.share_lt
  exact nums_bnd (k := 3200) _ _ _ hp hn (by omega) x h

/-! ### least_points -/
def gPts (f : Sq69.Cone → List Sq69.Point) (c : Sq69.Cone) (_ : Hp) : V → Hp → Prop := fun v H' => ∃ l, v = .ref l ∧ PtsAt H' l (f c)
theorem scLeast : FnScope ["cone", "found", "number", "before", "here"] ["cone"] (defScope (top 18)) := ⟨rfl, rfl, rfl, by decide +kernel, rfl, by decide +kernel, by decide +kernel⟩
theorem ok_least_points (B : Blt mg) (T : Cl K C) (D : Df K mg "least_points" 18 ["cone"]) (F : Has P w K mg base 4 "second_point" ["cone"] (preR C gSecond)) (F2 : Has P w K mg base 4 "numbers_of" ["cone"] (preR C fun c H => retL H (fNums c))) :
    Has P w K mg base 5 "least_points" ["cone"] (preR C (gPts Sq69.Cone.least)) := by
  refine D.has scLeast preR_len (fun f cdv A outer s H vs R Q E hr h k => ?_)
  obtain ⟨a, c, rfl, hc, G, rfl⟩ := h
  have nd := scLeast.nd
  refine ⟨_, pss_cons (ps_set (i := 1) nd rfl (Or.inl rfl) (pe_lst (pa_cons (pe_fld (pv 0) rfl) (pa_cons (pe_has F hr (by rfl) (pa_cons (pv 0) pa_nil)) pa_nil))))
    (pss_cons (ps_for PassesOwn.never rfl (pi_list (pe_has F2 hr (by rfl) (pa_cons (pv 0) pa_nil))) (pg_name (i := 2) nd rfl (Or.inl rfl))
      (pss_cons (ps_set (i := 3) nd rfl (Or.inl rfl) (pe_ix ix_list (pv 1) (pe_op op_sub (pe_callB call_len_seq (by rfl) B.len PySem.boot_len (pa_cons (pv 1) pa_nil)) pe_int) (fun _ _ => rfl)))
      (pss_cons (ps_set (i := 4) nd rfl (Or.inl rfl) (pe_ix ix_list (pv 1) (pe_op op_sub (pe_callB call_len_seq (by rfl) B.len PySem.boot_len (pa_cons (pv 1) pa_nil)) pe_int) (fun _ _ => rfl)))
      (pss_one (ps_expr (pe_bm PySem.F.plainAttrs_list PySem.F.slot_list_append PySem.F.type_list_append mt_append (pv 1) (pa_cons (pe_tup
        (pa_cons (pe_op op_sub (pe_op op_mul (pv 2) (pe_ix ix_tup (pv 4) pe_int (fun _ _ => rfl))) (pe_ix ix_tup (pv 3) pe_int (fun _ _ => rfl)))
        (pa_cons (pe_op op_sub (pe_op op_mul (pv 2) (pe_ix ix_tup (pv 4) pe_int (fun _ _ => rfl))) (pe_ix ix_tup (pv 3) pe_int (fun _ _ => rfl))) pa_nil))) pa_nil)))))))
    (pss_one (ps_ret (pv 1)))), ?_⟩
  obtain ⟨v1, h1, x1, rfl, p1⟩ := hc.first (te := tVar 0) (σ := [some (.ref a), none, none, none, none]) T (ev_var rfl)
  refine q_asgR (er_lst2 h1 (er_C (R := fun v H' => PtV H' v c.second) (ev_var rfl) hc G (fun _ _ _ h => h))) fun v H1 e1 hv => ?_
  obtain ⟨l, y, H0, rfl, fl, e0, hl, hy⟩ := hv
  have hc1 := hc.ex e1
  have hlen := G.nums_le
  refine q_forNLn (K := K) (xs := fNums c) (el_C (f := fNums) (ev_var rfl) hc1 G)
    (fun p i σ H' => ∃ v2 v3 v4 vs, σ = [some (.ref a), some (.ref l), v2, v3, v4] ∧ p ≠ l ∧ Ex H H' ∧ H' p = some (.lst (fNums c)) ∧ H' l = some (.lst vs) ∧ PtVs H' vs (c.u :: c.second :: chain c.u c.second ((numsOf c).take i)))
    (fun p H2 fp e2 h2 => ⟨_, _, _, _, rfl, (ne_of_none hl fp).symm, e1.trans e2, h2, e2 _ _ hl, ⟨x1, rfl, (p1.ex e1).ex e2⟩, (hy.ex e0).ex e2, trivial⟩)
    (fun p i σ H' _ ⟨_, _, _, _, _, _, _, h, _⟩ => sq_of h) ?_ ?_
  · rintro p i x σ H2 hx ⟨v2, v3, v4, vs, rfl, ne, e2, hp2, hl2, hvs⟩
    obtain ⟨z, hz, rfl⟩ : ∃ z, (numsOf c)[i]? = some z ∧ x = V.int z := by
      unfold fNums at hx
      rw [List.getElem?_map] at hx
      cases e : (numsOf c)[i]? with
      | none =>
        rw [e] at hx
        cases hx
      | some z =>
        rw [e] at hx
        exact ⟨z, rfl, (Option.some.inj hx).symm⟩
    have hi : i < (numsOf c).length := (List.getElem?_eq_some_iff.mp hz).1
    have hti : ((numsOf c).take i).length = i := by rw [List.length_take]; omega
    obtain ⟨l1, l2⟩ := chain_last ((numsOf c).take i) c.u c.second
    rw [hti] at l1 l2
    obtain ⟨a1, q1, r1⟩ := hvs.of l1
    obtain ⟨a2, q2, r2⟩ := hvs.of l2
    have hvl : vs.length = i + 2 := by
      rw [hvs.len]
      show (chain _ _ _).length + 1 + 1 = _
      rw [chain_len, hti]
    refine q_asg (ev_op (ev_var rfl) (ev_op (ev_len (ev_var rfl) (sq_of hl2)) ev_c rv_I0) (rv_ixL (sq_of hl2) (at_of (j := i) (by rw [hvl]; omega) q1))) fun H3 e3 => ?_
    refine q_asg (ev_op (ev_var rfl) (ev_op (ev_len (ev_var rfl) (sq_of (e3 _ _ hl2))) ev_c rv_I0) (rv_ixL (sq_of (e3 _ _ hl2)) (at_of (j := i + 1) (by rw [hvl]; omega) q2))) fun H4 e4 => ?_
    have e34 := e3.trans e4
    have b1 := r1.ex e34
    have b2 := r2.ex e34
    have hb := G.num_bnd (List.mem_of_getElem? hz)
    have hm : ∀ t : Int, CMul z t := fun t => .inl ⟨by omega, by omega⟩
    refine s_appU (e34 _ _ hl2) (ev_var rfl) (eu_tup (ea_cons (ev_op (ev_op (ev_var rfl) (ev_op (ev_var rfl) ev_c (ix0 b2)) (rv_I (hm _))) (ev_op (ev_var rfl) ev_c (ix0 b1)) rv_I0)
      (ea_cons (ev_op (ev_op (ev_var rfl) (ev_op (ev_var rfl) ev_c (ix1 b2)) (rv_I (hm _))) (ev_op (ev_var rfl) ev_c (ix1 b1)) rv_I0) ea_nil)) (by show 2 ≤ 100000; decide)) (by omega) fun q H5 fq e5 hq => ?_
    refine ⟨_, _, _, _, rfl, ne, ((e2.trans e34).trans e5).mut fl, ?_, upd_same, ?_⟩
    · rw [upd_ne ne]
      exact e5 _ _ (e34 _ _ hp2)
    · rw [take_snoc hz, chain_snoc]
      have hv5 := hvs.ex (e34.trans e5)
      exact PtVs.set (e5 _ _ (e34 _ _ hl2)) (PtVs.app hv5 ⟨q, rfl, hq⟩)
  · rintro p σ H2 ⟨v2, v3, v4, vs, rfl, ne, e2, hp2, hl2, hvs⟩
    refine s_ret (ev_var rfl) fun H3 e3 => k _ _ (e2.trans e3) ⟨l, rfl, vs, e3 _ _ hl2, ?_⟩
    have hz : (fNums c).length = (numsOf c).length := List.length_map _
    rw [hz, List.take_length] at hvs
    rw [G.least_eq]
    exact hvs.ex e3

/-! ### corners_of -/
theorem scCorners : FnScope ["cone", "points", "numbers", "found", "k"] ["cone"] (defScope (top 19)) := ⟨rfl, rfl, rfl, by decide +kernel, rfl, by decide +kernel, by decide +kernel⟩
theorem er_lst1 {σ : L2.St} {H : Hp} {ta : TE} {x : V} (ha : Ev ta σ H x) : EvL (tLst (tCons ta tNil)) σ H [x] := el_lst (ea_cons ha ea_nil) (by show 1 ≤ 100000; decide)
theorem ok_corners_of (B : Blt mg) (T : Cl K C) (D : Df K mg "corners_of" 19 ["cone"]) (F : Has P w K mg base 5 "least_points" ["cone"] (preR C (gPts Sq69.Cone.least))) (F2 : Has P w K mg base 4 "numbers_of" ["cone"] (preR C fun c H => retL H (fNums c))) :
    Has P w K mg base 6 "corners_of" ["cone"] (preR C (gPts Sq69.Cone.sail)) := by
  refine D.has scCorners preR_len (fun f cdv A outer s H vs R Q E hr h k => ?_)
  obtain ⟨a, c, rfl, hc, G, rfl⟩ := h
  have nd := scCorners.nd
  refine ⟨_, pss_cons (ps_set (i := 1) nd rfl (Or.inl rfl) (pe_has F hr (by rfl) (pa_cons (pv 0) pa_nil)))
    (pss_cons (ps_set (i := 2) nd rfl (Or.inl rfl) (pe_has F2 (hr.mono (by decide)) (by rfl) (pa_cons (pv 0) pa_nil)))
    (pss_cons (ps_set (i := 3) nd rfl (Or.inl rfl) (pe_lst (pa_cons (pe_fld (pv 0) rfl) pa_nil)))
    (pss_cons (ps_for PassesOwn.never rfl (pi_range1 (by rfl) B.range (pa_cons (pe_callB call_len_seq (by rfl) B.len PySem.boot_len (pa_cons (pv 2) pa_nil)) pa_nil)) (pg_name (i := 4) nd rfl (Or.inl rfl))
      (pss_one (ps_if (pt_cmpR op_gt (pe_ix ix_list (pv 2) (pv 4) (fun _ _ => rfl)) pe_int (nomark _))
        (pss_one (ps_expr (pe_bm PySem.F.plainAttrs_list PySem.F.slot_list_append PySem.F.type_list_append mt_append (pv 3) (pa_cons (pe_ix ix_list (pv 1) (pe_op op_add (pv 4) pe_int) (fun _ _ => rfl)) pa_nil)))) pss_nil)))
    (pss_cons (ps_expr (pe_bm PySem.F.plainAttrs_list PySem.F.slot_list_append PySem.F.type_list_append mt_append (pv 3) (pa_cons (pe_fld (pv 0) rfl) pa_nil)))
    (pss_one (ps_ret (pv 3))))))), ?_⟩
  refine q_asgR (er_C (R := fun v H' => ∃ l, v = .ref l ∧ PtsAt H' l (Sq69.Cone.least c)) (ev_var rfl) hc G (fun _ _ _ h => h)) fun v H1 e1 hv => ?_
  obtain ⟨lp, rfl, vp, hlp, hvp⟩ := hv
  refine q_asgL (el_C (f := fNums) (ev_var rfl) (hc.ex e1) G) fun ln H2 fn e2 hln => ?_
  have e12 := e1.trans e2
  have hlp2 := e2 _ _ hlp
  have hvp2 := hvp.ex e2
  have hc2 := hc.ex e12
  obtain ⟨v1, h1, x1, rfl, p1⟩ := hc2.first (te := tVar 0) (σ := [some (.ref a), some (.ref lp), some (.ref ln), none, none]) T (ev_var rfl)
  refine q_asgL (er_lst1 h1) fun l H3 fl e3 hl => ?_
  have hlen := G.nums_le
  have hll := G.least_len
  have hnl : (fNums c).length = (numsOf c).length := List.length_map _
  refine q_forR1 (n := ((fNums c).length : Int)) (ea_cons (ev_len (ev_var rfl) (sq_of (e3 _ _ hln))) ea_nil) ⟨by omega, by omega⟩
    (fun i σ H' => ∃ v4 vs, σ = [some (.ref a), some (.ref lp), some (.ref ln), some (.ref l), v4] ∧ Ex H2 H' ∧ H' l = some (.lst vs) ∧ vs.length ≤ i + 1 ∧ PtVs H' vs (c.u :: (((((Sq69.Cone.least c).drop 1).zip (Sq69.numbers (Sq69.Cone.least c))).take i).filter fun x => decide (2 < x.2)).map fun x => x.1))
    (fun H4 e4 => ⟨_, _, rfl, e3.trans e4, e4 _ _ hl, Nat.le_refl _, ⟨x1, rfl, (p1.ex e3).ex e4⟩, trivial⟩) ?_ ?_
  · rintro i σ H4 hi ⟨v4, vs, rfl, e4, hl4, hvl, hvs⟩
    have hi' : i < (numsOf c).length := by omega
    obtain ⟨z, hz⟩ : ∃ z, (numsOf c)[i]? = some z := ⟨_, List.getElem?_eq_getElem hi'⟩
    obtain ⟨p, hp⟩ : ∃ p, (Sq69.Cone.least c)[i + 1]? = some p := ⟨_, List.getElem?_eq_getElem (by omega)⟩
    have hzip : (((Sq69.Cone.least c).drop 1).zip (Sq69.numbers (Sq69.Cone.least c)))[i]? = some (p, z) := by
      rw [G.numbers_eq, List.getElem?_zip_eq_some]
      refine ⟨?_, hz⟩
      rw [List.getElem?_drop, Nat.add_comm]
      exact hp
    obtain ⟨ap, qp, rp⟩ := hvp2.of hp
    have hzf : (fNums c)[i]? = some (V.int z) := by
      unfold fNums
      rw [List.getElem?_map, hz]
      rfl
    refine s_when (et_test (ev_op (ev_op (ev_var rfl) (ev_var rfl) (rv_ixL (sq_of (e4 _ _ hln)) (atI_nat hzf))) ev_c rv_I0)) (fun ht H5 e5 => ?_) (fun ht H5 e5 => ?_)
    · refine s_app (e5 _ _ hl4) (ev_var rfl) (ev_op (ev_var rfl) (ev_op (ev_var rfl) ev_c rv_I0) (rv_ixL (sq_of (e5 _ _ (e4 _ _ hlp2))) (at_of (j := i + 1) (by omega) qp))) (by omega) fun H6 e6 => ?_
      refine ⟨_, _, rfl, ((e4.trans e5).trans e6).mut fl, upd_same, by rw [List.length_append]; show _ + 1 ≤ _; omega, ?_⟩
      rw [take_snoc hzip, List.filter_append, List.map_append]
      have hf : ([(p, z)].filter fun x => decide (2 < x.2)) = [(p, z)] := by
        rw [List.filter_cons, if_pos ht]
        rfl
      rw [hf]
      have hv6 := hvs.ex (e5.trans e6)
      exact PtVs.set (e6 _ _ (e5 _ _ hl4)) (PtVs.app hv6 ⟨ap, rfl, ((rp.ex e4).ex e5).ex e6⟩)
    · refine ⟨_, _, rfl, e4.trans e5, e5 _ _ hl4, by omega, ?_⟩
      rw [take_snoc hzip, List.filter_append, List.map_append]
      have hf : ([(p, z)].filter fun x => decide (2 < x.2)) = [] := by
        rw [List.filter_cons, if_neg (by rw [ht]; decide)]
        rfl
      rw [hf]
      show PtVs H5 vs (c.u :: (_ ++ []))
      rw [List.append_nil]
      exact hvs.ex e5
  · rintro σ H4 ⟨v4, vs, rfl, e4, hl4, hvl, hvs⟩
    obtain ⟨v2, h2, x2, rfl, p2⟩ := (hc2.ex e4).second (te := tVar 0) (σ := [some (.ref a), some (.ref lp), some (.ref ln), some (.ref l), v4]) T (ev_var rfl)
    refine q_app hl4 (ev_var rfl) h2 (by omega) fun H5 e5 => ?_
    refine s_ret (ev_var rfl) fun H6 e6 => k _ _ ((e12.trans ((e4.trans e5).mut fl)).trans e6) ⟨l, rfl, _, e6 _ _ upd_same, ?_⟩
    have hz : (((Sq69.Cone.least c).drop 1).zip (Sq69.numbers (Sq69.Cone.least c))).length ≤ ((fNums c).length : Int).toNat := by
      rw [List.length_zip, G.numbers_eq]
      omega
    rw [List.take_of_length_le hz] at hvs
    exact (PtVs.set (e5 _ _ hl4) (PtVs.app (hvs.ex e5) ⟨x2, rfl, p2.ex e5⟩)).ex e6
end
end Cs
namespace Cs
open PySem PySem.Spec PyProof.Rows L2 Evl
section
variable {P : Program} {w : World} {K : PySem.W.Frag} {mg : Str → Option Value} {base : Heap} {C : Addr}
/-! ### changed, other_share -/
def gCone (C : Addr) (f : Sq69.Cone → Sq69.Cone) (c : Sq69.Cone) (_ : Hp) : V → Hp → Prop := fun v H' => ConeV C H' v (f c)
theorem er_C2 {σ : L2.St} {H : Hp} {te : TE} {g : Sq69.Cone → Hp → V → Hp → Prop} {R : V → Hp → Prop} {d : Sq69.Cone} {E : XK} (h : Er te σ H (fun v H' => ConeV C H' v d)) (G : Good d) (hg : ∀ H1 v H2, g d H1 v H2 → R v H2) : Er (tCall (spG (preR C g)) [] E (tCons te tNil)) σ H R := fun H1 e Q q =>
  h H1 e _ fun v H2 e2 r => by
    obtain ⟨x, rfl, r⟩ := r
    exact ⟨_, ⟨x, d, rfl, r, G, rfl⟩, fun v H3 e3 r => q v H3 (e2.trans e3) (hg _ _ _ r)⟩
theorem el_C2 {σ : L2.St} {H : Hp} {te : TE} {f : Sq69.Cone → List V} {d : Sq69.Cone} {E : XK} (h : Er te σ H (fun v H' => ConeV C H' v d)) (G : Good d) : EvL (tCall (spG (preR C fun c H => retL H (f c))) [] E (tCons te tNil)) σ H (f d) := fun H1 e Q q =>
  h H1 e _ fun v H2 e2 r => by
    obtain ⟨x, rfl, r⟩ := r
    exact ⟨_, ⟨x, d, rfl, r, G, rfl⟩, fun v H3 e3 r => by
      obtain ⟨p, rfl, r1, r2⟩ := r
      exact q p H3 (fresh_back e2 r1) (e2.trans e3) r2⟩
theorem ev_C2 {σ : L2.St} {H : Hp} {te : TE} {g : Sq69.Cone → V} {d : Sq69.Cone} {E : XK} (h : Er te σ H (fun v H' => ConeV C H' v d)) (G : Good d) : Ev (tCall (spG (preC C g)) [] E (tCons te tNil)) σ H (g d) := fun H1 e Q q =>
  h H1 e _ fun v H2 e2 r => by
    obtain ⟨x, rfl, r⟩ := r
    exact ⟨_, ⟨x, d, rfl, r, G, rfl⟩, fun v H3 e3 r => by subst r; exact q H3 (e2.trans e3)⟩
theorem scChanged : FnScope ["cone"] ["cone"] (defScope (top 20)) := ⟨rfl, rfl, rfl, by decide +kernel, rfl, by decide +kernel, by decide +kernel⟩
theorem ok_changed (T : Cl K C) (D : Df K mg "changed" 20 ["cone"]) (M : Makes P w K mg base C) : Has P w K mg base 3 "changed" ["cone"] (preR C (gCone C Sq69.Cone.turned)) := by
  refine D.has scChanged preR_len (fun f cdv A outer s H vs R Q E hr h k => ?_)
  obtain ⟨a, c, rfl, hc, G, rfl⟩ := h
  refine ⟨_, pss_one (ps_ret (pe_cone M hr (by rfl) (pa_cons (pe_tup (pa_cons (pe_ix ix_tup (pe_fld (pv 0) rfl) pe_int (fun _ _ => rfl)) (pa_cons (pe_ix ix_tup (pe_fld (pv 0) rfl) pe_int (fun _ _ => rfl)) pa_nil)))
    (pa_cons (pe_tup (pa_cons (pe_ix ix_tup (pe_fld (pv 0) rfl) pe_int (fun _ _ => rfl)) (pa_cons (pe_ix ix_tup (pe_fld (pv 0) rfl) pe_int (fun _ _ => rfl)) pa_nil))) pa_nil)))), ?_⟩
  exact s_retR (er_make (ra_pts2 (er_pt (ea_cons (ev_v1 T hc (ev_var rfl)) (ea_cons (ev_v0 T hc (ev_var rfl)) ea_nil))) (er_pt (ea_cons (ev_u1 T hc (ev_var rfl)) (ea_cons (ev_u0 T hc (ev_var rfl)) ea_nil))))) fun v H1 e1 hv => k _ _ e1 hv
def gOther (c : Sq69.Cone) : V := .int (share c.turned)
theorem scOther : FnScope ["cone"] ["cone"] (defScope (top 21)) := ⟨rfl, rfl, rfl, by decide +kernel, rfl, by decide +kernel, by decide +kernel⟩
theorem ok_other_share (D : Df K mg "other_share" 21 ["cone"]) (F : Has P w K mg base 3 "changed" ["cone"] (preR C (gCone C Sq69.Cone.turned))) (F2 : Has P w K mg base 3 "share_of" ["cone"] (preC C gShare)) : Has P w K mg base 4 "other_share" ["cone"] (preC C gOther) := by
  refine D.has scOther preC_len (fun f cdv A outer s H vs R Q E hr h k => ?_)
  obtain ⟨a, c, rfl, hc, G, rfl⟩ := h
  refine ⟨_, pss_one (ps_ret (pe_has F2 hr (by rfl) (pa_cons (pe_has F hr (by rfl) (pa_cons (pv 0) pa_nil)) pa_nil))), ?_⟩
  exact s_ret (ev_C2 (g := gShare) (er_C (R := fun v H' => ConeV C H' v c.turned) (ev_var rfl) hc G (fun _ _ _ h => h)) G.turned) fun H1 e1 => k _ _ e1 rfl

/-! ### are_alike -/
def preAlike (C : Addr) : Pre := fun vs H R => ∃ (a b : Addr) (c d : Sq69.Cone), vs = [.ref a, .ref b] ∧ ConeAt C H a c ∧ ConeAt C H b d ∧ Good c ∧ Good d ∧ R = fun v _ => v = .bl (Sq69.alike c d)
theorem scAlike : FnScope ["one", "other", "own"] ["one", "other"] (defScope (top 22)) := ⟨rfl, rfl, rfl, by decide +kernel, rfl, by decide +kernel, by decide +kernel⟩
theorem dec_ints {i j : Int} : decide (V.int i = V.int j) = decide (i = j) := by
  rw [Bool.eq_iff_iff, decide_eq_true_iff, decide_eq_true_iff]
  exact ⟨V.int.inj, congrArg _⟩
theorem ok_are_alike (D : Df K mg "are_alike" 22 ["one", "other"]) (F : Has P w K mg base 2 "size_of" ["cone"] (preC C gSize)) (F2 : Has P w K mg base 3 "share_of" ["cone"] (preC C gShare)) (F3 : Has P w K mg base 4 "other_share" ["cone"] (preC C gOther)) :
    Has P w K mg base 5 "are_alike" ["one", "other"] (preAlike C) := by
  refine D.has scAlike (fun vs H R h => ?_) (fun f cdv A outer s H vs R Q E hr h k => ?_)
  · obtain ⟨a, b, c, d, rfl, _⟩ := h
    rfl
  obtain ⟨a, b, c, d, rfl, hc, hd, G, G2, rfl⟩ := h
  have nd := scAlike.nd
  refine ⟨_, pss_cons (ps_if (pt_cmpR op_ne (pe_has F (hr.mono (by decide)) (by rfl) (pa_cons (pv 0) pa_nil)) (pe_has F (hr.mono (by decide)) (by rfl) (pa_cons (pv 1) pa_nil)) (nomark _)) (pss_one (ps_ret pe_bl)) pss_nil)
    (pss_cons (ps_set (i := 2) nd rfl (Or.inl rfl) (pe_has F2 (hr.mono (by decide)) (by rfl) (pa_cons (pv 0) pa_nil)))
    (pss_one (ps_ret (pe_or (pe_cmpR op_eq (pv 2) (pe_has F2 (hr.mono (by decide)) (by rfl) (pa_cons (pv 1) pa_nil)) (nomark _)) (pe_one (pe_cmpR op_eq (pv 2) (pe_has F3 hr (by rfl) (pa_cons (pv 1) pa_nil)) (nomark _))))))), ?_⟩
  have hl : likeP c d = Sq69.alike c d := like_eq G G2
  unfold likeP at hl
  refine q_when (et_test (ev_op (ev_C (g := gSize) (ev_var rfl) hc G) (ev_C (g := gSize) (ev_var rfl) hd G2) (rv_ne rfl))) (fun ht H1 e1 => ?_) (fun ht H1 e1 => ?_)
  · rw [show gSize c = V.int _ from rfl, show gSize d = V.int _ from rfl, dec_ints, Bool.not_eq_true', decide_eq_false_iff_not] at ht
    rw [if_neg ht] at hl
    exact s_ret ev_c fun H2 e2 => k _ _ (e1.trans e2) (congrArg V.bl hl)
  · rw [show gSize c = V.int _ from rfl, show gSize d = V.int _ from rfl, dec_ints, Bool.not_eq_false', decide_eq_true_iff] at ht
    rw [if_pos ht] at hl
    refine q_asg (ev_C (g := gShare) (ev_var rfl) (hc.ex e1) G) fun H2 e2 => ?_
    have hd2 := hd.ex (e1.trans e2)
    refine s_ret (ev_orV (ev_op (ev_var rfl) (ev_C (g := gShare) (ev_var rfl) hd2 G2) (rv_eq rfl)) (fun _ => ev_op (ev_var rfl) (ev_C (g := gOther) (ev_var rfl) hd2 G2) (rv_eq rfl))) fun H3 e3 => k _ _ ((e1.trans e2).trans e3) (congrArg V.bl ?_)
    rw [← hl, show gShare c = V.int _ from rfl, show gShare d = V.int _ from rfl, show gOther d = V.int _ from rfl, dec_ints, dec_ints]

/-! ### dual_of -/
theorem scDual : FnScope ["cone", "u", "v"] ["cone"] (defScope (top 23)) := ⟨rfl, rfl, rfl, by decide +kernel, rfl, by decide +kernel, by decide +kernel⟩
theorem ok_dual_of (T : Cl K C) (D : Df K mg "dual_of" 23 ["cone"]) (M : Makes P w K mg base C) : Has P w K mg base 3 "dual_of" ["cone"] (preR C (gCone C Sq69.Cone.dual)) := by
  refine D.has scDual preR_len (fun f cdv A outer s H vs R Q E hr h k => ?_)
  obtain ⟨a, c, rfl, hc, G, rfl⟩ := h
  have nd := scDual.nd
  refine ⟨_, pss_cons (ps_set (i := 1) nd rfl (Or.inl rfl) (pe_fld (pv 0) rfl))
    (pss_cons (ps_set (i := 2) nd rfl (Or.inl rfl) (pe_fld (pv 0) rfl))
    (pss_one (ps_ret (pe_cone M hr (by rfl) (pa_cons (pe_tup (pa_cons (pe_ix ix_tup (pv 2) pe_int (fun _ _ => rfl)) (pa_cons (pe_un un_neg (pe_ix ix_tup (pv 2) pe_int (fun _ _ => rfl))) pa_nil)))
      (pa_cons (pe_tup (pa_cons (pe_un un_neg (pe_ix ix_tup (pv 1) pe_int (fun _ _ => rfl))) (pa_cons (pe_ix ix_tup (pv 1) pe_int (fun _ _ => rfl)) pa_nil))) pa_nil)))))), ?_⟩
  obtain ⟨v1, h1, x, rfl, p1⟩ := hc.first (te := tVar 0) (σ := [some (.ref a), none, none]) T (ev_var rfl)
  refine q_asg h1 fun H1 e1 => ?_
  obtain ⟨v2, h2, y, rfl, p2⟩ := (hc.ex e1).second (te := tVar 0) (σ := [some (.ref a), some (.ref x), none]) T (ev_var rfl)
  refine q_asg h2 fun H2 e2 => ?_
  have q1 := p1.ex (e1.trans e2)
  have q2 := p2.ex e2
  exact s_retR (er_make (ra_pts2 (er_pt (ea_cons (ev_op (ev_var rfl) ev_c (ix1 q2)) (ea_cons (ev_un (ev_op (ev_var rfl) ev_c (ix0 q2)) ru_neg) ea_nil))) (er_pt (ea_cons (ev_un (ev_op (ev_var rfl) ev_c (ix1 q1)) ru_neg) (ea_cons (ev_op (ev_var rfl) ev_c (ix0 q1)) ea_nil))))) fun v H3 e3 hv => k _ _ ((e1.trans e2).trans e3) hv

/-! ### parts_of -/
def preParts (C : Addr) : Pre := fun vs H R => ∃ (a b : Addr) (c : Sq69.Cone) (p : Sq69.Point), vs = [.ref a, .ref b] ∧ ConeAt C H a c ∧ Good c ∧ PtAt H b p ∧ Bd p ∧
  R = fun v H' => (toldOut c p = [0] ∧ v = .non) ∨ ∃ t x y z, toldOut c p = [1, x, y, z] ∧ v = .ref t ∧ H' t = some (.tup [.int x, .int y, .int z])
theorem scParts : FnScope ["cone", "point", "points", "k", "here", "there", "often", "again"] ["cone", "point"] (defScope (top 24)) := ⟨rfl, rfl, rfl, by decide +kernel, rfl, by decide +kernel, by decide +kernel⟩
theorem ok_parts_of (B : Blt mg) (D : Df K mg "parts_of" 24 ["cone", "point"]) (F : Has P w K mg base 5 "least_points" ["cone"] (preR C (gPts Sq69.Cone.least))) (F2 : Has P w K mg base 1 "turn" ["one", "other"] preTurn) : Has P w K mg base 6 "parts_of" ["cone", "point"] (preParts C) := by
  refine D.has scParts (fun vs H R h => ?_) (fun f cdv A outer s H vs R Q E hr h k => ?_)
  · obtain ⟨a, b, c, p, rfl, _⟩ := h
    rfl
  obtain ⟨a, b, c, p, rfl, hc, G, hp, hB, rfl⟩ := h
  have nd := scParts.nd
  refine ⟨_, pss_cons (ps_set (i := 2) nd rfl (Or.inl rfl) (pe_has F hr (by rfl) (pa_cons (pv 0) pa_nil)))
    (pss_cons (ps_for PassesOwn.never rfl (pi_range1 (by rfl) B.range (pa_cons (pe_op op_sub (pe_callB call_len_seq (by rfl) B.len PySem.boot_len (pa_cons (pv 2) pa_nil)) pe_int) pa_nil)) (pg_name (i := 3) nd rfl (Or.inl rfl))
      (pss_cons (ps_set (i := 4) nd rfl (Or.inl rfl) (pe_ix ix_list (pv 2) (pv 3) (fun _ _ => rfl)))
      (pss_cons (ps_set (i := 5) nd rfl (Or.inl rfl) (pe_ix ix_list (pv 2) (pe_op op_add (pv 3) pe_int) (fun _ _ => rfl)))
      (pss_cons (ps_set (i := 6) nd rfl (Or.inl rfl) (pe_has F2 (hr.mono (by decide)) (by rfl) (pa_cons (pv 1) (pa_cons (pv 5) pa_nil))))
      (pss_cons (ps_set (i := 7) nd rfl (Or.inl rfl) (pe_has F2 (hr.mono (by decide)) (by rfl) (pa_cons (pv 4) (pa_cons (pv 1) pa_nil))))
      (pss_one (ps_if (PW.pt (pw_and (pt_cmpR op_ge (pv 6) pe_int (nomark _)) (pw_and1 (pt_cmpR op_ge (pv 7) pe_int (nomark _)))))
        (pss_one (ps_ret (pe_tup (pa_cons (pv 3) (pa_cons (pv 6) (pa_cons (pv 7) pa_nil)))))) pss_nil)))))))
    (pss_one (ps_ret pe_non))), ?_⟩
  refine q_asgR (er_C (R := fun v H' => ∃ l, v = .ref l ∧ PtsAt H' l (Sq69.Cone.least c)) (ev_var rfl) hc G (fun _ _ _ h => h)) fun v H1 e1 hv => ?_
  obtain ⟨l, rfl, vs, hl, hvs⟩ := hv
  have hlen := G.nums_le
  have hll := G.least_len
  have hvl := hvs.len
  refine q_forR1 (n := (vs.length : Int) - 1) (ea_cons (ev_op (ev_len (ev_var rfl) (sq_of hl)) ev_c rv_I0) ea_nil) ⟨by omega, by omega⟩
    (fun i σ H' => ∃ v3 v4 v5 v6 v7, σ = [some (.ref a), some (.ref b), some (.ref l), v3, v4, v5, v6, v7] ∧ Ex H1 H' ∧ ∀ j, j < i → ¬ fits (Sq69.Cone.least c) p j)
    (fun H2 e2 => ⟨_, _, _, _, _, rfl, e2, fun j hj => absurd hj (Nat.not_lt_zero _)⟩) ?_ ?_
  · rintro i σ H2 hi ⟨v3, v4, v5, v6, v7, rfl, e2, hno⟩
    obtain ⟨x, hx⟩ : ∃ x, (Sq69.Cone.least c)[i]? = some x := ⟨_, List.getElem?_eq_getElem (by omega)⟩
    obtain ⟨y, hy⟩ : ∃ y, (Sq69.Cone.least c)[i + 1]? = some y := ⟨_, List.getElem?_eq_getElem (by omega)⟩
    obtain ⟨ax, qx, rx⟩ := hvs.of hx
    obtain ⟨ay, qy, ry⟩ := hvs.of hy
    refine q_asg (ev_op (ev_var rfl) (ev_var rfl) (rv_ixL (sq_of (e2 _ _ hl)) (atI_nat qx))) fun H3 e3 => ?_
    refine q_asg (ev_op (ev_var rfl) (ev_op (ev_var rfl) ev_c rv_I0) (rv_ixL (sq_of (e3 _ _ (e2 _ _ hl))) (at_of (j := i + 1) (by omega) qy))) fun H4 e4 => ?_
    have e24 := (e2.trans e3).trans e4
    refine q_asg (ev_has (z := .int (Sq69.det p y)) (ea_cons (ev_var rfl) (ea_cons (ev_var rfl) ea_nil)) fun H5 e5 => ⟨b, ay, p, y, rfl, hp.ex ((e1.trans e24).trans e5), ry.ex (e24.trans e5), .inl hB, rfl⟩) fun H5 e5 => ?_
    refine q_asg (ev_has (z := .int (Sq69.det x p)) (ea_cons (ev_var rfl) (ea_cons (ev_var rfl) ea_nil)) fun H6 e6 => ⟨ax, b, x, p, rfl, rx.ex ((e24.trans e5).trans e6), hp.ex (((e1.trans e24).trans e5).trans e6), .inr hB, rfl⟩) fun H6 e6 => ?_
    have e26 := (e24.trans e5).trans e6
    refine s_when (et_and (et_test (ev_op (ev_var rfl) ev_c rv_I0)) (fun _ => et_test (ev_op (ev_var rfl) ev_c rv_I0))) (fun ht H7 e7 => ?_) (fun ht H7 e7 => ?_)
    · rw [Bool.and_eq_true, decide_eq_true_iff, decide_eq_true_iff] at ht
      exact s_retU (eu_tup (ea_cons (ev_var rfl) (ea_cons (ev_var rfl) (ea_cons (ev_var rfl) ea_nil))) (by show 3 ≤ 100000; decide)) fun t H8 ft e8 h8 => k _ _ (((e1.trans e26).trans e7).trans e8) (.inr ⟨t, _, _, _, toldOut_some G hx hy ht.1 ht.2 hno, rfl, h8⟩)
    · rw [Bool.and_eq_false_iff, decide_eq_false_iff_not, decide_eq_false_iff_not] at ht
      refine ⟨_, _, _, _, _, rfl, e26.trans e7, fun j hj => ?_⟩
      by_cases z : j < i
      · exact hno j z
      · have : j = i := by omega
        subst this
        rintro ⟨a', b', g1, g2, g3, g4⟩
        rw [hx] at g1
        rw [hy] at g2
        cases g1
        cases g2
        rcases ht with z | z
        · exact z g3
        · exact z g4
  · rintro σ H2 ⟨v3, v4, v5, v6, v7, rfl, e2, hno⟩
    refine s_ret ev_c fun H3 e3 => k _ _ ((e1.trans e2).trans e3) (.inl ⟨toldOut_none fun j hj => hno j (by omega), rfl⟩)
end
end Cs
namespace Cs
open PySem PySem.Spec PyProof.Rows L2 Evl
section
variable {P : Program} {w : World} {K : PySem.W.Frag} {mg : Str → Option Value} {base : Heap} {C : Addr}
/-- a fraction as a point -/
def fr (a : Sq69.Frac) : Sq69.Point := ((a.1 : Int), (a.2 : Int))
def nI (n : Nat) : V := .int (n : Int)
theorem PtAt.upd {H : Hp} {a l : Addr} {p : Sq69.Point} {xs ys : List V} (h : PtAt H a p) (hl : H l = some (.lst xs)) : PtAt (upd H l (.lst ys)) a p := by
  have ne : a ≠ l := by
    rintro rfl
    have e : some (HO.tup _) = some (HO.lst xs) := (show H a = _ from h).symm.trans hl
    cases e
  show L2.upd H l (.lst ys) a = _
  rw [upd_ne ne]
  exact h
/-! ### together, is_above, is_below -/
def preTogether : Pre := fun vs H R => ∃ (a b : Addr) (p q : Sq69.Frac), vs = [.ref a, .ref b] ∧ PtAt H a (fr p) ∧ PtAt H b (fr q) ∧ R = fun v H' => PtV H' v (fr (mid p q))
theorem scTogether : FnScope ["low", "high"] ["low", "high"] (defScope (top 28)) := ⟨rfl, rfl, rfl, by decide +kernel, rfl, by decide +kernel, by decide +kernel⟩
theorem ok_together (D : Df K mg "together" 28 ["low", "high"]) : Has P w K mg base 1 "together" ["low", "high"] preTogether := by
  refine D.has scTogether (fun vs H R h => ?_) (fun f cdv A outer s H vs R Q E hr h k => ?_)
  · obtain ⟨a, b, p, q, rfl, _⟩ := h
    rfl
  obtain ⟨a, b, p, q, rfl, ha, hb, rfl⟩ := h
  refine ⟨_, pss_one (ps_ret (pe_tup (pa_cons (pe_op op_add (pe_ix ix_tup (pv 0) pe_int (fun _ _ => rfl)) (pe_ix ix_tup (pv 1) pe_int (fun _ _ => rfl))) (pa_cons (pe_op op_add (pe_ix ix_tup (pv 0) pe_int (fun _ _ => rfl)) (pe_ix ix_tup (pv 1) pe_int (fun _ _ => rfl))) pa_nil)))), ?_⟩
  refine s_retR (er_pt (ea_cons (ev_op (ev_op (ev_var rfl) ev_c (ix0 ha)) (ev_op (ev_var rfl) ev_c (ix0 hb)) rv_I0) (ea_cons (ev_op (ev_op (ev_var rfl) ev_c (ix1 ha)) (ev_op (ev_var rfl) ev_c (ix1 hb)) rv_I0) ea_nil))) fun v H1 e1 hv => k _ _ e1 ?_
  have e : fr (mid p q) = ((fr p).1 + (fr q).1, (fr p).2 + (fr q).2) := Prod.ext (Int.natCast_add _ _) (Int.natCast_add _ _)
  show PtV H1 v (fr (mid p q))
  rw [e]
  exact hv
def preAbove : Pre := fun vs H R => ∃ (a b : Addr) (p q : Sq69.Frac), vs = [.ref a, .ref b] ∧ PtAt H a (fr p) ∧ PtAt H b (fr q) ∧ (q.1 ≤ 1000 ∧ q.2 ≤ 1000) ∧ R = fun v _ => v = .bl (Sq69.less q p)
def preBelow : Pre := fun vs H R => ∃ (a b : Addr) (p q : Sq69.Frac), vs = [.ref a, .ref b] ∧ PtAt H a (fr p) ∧ PtAt H b (fr q) ∧ (q.1 ≤ 1000 ∧ q.2 ≤ 1000) ∧ R = fun v _ => v = .bl (Sq69.less p q)
theorem scAbove : FnScope ["one", "other"] ["one", "other"] (defScope (top 29)) := ⟨rfl, rfl, rfl, by decide +kernel, rfl, by decide +kernel, by decide +kernel⟩
theorem scBelow : FnScope ["one", "other"] ["one", "other"] (defScope (top 30)) := ⟨rfl, rfl, rfl, by decide +kernel, rfl, by decide +kernel, by decide +kernel⟩
theorem lessI {p q : Sq69.Frac} : decide ((fr p).1 * (fr q).2 < (fr q).1 * (fr p).2) = Sq69.less p q := by
  rw [Bool.eq_iff_iff, decide_eq_true_iff, less_iff]
  show (p.1 : Int) * (q.2 : Int) < (q.1 : Int) * (p.2 : Int) ↔ _
  exact_mod_cast Iff.rfl
theorem cmr {x : Int} {n : Nat} (h : n ≤ 1000) : CMul x (n : Int) := .inr ⟨by omega, by omega⟩
theorem cml {x : Int} {n : Nat} (h : n ≤ 1000) : CMul (n : Int) x := .inl ⟨by omega, by omega⟩
theorem ok_is_above (D : Df K mg "is_above" 29 ["one", "other"]) : Has P w K mg base 1 "is_above" ["one", "other"] preAbove := by
  refine D.has scAbove (fun vs H R h => ?_) (fun f cdv A outer s H vs R Q E hr h k => ?_)
  · obtain ⟨a, b, p, q, rfl, _⟩ := h
    rfl
  obtain ⟨a, b, p, q, rfl, ha, hb, hz, rfl⟩ := h
  refine ⟨_, pss_one (ps_ret (pe_cmpR op_gt (pe_op op_mul (pe_ix ix_tup (pv 0) pe_int (fun _ _ => rfl)) (pe_ix ix_tup (pv 1) pe_int (fun _ _ => rfl))) (pe_op op_mul (pe_ix ix_tup (pv 1) pe_int (fun _ _ => rfl)) (pe_ix ix_tup (pv 0) pe_int (fun _ _ => rfl))) (nomark _))), ?_⟩
  exact s_ret (ev_op (ev_op (ev_op (ev_var rfl) ev_c (ix0 ha)) (ev_op (ev_var rfl) ev_c (ix1 hb)) (rv_I (cmr hz.2))) (ev_op (ev_op (ev_var rfl) ev_c (ix0 hb)) (ev_op (ev_var rfl) ev_c (ix1 ha)) (rv_I (cml hz.1))) rv_I0) fun H1 e1 => k _ _ e1 (congrArg V.bl lessI)
theorem ok_is_below (D : Df K mg "is_below" 30 ["one", "other"]) : Has P w K mg base 1 "is_below" ["one", "other"] preBelow := by
  refine D.has scBelow (fun vs H R h => ?_) (fun f cdv A outer s H vs R Q E hr h k => ?_)
  · obtain ⟨a, b, p, q, rfl, _⟩ := h
    rfl
  obtain ⟨a, b, p, q, rfl, ha, hb, hz, rfl⟩ := h
  refine ⟨_, pss_one (ps_ret (pe_cmpR op_lt (pe_op op_mul (pe_ix ix_tup (pv 0) pe_int (fun _ _ => rfl)) (pe_ix ix_tup (pv 1) pe_int (fun _ _ => rfl))) (pe_op op_mul (pe_ix ix_tup (pv 1) pe_int (fun _ _ => rfl)) (pe_ix ix_tup (pv 0) pe_int (fun _ _ => rfl))) (nomark _))), ?_⟩
  exact s_ret (ev_op (ev_op (ev_op (ev_var rfl) ev_c (ix0 ha)) (ev_op (ev_var rfl) ev_c (ix1 hb)) (rv_I (cmr hz.2))) (ev_op (ev_op (ev_var rfl) ev_c (ix0 hb)) (ev_op (ev_var rfl) ev_c (ix1 ha)) (rv_I (cml hz.1))) rv_I0) fun H1 e1 => k _ _ e1 (congrArg V.bl lessI)
/-- the three as they are called below -/
theorem er_together {σ : L2.St} {H : Hp} {ta tb : TE} {a b : Addr} {p q : Sq69.Frac} {E : XK} (h1 : Ev ta σ H (.ref a)) (h2 : Ev tb σ H (.ref b)) (ha : PtAt H a (fr p)) (hb : PtAt H b (fr q)) :
    Er (tCall (spG preTogether) [] E (tCons ta (tCons tb tNil))) σ H (fun v H' => PtV H' v (fr (mid p q))) :=
  er_has (ea_cons h1 (ea_cons h2 ea_nil)) fun H1 e1 => ⟨a, b, p, q, rfl, ha.ex e1, hb.ex e1, rfl⟩
theorem ev_above {σ : L2.St} {H : Hp} {ta tb : TE} {a b : Addr} {p q : Sq69.Frac} {E : XK} (h1 : Ev ta σ H (.ref a)) (h2 : Ev tb σ H (.ref b)) (ha : PtAt H a (fr p)) (hb : PtAt H b (fr q)) (hz : q.1 ≤ 1000 ∧ q.2 ≤ 1000) :
    Ev (tCall (spG preAbove) [] E (tCons ta (tCons tb tNil))) σ H (.bl (Sq69.less q p)) :=
  ev_has (ea_cons h1 (ea_cons h2 ea_nil)) fun H1 e1 => ⟨a, b, p, q, rfl, ha.ex e1, hb.ex e1, hz, rfl⟩
theorem ev_below {σ : L2.St} {H : Hp} {ta tb : TE} {a b : Addr} {p q : Sq69.Frac} {E : XK} (h1 : Ev ta σ H (.ref a)) (h2 : Ev tb σ H (.ref b)) (ha : PtAt H a (fr p)) (hb : PtAt H b (fr q)) (hz : q.1 ≤ 1000 ∧ q.2 ≤ 1000) :
    Ev (tCall (spG preBelow) [] E (tCons ta (tCons tb tNil))) σ H (.bl (Sq69.less p q)) :=
  ev_has (ea_cons h1 (ea_cons h2 ea_nil)) fun H1 e1 => ⟨a, b, p, q, rfl, ha.ex e1, hb.ex e1, hz, rfl⟩

/-! ### way_between -/
def preBetween : Pre := fun vs H R => ∃ (a b : Addr) (x y : Sq69.Frac), vs = [.ref a, .ref b] ∧ PtAt H a (fr x) ∧ PtAt H b (fr y) ∧ 0 < x.2 ∧ Sq69.less x y = true ∧ (x.1 ≤ 200 ∧ x.2 ≤ 200) ∧ (y.1 ≤ 200 ∧ y.2 ≤ 200) ∧
  R = fun v H' => ∃ t f l, v = .ref t ∧ H' t = some (.tup [.ref f, .ref l]) ∧ PtAt H' f (fr (Sq69.simplest x y).1) ∧ H' l = some (.lst ((Sq69.simplest x y).2.map nI)) ∧ (Sq69.simplest x y).2.length ≤ 1000
theorem scBetween : FnScope ["first", "second", "low", "high", "steps", "here"] ["first", "second"] (defScope (top 31)) := ⟨rfl, rfl, rfl, by decide +kernel, rfl, by decide +kernel, by decide +kernel⟩
theorem ok_way_between (D : Df K mg "way_between" 31 ["first", "second"]) (g1 : GI mg "RIGHT" 1) (g2 : GI mg "LEFT" 0) (F1 : Has P w K mg base 1 "together" ["low", "high"] preTogether) (F2 : Has P w K mg base 1 "is_above" ["one", "other"] preAbove)
    (F3 : Has P w K mg base 1 "is_below" ["one", "other"] preBelow) : Has P w K mg base 2 "way_between" ["first", "second"] preBetween := by
  refine D.has scBetween (fun vs H R h => ?_) (fun f cdv A outer s H vs R Q E hr h k => ?_)
  · obtain ⟨a, b, p, q, rfl, _⟩ := h
    rfl
  obtain ⟨a, b, x, y, rfl, ha, hb, hx0, hxy, hx, hy, rfl⟩ := h
  have nd := scBetween.nd
  refine ⟨_, pss_cons (ps_set (i := 2) nd rfl (Or.inl rfl) (pe_tup (pa_cons pe_int (pa_cons pe_int pa_nil))))
    (pss_cons (ps_set (i := 3) nd rfl (Or.inl rfl) (pe_tup (pa_cons pe_int (pa_cons pe_int pa_nil))))
    (pss_cons (ps_set (i := 4) nd rfl (Or.inl rfl) (pe_lst pa_nil))
    (pss_cons (ps_set (i := 5) nd rfl (Or.inl rfl) (pe_has F1 hr (by rfl) (pa_cons (pv 2) (pa_cons (pv 3) pa_nil))))
    (pss_cons (ps_while PassesOwn.never (PW.pt (pw_or (pt_not (pt_val (pe_has F2 hr (by rfl) (pa_cons (pv 5) (pa_cons (pv 0) pa_nil))))) (pw_or1 (pt_not (pt_val (pe_has F3 hr (by rfl) (pa_cons (pv 5) (pa_cons (pv 1) pa_nil))))))))
      (pss_cons (ps_if (pt_not (pt_val (pe_has F2 hr (by rfl) (pa_cons (pv 5) (pa_cons (pv 0) pa_nil)))))
        (pss_cons (ps_expr (pe_bm PySem.F.plainAttrs_list PySem.F.slot_list_append PySem.F.type_list_append mt_append (pv 4) (pa_cons (pe_gi g1 (by rfl)) pa_nil)))
          (pss_one (ps_set (i := 2) nd rfl (Or.inl rfl) (pv 5))))
        (pss_cons (ps_expr (pe_bm PySem.F.plainAttrs_list PySem.F.slot_list_append PySem.F.type_list_append mt_append (pv 4) (pa_cons (pe_gi g2 (by rfl)) pa_nil)))
          (pss_one (ps_set (i := 3) nd rfl (Or.inl rfl) (pv 5)))))
      (pss_one (ps_set (i := 5) nd rfl (Or.inl rfl) (pe_has F1 hr (by rfl) (pa_cons (pv 2) (pa_cons (pv 3) pa_nil)))))))
    (pss_one (ps_ret (pe_tup (pa_cons (pv 5) (pa_cons (pv 4) pa_nil))))))))), ?_⟩
  have hx' : x.1 ≤ 1000 ∧ x.2 ≤ 1000 := ⟨by omega, by omega⟩
  have hy' : y.1 ≤ 1000 ∧ y.2 ≤ 1000 := ⟨by omega, by omega⟩
  refine q_asgU (eu_tup (ea_cons ev_c (ea_cons ev_c ea_nil)) (by show 2 ≤ 100000; decide)) fun tl H1 f1 e1 h1 => ?_
  refine q_asgU (eu_tup (ea_cons ev_c (ea_cons ev_c ea_nil)) (by show 2 ≤ 100000; decide)) fun th H2 f2 e2 h2 => ?_
  refine q_asgL (el_lst ea_nil (by decide)) fun l H3 f3 e3 h3 => ?_
  have hlo : PtAt H3 tl (fr (0, 1)) := e3 _ _ (e2 _ _ h1)
  have hhi : PtAt H3 th (fr (1, 0)) := e3 _ _ h2
  refine q_asgR (er_together (ev_var rfl) (ev_var rfl) hlo hhi) fun v H4 e4 hv => ?_
  obtain ⟨tm, rfl, hm⟩ := hv
  have fl : H l = none := fresh_back (e1.trans e2) f3
  refine q_while (fun m σ H' => ∃ lo hi ws al ah am, σ = [some (.ref a), some (.ref b), some (.ref al), some (.ref ah), some (.ref l), some (.ref am)] ∧ Ex H H' ∧ PtAt H' al (fr lo) ∧ PtAt H' ah (fr hi) ∧ PtAt H' am (fr (mid lo hi)) ∧
      H' l = some (.lst (ws.map nI)) ∧ Btw x y m lo hi ws) _ ⟨(0, 1), (1, 0), [], tl, th, tm, rfl, ((e1.trans e2).trans e3).trans e4, hlo.ex e4, hhi.ex e4, hm, e4 _ _ h3, Btw.start hx0 hxy⟩ ?_
  rintro m σ H5 ⟨lo, hi, ws, al, ah, am, rfl, e5, p1, p2, p3, hl, BT⟩
  have hwl := BT.wl
  unfold fsum at hwl
  refine ⟨_, et_or (et_not (et_B (ev_above (ev_var rfl) (ev_var rfl) p3 (ha.ex e5) hx'))) (fun _ => et_not (et_B (ev_below (ev_var rfl) (ev_var rfl) p3 (hb.ex e5) hy'))), fun ht H6 e6 => ?_, fun ht H6 e6 => ?_⟩
  · refine ⟨fun σ2 H2 => ∃ m', m' < m ∧ ∃ lo hi ws al ah am, σ2 = [some (.ref a), some (.ref b), some (.ref al), some (.ref ah), some (.ref l), some (.ref am)] ∧ Ex H H2 ∧ PtAt H2 al (fr lo) ∧ PtAt H2 ah (fr hi) ∧ PtAt H2 am (fr (mid lo hi)) ∧
      H2 l = some (.lst (ws.map nI)) ∧ Btw x y m' lo hi ws, fun _ _ h => h, ?_⟩
    have e56 := e5.trans e6
    have q1 := p1.ex e6
    have q2 := p2.ex e6
    have q3 := p3.ex e6
    have hl6 := e6 _ _ hl
    refine q_if (et_not (et_B (ev_above (ev_var rfl) (ev_var rfl) q3 (ha.ex e56) hx'))) (fun hu H7 e7 => ?_) (fun hu H7 e7 => ?_)
    · rw [Bool.not_eq_true'] at hu
      obtain ⟨g, hg, BT'⟩ := BT.right hu
      refine q_app (e7 _ _ hl6) (ev_var rfl) ev_c (by rw [List.length_map]; omega) fun H8 e8 => ?_
      have u1 := (q1.ex (e7.trans e8)).upd (ys := ws.map nI ++ [.int 1]) (e8 _ _ (e7 _ _ hl6))
      have u2 := (q2.ex (e7.trans e8)).upd (ys := ws.map nI ++ [.int 1]) (e8 _ _ (e7 _ _ hl6))
      have u3 := (q3.ex (e7.trans e8)).upd (ys := ws.map nI ++ [.int 1]) (e8 _ _ (e7 _ _ hl6))
      refine s_asg (ev_var rfl) fun H9 e9 => ?_
      refine Er.use (er_together (ev_var rfl) (ev_var rfl) (u3.ex e9) (u2.ex e9)) fun v H10 e10 hv => ?_
      obtain ⟨tm', rfl, hm'⟩ := hv
      refine ⟨g, hg, _, _, _, am, ah, tm', rfl, (((e56.trans e7).trans e8).mut fl).trans (e9.trans e10), u3.ex (e9.trans e10), u2.ex (e9.trans e10), hm', ?_, BT'⟩
      rw [(e9.trans e10) _ _ upd_same, List.map_append]
      rfl
    · rw [Bool.not_eq_false'] at hu
      have hb' : Sq69.less (mid lo hi) y = false := by
        rw [hu] at ht
        simpa using ht
      obtain ⟨g, hg, BT'⟩ := BT.left hu hb'
      refine q_app (e7 _ _ hl6) (ev_var rfl) ev_c (by rw [List.length_map]; omega) fun H8 e8 => ?_
      have u1 := (q1.ex (e7.trans e8)).upd (ys := ws.map nI ++ [.int 0]) (e8 _ _ (e7 _ _ hl6))
      have u2 := (q2.ex (e7.trans e8)).upd (ys := ws.map nI ++ [.int 0]) (e8 _ _ (e7 _ _ hl6))
      have u3 := (q3.ex (e7.trans e8)).upd (ys := ws.map nI ++ [.int 0]) (e8 _ _ (e7 _ _ hl6))
      refine s_asg (ev_var rfl) fun H9 e9 => ?_
      refine Er.use (er_together (ev_var rfl) (ev_var rfl) (u1.ex e9) (u3.ex e9)) fun v H10 e10 hv => ?_
      obtain ⟨tm', rfl, hm'⟩ := hv
      refine ⟨g, hg, _, _, _, al, am, tm', rfl, (((e56.trans e7).trans e8).mut fl).trans (e9.trans e10), u1.ex (e9.trans e10), u3.ex (e9.trans e10), hm', ?_, BT'⟩
      rw [(e9.trans e10) _ _ upd_same, List.map_append]
      rfl
  · rw [Bool.or_eq_false_iff, Bool.not_eq_false', Bool.not_eq_false'] at ht
    have hd := BT.done ht.1 ht.2
    refine s_retU (eu_tup (ea_cons (ev_var rfl) (ea_cons (ev_var rfl) ea_nil)) (by show 2 ≤ 100000; decide)) fun t H7 ft e7 h7 => k _ _ ((e5.trans e6).trans e7) ⟨t, am, l, rfl, h7, ?_, ?_, ?_⟩
    · rw [hd]
      exact p3.ex (e6.trans e7)
    · rw [hd]
      exact e7 _ _ (e6 _ _ hl)
    · rw [hd]
      show ws.length ≤ 1000
      omega

/-! ### way_to -/
def wayOf (x : Sq69.Frac) : List Nat := Sq69.wayTo x (x.1 + x.2 + 1) (0, 1) (1, 0)
def preWayTo : Pre := fun vs H R => ∃ (a : Addr) (x : Sq69.Frac), vs = [.ref a] ∧ PtAt H a (fr x) ∧ 0 < x.1 ∧ 0 < x.2 ∧ (x.1 ≤ 200 ∧ x.2 ≤ 200) ∧
  R = fun v H' => ∃ l, v = .ref l ∧ H' l = some (.lst ((wayOf x).map nI)) ∧ (wayOf x).length ≤ 1000
theorem scWayTo : FnScope ["aim", "low", "high", "steps", "here"] ["aim"] (defScope (top 32)) := ⟨rfl, rfl, rfl, by decide +kernel, rfl, by decide +kernel, by decide +kernel⟩
theorem ok_way_to (D : Df K mg "way_to" 32 ["aim"]) (g1 : GI mg "RIGHT" 1) (g2 : GI mg "LEFT" 0) (F1 : Has P w K mg base 1 "together" ["low", "high"] preTogether) (F2 : Has P w K mg base 1 "is_above" ["one", "other"] preAbove)
    (F3 : Has P w K mg base 1 "is_below" ["one", "other"] preBelow) : Has P w K mg base 2 "way_to" ["aim"] preWayTo := by
  refine D.has scWayTo (fun vs H R h => ?_) (fun f cdv A outer s H vs R Q E hr h k => ?_)
  · obtain ⟨a, x, rfl, _⟩ := h
    rfl
  obtain ⟨a, x, rfl, ha, hx1, hx2, hx, rfl⟩ := h
  have nd := scWayTo.nd
  refine ⟨_, pss_cons (ps_set (i := 1) nd rfl (Or.inl rfl) (pe_tup (pa_cons pe_int (pa_cons pe_int pa_nil))))
    (pss_cons (ps_set (i := 2) nd rfl (Or.inl rfl) (pe_tup (pa_cons pe_int (pa_cons pe_int pa_nil))))
    (pss_cons (ps_set (i := 3) nd rfl (Or.inl rfl) (pe_lst pa_nil))
    (pss_cons (ps_set (i := 4) nd rfl (Or.inl rfl) (pe_has F1 hr (by rfl) (pa_cons (pv 1) (pa_cons (pv 2) pa_nil))))
    (pss_cons (ps_while PassesOwn.never (PW.pt (pw_or (pt_val (pe_has F2 hr (by rfl) (pa_cons (pv 4) (pa_cons (pv 0) pa_nil)))) (pw_or1 (pt_val (pe_has F3 hr (by rfl) (pa_cons (pv 4) (pa_cons (pv 0) pa_nil)))))))
      (pss_cons (ps_if (pt_val (pe_has F3 hr (by rfl) (pa_cons (pv 4) (pa_cons (pv 0) pa_nil))))
        (pss_cons (ps_expr (pe_bm PySem.F.plainAttrs_list PySem.F.slot_list_append PySem.F.type_list_append mt_append (pv 3) (pa_cons (pe_gi g1 (by rfl)) pa_nil)))
          (pss_one (ps_set (i := 1) nd rfl (Or.inl rfl) (pv 4))))
        (pss_cons (ps_expr (pe_bm PySem.F.plainAttrs_list PySem.F.slot_list_append PySem.F.type_list_append mt_append (pv 3) (pa_cons (pe_gi g2 (by rfl)) pa_nil)))
          (pss_one (ps_set (i := 2) nd rfl (Or.inl rfl) (pv 4)))))
      (pss_one (ps_set (i := 4) nd rfl (Or.inl rfl) (pe_has F1 hr (by rfl) (pa_cons (pv 1) (pa_cons (pv 2) pa_nil)))))))
    (pss_one (ps_ret (pv 3))))))), ?_⟩
  have hx' : x.1 ≤ 1000 ∧ x.2 ≤ 1000 := ⟨by omega, by omega⟩
  refine q_asgU (eu_tup (ea_cons ev_c (ea_cons ev_c ea_nil)) (by show 2 ≤ 100000; decide)) fun tl H1 f1 e1 h1 => ?_
  refine q_asgU (eu_tup (ea_cons ev_c (ea_cons ev_c ea_nil)) (by show 2 ≤ 100000; decide)) fun th H2 f2 e2 h2 => ?_
  refine q_asgL (el_lst ea_nil (by decide)) fun l H3 f3 e3 h3 => ?_
  have hlo : PtAt H3 tl (fr (0, 1)) := e3 _ _ (e2 _ _ h1)
  have hhi : PtAt H3 th (fr (1, 0)) := e3 _ _ h2
  refine q_asgR (er_together (ev_var rfl) (ev_var rfl) hlo hhi) fun v H4 e4 hv => ?_
  obtain ⟨tm, rfl, hm⟩ := hv
  have fl : H l = none := fresh_back (e1.trans e2) f3
  refine q_while (fun m σ H' => ∃ lo hi ws al ah am, σ = [some (.ref a), some (.ref al), some (.ref ah), some (.ref l), some (.ref am)] ∧ Ex H H' ∧ PtAt H' al (fr lo) ∧ PtAt H' ah (fr hi) ∧ PtAt H' am (fr (mid lo hi)) ∧
      H' l = some (.lst (ws.map nI)) ∧ Wto x m lo hi ws) _ ⟨(0, 1), (1, 0), [], tl, th, tm, rfl, ((e1.trans e2).trans e3).trans e4, hlo.ex e4, hhi.ex e4, hm, e4 _ _ h3, Wto.start hx1 hx2⟩ ?_
  rintro m σ H5 ⟨lo, hi, ws, al, ah, am, rfl, e5, p1, p2, p3, hl, BT⟩
  have hwl := BT.wl
  refine ⟨_, et_or (et_B (ev_above (ev_var rfl) (ev_var rfl) p3 (ha.ex e5) hx')) (fun _ => et_B (ev_below (ev_var rfl) (ev_var rfl) p3 (ha.ex e5) hx')), fun ht H6 e6 => ?_, fun ht H6 e6 => ?_⟩
  · refine ⟨fun σ2 H2 => ∃ m', m' < m ∧ ∃ lo hi ws al ah am, σ2 = [some (.ref a), some (.ref al), some (.ref ah), some (.ref l), some (.ref am)] ∧ Ex H H2 ∧ PtAt H2 al (fr lo) ∧ PtAt H2 ah (fr hi) ∧ PtAt H2 am (fr (mid lo hi)) ∧
      H2 l = some (.lst (ws.map nI)) ∧ Wto x m' lo hi ws, fun _ _ h => h, ?_⟩
    have e56 := e5.trans e6
    have q1 := p1.ex e6
    have q2 := p2.ex e6
    have q3 := p3.ex e6
    have hl6 := e6 _ _ hl
    refine q_if (et_B (ev_below (ev_var rfl) (ev_var rfl) q3 (ha.ex e56) hx')) (fun hu H7 e7 => ?_) (fun hu H7 e7 => ?_)
    · obtain ⟨g, hg, BT'⟩ := BT.right hu
      refine q_app (e7 _ _ hl6) (ev_var rfl) ev_c (by rw [List.length_map]; omega) fun H8 e8 => ?_
      have u1 := (q1.ex (e7.trans e8)).upd (ys := ws.map nI ++ [.int 1]) (e8 _ _ (e7 _ _ hl6))
      have u2 := (q2.ex (e7.trans e8)).upd (ys := ws.map nI ++ [.int 1]) (e8 _ _ (e7 _ _ hl6))
      have u3 := (q3.ex (e7.trans e8)).upd (ys := ws.map nI ++ [.int 1]) (e8 _ _ (e7 _ _ hl6))
      refine s_asg (ev_var rfl) fun H9 e9 => ?_
      refine Er.use (er_together (ev_var rfl) (ev_var rfl) (u3.ex e9) (u2.ex e9)) fun v H10 e10 hv => ?_
      obtain ⟨tm', rfl, hm'⟩ := hv
      refine ⟨g, hg, _, _, _, am, ah, tm', rfl, (((e56.trans e7).trans e8).mut fl).trans (e9.trans e10), u3.ex (e9.trans e10), u2.ex (e9.trans e10), hm', ?_, BT'⟩
      rw [(e9.trans e10) _ _ upd_same, List.map_append]
      rfl
    · have hb' : Sq69.less x (mid lo hi) = true := by
        rw [hu] at ht
        simpa using ht
      obtain ⟨g, hg, BT'⟩ := BT.left hu hb'
      refine q_app (e7 _ _ hl6) (ev_var rfl) ev_c (by rw [List.length_map]; omega) fun H8 e8 => ?_
      have u1 := (q1.ex (e7.trans e8)).upd (ys := ws.map nI ++ [.int 0]) (e8 _ _ (e7 _ _ hl6))
      have u2 := (q2.ex (e7.trans e8)).upd (ys := ws.map nI ++ [.int 0]) (e8 _ _ (e7 _ _ hl6))
      have u3 := (q3.ex (e7.trans e8)).upd (ys := ws.map nI ++ [.int 0]) (e8 _ _ (e7 _ _ hl6))
      refine s_asg (ev_var rfl) fun H9 e9 => ?_
      refine Er.use (er_together (ev_var rfl) (ev_var rfl) (u1.ex e9) (u3.ex e9)) fun v H10 e10 hv => ?_
      obtain ⟨tm', rfl, hm'⟩ := hv
      refine ⟨g, hg, _, _, _, al, am, tm', rfl, (((e56.trans e7).trans e8).mut fl).trans (e9.trans e10), u1.ex (e9.trans e10), u3.ex (e9.trans e10), hm', ?_, BT'⟩
      rw [(e9.trans e10) _ _ upd_same, List.map_append]
      rfl
  · rw [Bool.or_eq_false_iff] at ht
    have hd := BT.done ht.2 ht.1
    refine s_ret (ev_var rfl) fun H7 e7 => k _ _ ((e5.trans e6).trans e7) ⟨l, rfl, ?_, ?_⟩
    · show H7 l = some (.lst ((Sq69.wayTo x (x.1 + x.2 + 1) (0, 1) (1, 0)).map nI))
      rw [← hd]
      exact e7 _ _ (e6 _ _ hl)
    · show (Sq69.wayTo x (x.1 + x.2 + 1) (0, 1) (1, 0)).length ≤ 1000
      rw [← hd]
      omega
end
end Cs
namespace Cs
open PySem PySem.Spec PyProof.Rows L2 Evl
section
variable {σ : L2.St} {H H' : Hp} {ta tb te : TE} {t : TA} {v z : V} {pre : Pre} {R : V → Hp → Prop} {tu tw tz : TS} {D : Ends} {K : PySem.W.Frag} {C : Addr} {g : TG}
def isL (xs : List V) : V → Hp → Prop := fun v H' => ∃ q, v = .ref q ∧ H' q = some (.lst xs)
theorem er_ofL {xs : List V} (h : EvL te σ H xs) : Er te σ H (isL xs) := fun H1 e Q k => h H1 e Q fun p H2 _ e2 h2 => k _ H2 e2 ⟨p, rfl, h2⟩
theorem el_catR {xs ys : List V} (ha : Er ta σ H (isL xs)) (hb : Er tb σ H (isL ys)) (hz : xs.length + ys.length ≤ 100000) : EvL (tOp rCat ta tb) σ H (xs ++ ys) := fun H1 e Q k =>
  ha H1 e _ fun v H2 e2 h2 => by
    obtain ⟨p, rfl, h2⟩ := h2
    exact hb H2 (e.trans e2) _ fun v H3 e3 h3 => by
      obtain ⟨q, rfl, h3⟩ := h3
      exact ⟨p, q, xs, ys, rfl, rfl, e3 _ _ h2, h3, sz_of hz, fun r hr => k r _ (fresh_back (e2.trans e3) hr) ((e2.trans e3).trans (Ex.new hr)) upd_same⟩
theorem q_asgG (h : Er te σ H R) (k : ∀ v H1, Ex H H1 → R v H1 → g v σ H1 (tz D)) : tSeq (tAsg te g) tz D σ H := h.use k
theorem er_hasR {E : XK} {S : List V → Hp → Prop} (h : Ra t σ H S) (hp : ∀ vs H1, Ex H H1 → S vs H1 → pre vs H1 R) : Er (tCall (spG pre) [] E t) σ H R := fun H1 e Q q =>
  h H1 e _ fun vs H2 e2 s => ⟨_, by rw [List.append_nil]; exact hp vs H2 (e.trans e2) s, fun v H3 e3 r => q v H3 (e2.trans e3) r⟩
theorem ra_pt1 {p : Sq69.Point} (h1 : Er ta σ H (fun v H' => PtV H' v p)) : Ra (tCons ta tNil) σ H (fun vs H' => ∃ v, vs = [v] ∧ PtV H' v p) := fun H1 e Q k =>
  h1 H1 e _ fun v1 H2 e2 r1 => k _ H2 e2 ⟨v1, rfl, r1⟩
theorem map_ints (l : List Nat) : (Sq69.ints l).map V.int = l.map nI := by
  unfold Sq69.ints
  rw [List.map_map]
  rfl
/-- a new list that is given back -/
theorem s_retLL {xs : List V} {H0 : Hp} {Q : VK} {nx : L2.St → Hp → Prop} (h : EvL te σ H xs) (e : Ex H0 H) (k : ∀ v H', Ex H0 H' → retL H0 xs v H' → Q v H') : tRet te { nx := nx, rt := Q } σ H :=
  s_retL h fun p H1 fp e1 h1 => k _ _ (e.trans e1) ⟨p, rfl, fresh_back e fp, h1⟩
end
section
variable {P : Program} {w : World} {K : PySem.W.Frag} {mg : Str → Option Value} {base : Heap} {C : Addr}
/-! ### told_least -/
def outLeast (c : Sq69.Cone) : List Int := ((Sq69.Cone.least c).length : Int) :: (Sq69.listed (Sq69.Cone.least c) ++ Sq69.numbers (Sq69.Cone.least c))
def fLeast (c : Sq69.Cone) : List V := (outLeast c).map V.int
theorem er_told {σ : L2.St} {H : Hp} {te : TE} {l : Addr} {ps : List Sq69.Point} {E : XK} (h : Ev te σ H (.ref l)) (hp : PtsAt H l ps) (hz : ps.length ≤ 10000) : Er (tCall (spG preToldPoints) [] E (tCons te tNil)) σ H (isL ((Sq69.listed ps).map V.int)) :=
  er_has (ea_cons h ea_nil) fun H1 e1 => ⟨l, ps, rfl, hp.ex e1, hz, rfl⟩
theorem scToldLeast : FnScope ["cone", "points"] ["cone"] (defScope (top 36)) := ⟨rfl, rfl, rfl, by decide +kernel, rfl, by decide +kernel, by decide +kernel⟩
theorem ok_told_least (B : Blt mg) (D : Df K mg "told_least" 36 ["cone"]) (F : Has P w K mg base 5 "least_points" ["cone"] (preR C (gPts Sq69.Cone.least))) (F2 : Has P w K mg base 1 "told_points" ["points"] preToldPoints)
    (F3 : Has P w K mg base 4 "numbers_of" ["cone"] (preR C fun c H => retL H (fNums c))) : Has P w K mg base 6 "told_least" ["cone"] (preR C fun c H => retL H (fLeast c)) := by
  refine D.has scToldLeast preR_len (fun f cdv A outer s H vs R Q E hr h k => ?_)
  obtain ⟨a, c, rfl, hc, G, rfl⟩ := h
  have nd := scToldLeast.nd
  refine ⟨_, pss_cons (ps_set (i := 1) nd rfl (Or.inl rfl) (pe_has F hr (by rfl) (pa_cons (pv 0) pa_nil)))
    (pss_one (ps_ret (pe_op op_cat (pe_op op_cat (pe_lst (pa_cons (pe_callB call_len_seq (by rfl) B.len PySem.boot_len (pa_cons (pv 1) pa_nil)) pa_nil)) (pe_has F2 (hr.mono (by decide)) (by rfl) (pa_cons (pv 1) pa_nil))) (pe_has F3 (hr.mono (by decide)) (by rfl) (pa_cons (pv 0) pa_nil))))), ?_⟩
  refine q_asgR (er_C (R := fun v H' => ∃ l, v = .ref l ∧ PtsAt H' l (Sq69.Cone.least c)) (ev_var rfl) hc G (fun _ _ _ h => h)) fun v H1 e1 hv => ?_
  obtain ⟨l, rfl, hp⟩ := hv
  have hll := G.least_len
  have hnl := G.nums_le
  obtain ⟨vs, hl, hvs⟩ := id hp
  have hvl := hvs.len
  have e : fLeast c = ([V.int (vs.length : Int)] ++ (Sq69.listed (Sq69.Cone.least c)).map V.int) ++ fNums c := by
    unfold fLeast outLeast fNums
    rw [G.numbers_eq, hvl, List.map_cons, List.map_append, List.append_assoc]
    rfl
  dsimp only at k
  rw [e] at k
  have hz : (fNums c).length = (numsOf c).length := List.length_map _
  exact s_retLL (el_catR (er_ofL (el_catR (er_ofL (er_lst1 (ev_len (ev_var rfl) (sq_of hl)))) (er_told (ev_var rfl) hp (by omega)) (by rw [List.length_map, listed_len]; show 1 + _ ≤ _; omega)))
    (er_ofL (el_C (f := fNums) (ev_var rfl) (hc.ex e1) G)) (by rw [List.length_append, List.length_map, listed_len, hz]; show 1 + _ + _ ≤ _; omega)) e1 k

/-! ### told_sail -/
def outSail (c : Sq69.Cone) : List Int := ((Sq69.Cone.sail c).length : Int) :: Sq69.listed (Sq69.Cone.sail c)
def fSail (c : Sq69.Cone) : List V := (outSail c).map V.int
theorem Good.sail_len {c : Sq69.Cone} (G : Good c) : (Sq69.Cone.sail c).length ≤ 4000 := by
  have h := G.nums_le
  show (c.u :: List.map (fun x => x.1) ((((Sq69.Cone.least c).drop 1).zip (Sq69.numbers (Sq69.Cone.least c))).filter fun x => decide (2 < x.2)) ++ [c.v]).length ≤ 4000
  rw [List.length_append, List.length_cons, List.length_map]
  have h1 := List.length_filter_le (fun x : Sq69.Point × Int => decide (2 < x.2)) (((Sq69.Cone.least c).drop 1).zip (Sq69.numbers (Sq69.Cone.least c)))
  rw [List.length_zip, G.numbers_eq] at h1
  rw [G.numbers_eq]
  show _ + 1 + 1 ≤ 4000
  omega
theorem scToldSail : FnScope ["cone", "corners"] ["cone"] (defScope (top 37)) := ⟨rfl, rfl, rfl, by decide +kernel, rfl, by decide +kernel, by decide +kernel⟩
theorem ok_told_sail (B : Blt mg) (D : Df K mg "told_sail" 37 ["cone"]) (F : Has P w K mg base 6 "corners_of" ["cone"] (preR C (gPts Sq69.Cone.sail))) (F2 : Has P w K mg base 1 "told_points" ["points"] preToldPoints) :
    Has P w K mg base 7 "told_sail" ["cone"] (preR C fun c H => retL H (fSail c)) := by
  refine D.has scToldSail preR_len (fun f cdv A outer s H vs R Q E hr h k => ?_)
  obtain ⟨a, c, rfl, hc, G, rfl⟩ := h
  have nd := scToldSail.nd
  refine ⟨_, pss_cons (ps_set (i := 1) nd rfl (Or.inl rfl) (pe_has F hr (by rfl) (pa_cons (pv 0) pa_nil)))
    (pss_one (ps_ret (pe_op op_cat (pe_lst (pa_cons (pe_callB call_len_seq (by rfl) B.len PySem.boot_len (pa_cons (pv 1) pa_nil)) pa_nil)) (pe_has F2 (hr.mono (by decide)) (by rfl) (pa_cons (pv 1) pa_nil))))), ?_⟩
  refine q_asgR (er_C (R := fun v H' => ∃ l, v = .ref l ∧ PtsAt H' l (Sq69.Cone.sail c)) (ev_var rfl) hc G (fun _ _ _ h => h)) fun v H1 e1 hv => ?_
  obtain ⟨l, rfl, hp⟩ := hv
  have hsl := G.sail_len
  obtain ⟨vs, hl, hvs⟩ := id hp
  have hvl := hvs.len
  have e : fSail c = [V.int (vs.length : Int)] ++ (Sq69.listed (Sq69.Cone.sail c)).map V.int := by
    unfold fSail outSail
    rw [hvl, List.map_cons]
    rfl
  dsimp only at k
  rw [e] at k
  exact s_retLL (el_catR (er_ofL (er_lst1 (ev_len (ev_var rfl) (sq_of hl)))) (er_told (ev_var rfl) hp (by omega)) (by rw [List.length_map, listed_len]; show 1 + _ ≤ _; omega)) e1 k

/-! ### told_kind -/
def outKind (c : Sq69.Cone) : List Int := [Sq69.det c.u c.v, share c, share c.turned]
def fKind (c : Sq69.Cone) : List V := (outKind c).map V.int
theorem scToldKind : FnScope ["cone"] ["cone"] (defScope (top 38)) := ⟨rfl, rfl, rfl, by decide +kernel, rfl, by decide +kernel, by decide +kernel⟩
theorem ok_told_kind (D : Df K mg "told_kind" 38 ["cone"]) (F : Has P w K mg base 2 "size_of" ["cone"] (preC C gSize)) (F2 : Has P w K mg base 3 "share_of" ["cone"] (preC C gShare)) (F3 : Has P w K mg base 4 "other_share" ["cone"] (preC C gOther)) :
    Has P w K mg base 5 "told_kind" ["cone"] (preR C fun c H => retL H (fKind c)) := by
  refine D.has scToldKind preR_len (fun f cdv A outer s H vs R Q E hr h k => ?_)
  obtain ⟨a, c, rfl, hc, G, rfl⟩ := h
  refine ⟨_, pss_one (ps_ret (pe_lst (pa_cons (pe_has F (hr.mono (by decide)) (by rfl) (pa_cons (pv 0) pa_nil)) (pa_cons (pe_has F2 (hr.mono (by decide)) (by rfl) (pa_cons (pv 0) pa_nil)) (pa_cons (pe_has F3 hr (by rfl) (pa_cons (pv 0) pa_nil)) pa_nil))))), ?_⟩
  exact s_retLL (xs := fKind c) (el_lst (ea_cons (ev_C (g := gSize) (ev_var rfl) hc G) (ea_cons (ev_C (g := gShare) (ev_var rfl) hc G) (ea_cons (ev_C (g := gOther) (ev_var rfl) hc G) ea_nil))) (by show 3 ≤ 100000; decide)) (Ex.refl _) k

/-! ### told_like -/
def outLike (c : Sq69.Cone) (p m : List Int) : List Int := match coneIn p m with
  | .error e => [e]
  | .ok d => [if Sq69.alike c d = true then 1 else 0]
def preLike (K : PySem.W.Frag) (C : Addr) (out : Sq69.Cone → List Int → List Int → List Int) : Pre := fun vs H R => ∃ (a b1 b2 : Addr) (c : Sq69.Cone) (p m : List Int), vs = [.ref a, .ref b1, .ref b2] ∧ ConeAt C H a c ∧ Good c ∧
  SqL K H b1 (p.map V.int) ∧ SqL K H b2 (m.map V.int) ∧ R = retL H ((out c p m).map V.int)
theorem scToldLike : FnScope ["cone", "plus", "minus", "refusal", "other"] ["cone", "plus", "minus"] (defScope (top 39)) := ⟨rfl, rfl, rfl, by decide +kernel, rfl, by decide +kernel, by decide +kernel⟩
theorem rc_intb {H : Hp} {b : Bool} : RC (fun xs H Q => (∃ i, xs = [.int i] ∧ Q (.int i) H) ∨ ∃ k, xs = [.bl k] ∧ Q (.int (if k then 1 else 0)) H) [.bl b] H (.int (if b then 1 else 0)) := fun H1 _ Q q => .inr ⟨b, rfl, q H1 (Ex.refl _)⟩
theorem ok_told_like (B : Blt mg) (D : Df K mg "told_like" 39 ["cone", "plus", "minus"]) (F : Has P w K mg base 3 "cone_in" ["plus", "minus"] (preConeIn K C)) (F2 : Has P w K mg base 5 "are_alike" ["one", "other"] (preAlike C)) :
    Has P w K mg base 6 "told_like" ["cone", "plus", "minus"] (preLike K C outLike) := by
  refine D.has scToldLike (fun vs H R h => ?_) (fun f cdv A outer s H vs R Q E hr h k => ?_)
  · obtain ⟨a, b1, b2, c, p, m, rfl, _⟩ := h
    rfl
  obtain ⟨a, b1, b2, c, p, m, rfl, hc, G, h1, h2, rfl⟩ := h
  have nd := scToldLike.nd
  refine ⟨_, pss_cons (ps_asg (pe_has F (hr.mono (by decide)) (by rfl) (pa_cons (pv 1) (pa_cons (pv 2) pa_nil))) (pg_tup rfl (pgs_cons (pg_name (i := 3) nd rfl (Or.inl rfl)) (pgs_cons (pg_name (i := 4) nd rfl (Or.inl rfl)) pgs_nil))))
    (pss_cons (ps_if (pt_cmpR op_isN (pv 4) pe_non (nomark _)) (pss_one (ps_ret (pe_lst (pa_cons (pv 3) pa_nil)))) pss_nil)
    (pss_one (ps_ret (pe_lst (pa_cons (pe_callTy call_int1 (by rfl) B.int (by decide +kernel) (pa_cons (pe_has F2 hr (by rfl) (pa_cons (pv 0) (pa_cons (pv 4) pa_nil))) pa_nil)) pa_nil))))), ?_⟩
  refine q_asgG (er_has (ea_cons (ev_var rfl) (ea_cons (ev_var rfl) ea_nil)) fun H1 e1 => ⟨b1, b2, p, m, rfl, ex_l e1 h1, ex_l e1 h2, rfl⟩) fun v H1 e1 hv => ?_
  obtain ⟨t, rfl, hv⟩ := hv
  unfold outLike at k
  rcases hv with ⟨e, he, ht⟩ | ⟨d, x, he, ht, hd⟩
  · refine ⟨t, _, rfl, st_of ht, rfl, _, _, rfl, _, _, rfl, rfl, ?_⟩
    rw [he] at k
    refine q_when (et_test (ev_op (ev_var rfl) ev_c rv_isN)) (fun _ H2 e2 => ?_) (fun hu => absurd hu (by decide))
    exact s_retLL (er_lst1 (ev_var rfl)) (e1.trans e2) k
  · refine ⟨t, _, rfl, st_of ht, rfl, _, _, rfl, _, _, rfl, rfl, ?_⟩
    rw [he] at k
    refine q_when (et_test (ev_op (ev_var rfl) ev_c rv_isN)) (fun hu => absurd hu (by simp)) (fun _ H2 e2 => ?_)
    exact s_retLL (er_lst1 (ev_cb (ea_cons (ev_has (z := .bl (Sq69.alike c d)) (ea_cons (ev_var rfl) (ea_cons (ev_var rfl) ea_nil)) fun H3 e3 => ⟨a, x, c, d, rfl, hc.ex ((e1.trans e2).trans e3), hd.ex (e2.trans e3), G, coneIn_good he, rfl⟩) ea_nil) rc_intb)) (e1.trans e2) k

/-! ### told_dual -/
theorem scToldDual : FnScope ["cone"] ["cone"] (defScope (top 40)) := ⟨rfl, rfl, rfl, by decide +kernel, rfl, by decide +kernel, by decide +kernel⟩
theorem ok_told_dual (D : Df K mg "told_dual" 40 ["cone"]) (F : Has P w K mg base 3 "dual_of" ["cone"] (preR C (gCone C Sq69.Cone.dual))) (F2 : Has P w K mg base 6 "told_least" ["cone"] (preR C fun c H => retL H (fLeast c))) :
    Has P w K mg base 7 "told_dual" ["cone"] (preR C fun c H => retL H (fLeast c.dual)) := by
  refine D.has scToldDual preR_len (fun f cdv A outer s H vs R Q E hr h k => ?_)
  obtain ⟨a, c, rfl, hc, G, rfl⟩ := h
  refine ⟨_, pss_one (ps_ret (pe_has F2 hr (by rfl) (pa_cons (pe_has F (hr.mono (by decide)) (by rfl) (pa_cons (pv 0) pa_nil)) pa_nil))), ?_⟩
  exact s_retLL (el_C2 (f := fLeast) (er_C (R := fun v H' => ConeV C H' v c.dual) (ev_var rfl) hc G (fun _ _ _ h => h)) G.dual) (Ex.refl _) k

/-! ### told_parts -/
def outParts (c : Sq69.Cone) (p m : List Int) : List Int := match pointsIn p m 1 with
  | none => [-3]
  | some [x] => if near 1600 [x] = false then [-1] else toldOut c x
  | _ => [-3]
theorem pointsIn_one {p m : List Int} {ps : List Sq69.Point} (h : pointsIn p m 1 = some ps) : ∃ x, ps = [x] := by
  unfold pointsIn at h
  split at h
  · exact ⟨_, (Option.some.inj h).symm⟩
  · cases h
theorem scToldParts : FnScope ["cone", "plus", "minus", "points", "found"] ["cone", "plus", "minus"] (defScope (top 41)) := ⟨rfl, rfl, rfl, by decide +kernel, rfl, by decide +kernel, by decide +kernel⟩
theorem ok_told_parts (D : Df K mg "told_parts" 41 ["cone", "plus", "minus"]) (g1 : GI mg "BAD_LISTS" (-3)) (g2 : GI mg "TOO_FAR" (-1)) (g3 : GI mg "MOST_POINT" 1600) (F : Has P w K mg base 1 "points_in" ["plus", "minus", "many"] (prePointsIn K))
    (F2 : Has P w K mg base 1 "are_near" ["points", "most"] preAreNear) (F3 : Has P w K mg base 6 "parts_of" ["cone", "point"] (preParts C)) : Has P w K mg base 7 "told_parts" ["cone", "plus", "minus"] (preLike K C outParts) := by
  refine D.has scToldParts (fun vs H R h => ?_) (fun f cdv A outer s H vs R Q E hr h k => ?_)
  · obtain ⟨a, b1, b2, c, p, m, rfl, _⟩ := h
    rfl
  obtain ⟨a, b1, b2, c, p, m, rfl, hc, G, h1, h2, rfl⟩ := h
  have nd := scToldParts.nd
  refine ⟨_, pss_cons (ps_set (i := 3) nd rfl (Or.inl rfl) (pe_has F (hr.mono (by decide)) (by rfl) (pa_cons (pv 1) (pa_cons (pv 2) (pa_cons pe_int pa_nil)))))
    (pss_cons (ps_if (pt_cmpR op_isN (pv 3) pe_non (nomark _)) (pss_one (ps_ret (pe_lst (pa_cons (pe_gi g1 (by rfl)) pa_nil)))) pss_nil)
    (pss_cons (ps_if (pt_not (pt_val (pe_has F2 (hr.mono (by decide)) (by rfl) (pa_cons (pv 3) (pa_cons (pe_gi g3 (by rfl)) pa_nil))))) (pss_one (ps_ret (pe_lst (pa_cons (pe_gi g2 (by rfl)) pa_nil)))) pss_nil)
    (pss_cons (ps_set (i := 4) nd rfl (Or.inl rfl) (pe_has F3 hr (by rfl) (pa_cons (pv 0) (pa_cons (pe_ix ix_list (pv 3) pe_int (fun _ _ => rfl)) pa_nil))))
    (pss_cons (ps_if (pt_cmpR op_isN (pv 4) pe_non (nomark _)) (pss_one (ps_ret (pe_lst (pa_cons pe_int pa_nil)))) pss_nil)
    (pss_one (ps_ret (pe_lst (pa_cons pe_int (pa_cons (pe_ix ix_tup (pv 4) pe_int (fun _ _ => rfl)) (pa_cons (pe_ix ix_tup (pv 4) pe_int (fun _ _ => rfl)) (pa_cons (pe_ix ix_tup (pv 4) pe_int (fun _ _ => rfl)) pa_nil))))))))))), ?_⟩
  unfold outParts at k
  refine q_asgR (er_has (ea_cons (ev_var rfl) (ea_cons (ev_var rfl) (ea_cons ev_c ea_nil))) fun H1 e1 => ⟨b1, b2, p, m, 1, rfl, ex_l e1 h1, ex_l e1 h2, by decide, rfl⟩) fun v H1 e1 hv => ?_
  rcases hv with ⟨hp, rfl⟩ | ⟨ps, l, hp, rfl, vs, hl, hvs⟩
  · rw [hp] at k
    refine q_when (et_test (ev_op (ev_var rfl) ev_c rv_isN)) (fun _ H2 e2 => ?_) (fun ht => absurd ht (by decide))
    exact s_retLL (er_lst1 ev_c) (e1.trans e2) k
  · obtain ⟨x, rfl⟩ := pointsIn_one hp
    rw [hp] at k
    refine q_when (et_test (ev_op (ev_var rfl) ev_c rv_isN)) (fun ht => absurd ht (by simp)) (fun _ H2 e2 => ?_)
    refine q_when (et_not (et_B (ev_has (z := .bl (near 1600 [x])) (ea_cons (ev_var rfl) (ea_cons ev_c ea_nil)) fun H3 e3 => ⟨l, [x], 1600, rfl, ⟨vs, e3 _ _ (e2 _ _ hl), hvs.ex (e2.trans e3)⟩, rfl⟩))) (fun ht H3 e3 => ?_) (fun ht H3 e3 => ?_)
    · rw [Bool.not_eq_true'] at ht
      have k' : ∀ v H', Ex H H' → retL H ([(-1 : Int)].map V.int) v H' → Q v H' := by
        have e : (match (some [x] : Option (List Sq69.Point)) with
          | none => [-3]
          | some [x] => if near 1600 [x] = false then [-1] else toldOut c x
          | _ => [-3]) = [(-1 : Int)] := if_pos ht
        rw [e] at k
        exact k
      exact s_retLL (er_lst1 ev_c) ((e1.trans e2).trans e3) k'
    · rw [Bool.not_eq_false'] at ht
      have k' : ∀ v H', Ex H H' → retL H ((toldOut c x).map V.int) v H' → Q v H' := by
        have e : (match (some [x] : Option (List Sq69.Point)) with
          | none => [-3]
          | some [x] => if near 1600 [x] = false then [-1] else toldOut c x
          | _ => [-3]) = toldOut c x := if_neg (by rw [ht]; decide)
        rw [e] at k
        exact k
      have e23 := e2.trans e3
      obtain ⟨vx, rfl⟩ : ∃ vx, vs = [vx] := by
        match vs, hvs.len with
        | [vx], _ => exact ⟨_, rfl⟩
      obtain ⟨⟨ax, rfl, hx⟩, _⟩ := hvs
      have hbx : Bd x := by
        have := (near_iff.mp ht) x (by simp)
        exact Bd.of (n := 1600) (by decide) this.1 this.2
      refine q_asgR (er_has (ea_cons (ev_var rfl) (ea_cons (ev_op (ev_var rfl) ev_c (rv_ixL (sq_of (e23 _ _ hl)) rfl)) ea_nil)) fun H4 e4 => ⟨a, ax, c, x, rfl, hc.ex ((e1.trans e23).trans e4), G, hx.ex (e23.trans e4), hbx, rfl⟩) fun v H4 e4 hv => ?_
      rcases hv with ⟨h0, rfl⟩ | ⟨t, y0, y1, y2, h0, rfl, h4⟩
      · rw [h0] at k'
        refine q_when (et_test (ev_op (ev_var rfl) ev_c rv_isN)) (fun _ H5 e5 => ?_) (fun hu => absurd hu (by decide))
        exact s_retLL (er_lst1 ev_c) (((e1.trans e23).trans e4).trans e5) k'
      · rw [h0] at k'
        refine q_when (et_test (ev_op (ev_var rfl) ev_c rv_isN)) (fun hu => absurd hu (by simp)) (fun _ H5 e5 => ?_)
        have h5 := e5 _ _ h4
        exact s_retLL (el_lst (ea_cons ev_c (ea_cons (ev_op (ev_var rfl) ev_c (rv_ixT (st_of h5) rfl)) (ea_cons (ev_op (ev_var rfl) ev_c (rv_ixT (st_of h5) rfl)) (ea_cons (ev_op (ev_var rfl) ev_c (rv_ixT (st_of h5) rfl)) ea_nil)))) (by show 4 ≤ 100000; decide)) (((e1.trans e23).trans e4).trans e5) k'
end
end Cs
namespace Cs
open PySem PySem.Spec PyProof.Rows L2 Evl
section
variable {P : Program} {w : World} {K : PySem.W.Frag} {mg : Str → Option Value} {base : Heap} {C : Addr}
theorem s_retLD {σ : L2.St} {H H0 : Hp} {te : TE} {xs : List V} {D : Ends} (h : EvL te σ H xs) (e : Ex H0 H) (k : ∀ v H', Ex H0 H' → retL H0 xs v H' → D.rt v H') : tRet te D σ H :=
  s_retL h fun p H1 fp e1 h1 => k _ _ (e.trans e1) ⟨p, rfl, fresh_back e fp, h1⟩
theorem nat_at {l : List Nat} {i : Nat} {x : V} (h : (l.map nI)[i]? = some x) : ∃ n : Nat, l[i]? = some n ∧ x = .int (n : Int) := by
  rw [List.getElem?_map] at h
  cases e : l[i]? with
  | none =>
    rw [e] at h
    cases h
  | some n =>
    rw [e] at h
    exact ⟨n, rfl, (Option.some.inj h).symm⟩
/-! ### told_simplest -/
def outSimple (a b c d : Nat) : List Int := if ([a, b, c, d].any fun k => decide (200 < k)) = true ∨ b = 0 then [-1] else if Sq69.less (a, b) (c, d) = false then [-4] else
  ((Sq69.simplest (a, b) (c, d)).1.1 : Int) :: Sq69.ints ((Sq69.simplest (a, b) (c, d)).1.2 :: (Sq69.simplest (a, b) (c, d)).2.length :: (Sq69.simplest (a, b) (c, d)).2)
def preSimple : Pre := fun vs H R => ∃ a b c d : Nat, vs = [nI a, nI b, nI c, nI d] ∧ R = retL H ((outSimple a b c d).map V.int)
theorem scSimple : FnScope ["a", "b", "c", "d", "number", "found", "steps"] ["a", "b", "c", "d"] (defScope (top 42)) := ⟨rfl, rfl, rfl, by decide +kernel, rfl, by decide +kernel, by decide +kernel⟩
theorem ok_told_simplest (B : Blt mg) (D : Df K mg "told_simplest" 42 ["a", "b", "c", "d"]) (g1 : GI mg "MOST_PART" 200) (g2 : GI mg "TOO_FAR" (-1)) (g3 : GI mg "NO_ENDS" (-4)) (F : Has P w K mg base 2 "way_between" ["first", "second"] preBetween) :
    Has P w K mg base 3 "told_simplest" ["a", "b", "c", "d"] preSimple := by
  refine D.has scSimple (fun vs H R h => ?_) (fun f cdv A outer s H vs R Q E hr h k => ?_)
  · obtain ⟨a, b, c, d, rfl, _⟩ := h
    rfl
  obtain ⟨a, b, c, d, rfl, rfl⟩ := h
  have nd := scSimple.nd
  refine ⟨_, pss_cons (ps_for PassesOwn.never rfl (pi_list (pe_lst (pa_cons (pv 0) (pa_cons (pv 1) (pa_cons (pv 2) (pa_cons (pv 3) pa_nil)))))) (pg_name (i := 4) nd rfl (Or.inl rfl))
      (pss_one (ps_if (pt_cmpR op_gt (pv 4) (pe_gi g1 (by rfl)) (nomark _)) (pss_one (ps_ret (pe_lst (pa_cons (pe_gi g2 (by rfl)) pa_nil)))) pss_nil)))
    (pss_cons (ps_if (pt_cmpR op_eq (pv 1) pe_int (nomark _)) (pss_one (ps_ret (pe_lst (pa_cons (pe_gi g2 (by rfl)) pa_nil)))) pss_nil)
    (pss_cons (ps_if (pt_cmpR op_ge (pe_op op_mul (pv 0) (pv 3)) (pe_op op_mul (pv 2) (pv 1)) (nomark _)) (pss_one (ps_ret (pe_lst (pa_cons (pe_gi g3 (by rfl)) pa_nil)))) pss_nil)
    (pss_cons (ps_asg (pe_has F hr (by rfl) (pa_cons (pe_tup (pa_cons (pv 0) (pa_cons (pv 1) pa_nil))) (pa_cons (pe_tup (pa_cons (pv 2) (pa_cons (pv 3) pa_nil))) pa_nil))) (pg_tup rfl (pgs_cons (pg_name (i := 5) nd rfl (Or.inl rfl)) (pgs_cons (pg_name (i := 6) nd rfl (Or.inl rfl)) pgs_nil))))
    (pss_one (ps_ret (pe_op op_cat (pe_lst (pa_cons (pe_ix ix_tup (pv 5) pe_int (fun _ _ => rfl)) (pa_cons (pe_ix ix_tup (pv 5) pe_int (fun _ _ => rfl)) (pa_cons (pe_callB call_len_seq (by rfl) B.len PySem.boot_len (pa_cons (pv 6) pa_nil)) pa_nil)))) (pv 6))))))), ?_⟩
  unfold outSimple at k
  refine q_forNLn (K := K) (xs := ([a, b, c, d] : List Nat).map nI) (el_lst (ea_cons (ev_var rfl) (ea_cons (ev_var rfl) (ea_cons (ev_var rfl) (ea_cons (ev_var rfl) ea_nil)))) (by show 4 ≤ 100000; decide))
    (fun p i σ H' => ∃ v4, σ = [some (nI a), some (nI b), some (nI c), some (nI d), v4, none, none] ∧ Ex H H' ∧ H' p = some (.lst (([a, b, c, d] : List Nat).map nI)) ∧ ∀ x ∈ ([a, b, c, d] : List Nat).take i, x ≤ 200)
    (fun p H1 fp e1 h1 => ⟨_, rfl, e1, h1, fun x hx => nomatch hx⟩) (fun p i σ H' _ ⟨_, _, _, h, _⟩ => sq_of h) ?_ ?_
  · rintro p i x σ H1 hx ⟨v4, rfl, e1, h1, hle⟩
    obtain ⟨n, hn, rfl⟩ := nat_at hx
    refine s_when (et_test (ev_op (ev_var rfl) ev_c rv_I0)) (fun ht H2 e2 => ?_) (fun ht H2 e2 => ?_)
    · rw [decide_eq_true_iff] at ht
      rw [if_pos (.inl (List.any_eq_true.mpr ⟨n, List.mem_of_getElem? hn, decide_eq_true (by omega)⟩))] at k
      exact s_retLD (er_lst1 ev_c) (e1.trans e2) k
    · rw [decide_eq_false_iff_not] at ht
      refine ⟨_, rfl, e1.trans e2, e2 _ _ h1, fun x hx => ?_⟩
      rw [take_snoc hn] at hx
      rcases List.mem_append.mp hx with hx | hx
      · exact hle x hx
      · rw [List.mem_singleton.mp hx]
        omega
  · rintro p σ H1 ⟨v4, rfl, e1, h1, hle⟩
    have ha : a ≤ 200 := hle a (by simp)
    have hb : b ≤ 200 := hle b (by simp)
    have hc : c ≤ 200 := hle c (by simp)
    have hd : d ≤ 200 := hle d (by simp)
    have hany : ([a, b, c, d].any fun k => decide (200 < k)) = false := by
      rw [List.any_eq_false]
      intro x hx
      simp only [List.mem_cons, List.not_mem_nil, or_false] at hx
      rw [decide_eq_true_iff]
      omega
    refine q_when (et_test (ev_op (ev_var rfl) ev_c (rv_eq rfl))) (fun ht H2 e2 => ?_) (fun ht H2 e2 => ?_)
    · rw [show nI b = V.int _ from rfl, dec_ints, decide_eq_true_iff] at ht
      rw [if_pos (.inr (by omega))] at k
      exact s_retLL (er_lst1 ev_c) (e1.trans e2) k
    · rw [show nI b = V.int _ from rfl, dec_ints, decide_eq_false_iff_not] at ht
      rw [if_neg (by rw [hany]; rintro (z | z); exact absurd z (by decide); exact ht (by omega))] at k
      have m1 : CMul (a : Int) (d : Int) := cmr (by omega)
      have m2 : CMul (c : Int) (b : Int) := cmr (by omega)
      have hli : ((c : Int) * (b : Int) ≤ (a : Int) * (d : Int)) ↔ Sq69.less (a, b) (c, d) = false := by
        rw [less_iff_not]
        show _ ↔ c * b ≤ a * d
        exact_mod_cast Iff.rfl
      refine q_when (et_test (ev_op (ev_op (ev_var rfl) (ev_var rfl) (rv_I m1)) (ev_op (ev_var rfl) (ev_var rfl) (rv_I m2)) rv_I0)) (fun hu H3 e3 => ?_) (fun hu H3 e3 => ?_)
      · rw [decide_eq_true_iff] at hu
        rw [if_pos (hli.mp hu)] at k
        exact s_retLL (er_lst1 ev_c) ((e1.trans e2).trans e3) k
      · rw [decide_eq_false_iff_not] at hu
        have hless : Sq69.less (a, b) (c, d) = true := by
          rw [← Bool.not_eq_false]
          exact fun z => hu (hli.mpr z)
        rw [if_neg (by rw [hless]; decide)] at k
        refine q_asgG (er_hasR (ra_pts2 (p := fr (a, b)) (q := fr (c, d)) (er_pt (ea_cons (ev_var rfl) (ea_cons (ev_var rfl) ea_nil))) (er_pt (ea_cons (ev_var rfl) (ea_cons (ev_var rfl) ea_nil)))) fun vs H4 e4 hs => by
          obtain ⟨v1, v2, rfl, ⟨p1, rfl, r1⟩, ⟨p2, rfl, r2⟩⟩ := hs
          exact ⟨p1, p2, (a, b), (c, d), rfl, r1, r2, (show 0 < b by omega), hless, ⟨ha, hb⟩, ⟨hc, hd⟩, rfl⟩) fun v H4 e4 hv => ?_
        obtain ⟨t, tf, l, rfl, ht4, hf4, hl4, hz⟩ := hv
        refine ⟨t, _, rfl, st_of ht4, rfl, _, _, rfl, _, _, rfl, rfl, ?_⟩
        have hml : ((Sq69.simplest (a, b) (c, d)).2.map nI).length = (Sq69.simplest (a, b) (c, d)).2.length := List.length_map _
        have e : (((Sq69.simplest (a, b) (c, d)).1.1 : Int) :: Sq69.ints ((Sq69.simplest (a, b) (c, d)).1.2 :: (Sq69.simplest (a, b) (c, d)).2.length :: (Sq69.simplest (a, b) (c, d)).2)).map V.int =
            [V.int ((Sq69.simplest (a, b) (c, d)).1.1 : Int), V.int ((Sq69.simplest (a, b) (c, d)).1.2 : Int), V.int (((Sq69.simplest (a, b) (c, d)).2.map nI).length : Int)] ++ (Sq69.simplest (a, b) (c, d)).2.map nI := by
          rw [List.map_cons, map_ints, hml]
          rfl
        rw [e] at k
        exact s_retLL (el_catR (er_ofL (el_lst (ea_cons (ev_op (ev_var rfl) ev_c (ix0 hf4)) (ea_cons (ev_op (ev_var rfl) ev_c (ix1 hf4)) (ea_cons (ev_len (ev_var rfl) (sq_of hl4)) ea_nil))) (by show 3 ≤ 100000; decide)))
          (fun H5 e5 Q' k' => (ev_var rfl) H5 e5 Q' fun H6 e6 => k' _ H6 e6 ⟨l, rfl, e6 _ _ (e5 _ _ hl4)⟩) (by rw [hml]; show 3 + _ ≤ _; omega)) (((e1.trans e2).trans e3).trans e4) k

/-! ### told_way -/
def outWay (a b : Nat) : List Int := if a = 0 ∨ b = 0 ∨ 200 < a ∨ 200 < b then [-1] else ((wayOf (a, b)).length : Int) :: Sq69.ints (wayOf (a, b))
def preWay : Pre := fun vs H R => ∃ a b : Nat, vs = [nI a, nI b] ∧ R = retL H ((outWay a b).map V.int)
theorem scWay : FnScope ["a", "b", "number", "steps"] ["a", "b"] (defScope (top 43)) := ⟨rfl, rfl, rfl, by decide +kernel, rfl, by decide +kernel, by decide +kernel⟩
theorem ok_told_way (B : Blt mg) (D : Df K mg "told_way" 43 ["a", "b"]) (g1 : GI mg "MOST_PART" 200) (g2 : GI mg "TOO_FAR" (-1)) (F : Has P w K mg base 2 "way_to" ["aim"] preWayTo) :
    Has P w K mg base 3 "told_way" ["a", "b"] preWay := by
  refine D.has scWay (fun vs H R h => ?_) (fun f cdv A outer s H vs R Q E hr h k => ?_)
  · obtain ⟨a, b, rfl, _⟩ := h
    rfl
  obtain ⟨a, b, rfl, rfl⟩ := h
  have nd := scWay.nd
  refine ⟨_, pss_cons (ps_for PassesOwn.never rfl (pi_list (pe_lst (pa_cons (pv 0) (pa_cons (pv 1) pa_nil)))) (pg_name (i := 2) nd rfl (Or.inl rfl))
      (pss_one (ps_if (PW.pt (pw_or (pt_cmpR op_lt (pv 2) pe_int (nomark _)) (pw_or1 (pt_cmpR op_gt (pv 2) (pe_gi g1 (by rfl)) (nomark _))))) (pss_one (ps_ret (pe_lst (pa_cons (pe_gi g2 (by rfl)) pa_nil)))) pss_nil)))
    (pss_cons (ps_set (i := 3) nd rfl (Or.inl rfl) (pe_has F hr (by rfl) (pa_cons (pe_tup (pa_cons (pv 0) (pa_cons (pv 1) pa_nil))) pa_nil)))
    (pss_one (ps_ret (pe_op op_cat (pe_lst (pa_cons (pe_callB call_len_seq (by rfl) B.len PySem.boot_len (pa_cons (pv 3) pa_nil)) pa_nil)) (pv 3))))), ?_⟩
  unfold outWay at k
  refine q_forNLn (K := K) (xs := ([a, b] : List Nat).map nI) (el_lst (ea_cons (ev_var rfl) (ea_cons (ev_var rfl) ea_nil)) (by show 2 ≤ 100000; decide))
    (fun p i σ H' => ∃ v2, σ = [some (nI a), some (nI b), v2, none] ∧ Ex H H' ∧ H' p = some (.lst (([a, b] : List Nat).map nI)) ∧ ∀ x ∈ ([a, b] : List Nat).take i, 1 ≤ x ∧ x ≤ 200)
    (fun p H1 fp e1 h1 => ⟨_, rfl, e1, h1, fun x hx => nomatch hx⟩) (fun p i σ H' _ ⟨_, _, _, h, _⟩ => sq_of h) ?_ ?_
  · rintro p i x σ H1 hx ⟨v2, rfl, e1, h1, hle⟩
    obtain ⟨n, hn, rfl⟩ := nat_at hx
    have hmem : n = a ∨ n = b := by
      have := List.mem_of_getElem? hn
      simpa using this
    refine s_when (et_or (et_test (ev_op (ev_var rfl) ev_c rv_I0)) (fun _ => et_test (ev_op (ev_var rfl) ev_c rv_I0))) (fun ht H2 e2 => ?_) (fun ht H2 e2 => ?_)
    · rw [Bool.or_eq_true, decide_eq_true_iff, decide_eq_true_iff] at ht
      rw [if_pos (by omega)] at k
      exact s_retLD (er_lst1 ev_c) (e1.trans e2) k
    · rw [Bool.or_eq_false_iff, decide_eq_false_iff_not, decide_eq_false_iff_not] at ht
      refine ⟨_, rfl, e1.trans e2, e2 _ _ h1, fun x hx => ?_⟩
      rw [take_snoc hn] at hx
      rcases List.mem_append.mp hx with hx | hx
      · exact hle x hx
      · rw [List.mem_singleton.mp hx]
        omega
  · rintro p σ H1 ⟨v2, rfl, e1, h1, hle⟩
    have ha := hle a (by simp)
    have hb := hle b (by simp)
    rw [if_neg (by omega)] at k
    refine q_asgR (er_hasR (ra_pt1 (p := fr (a, b)) (er_pt (ea_cons (ev_var rfl) (ea_cons (ev_var rfl) ea_nil)))) fun vs H2 e2 hs => by
      obtain ⟨v1, rfl, ⟨p1, rfl, r1⟩⟩ := hs
      exact ⟨p1, (a, b), rfl, r1, (show 0 < a by omega), (show 0 < b by omega), ⟨ha.2, hb.2⟩, rfl⟩) fun v H2 e2 hv => ?_
    obtain ⟨l, rfl, hl, hz⟩ := hv
    have hml : ((wayOf (a, b)).map nI).length = (wayOf (a, b)).length := List.length_map _
    have e : (((wayOf (a, b)).length : Int) :: Sq69.ints (wayOf (a, b))).map V.int = [V.int (((wayOf (a, b)).map nI).length : Int)] ++ (wayOf (a, b)).map nI := by
      rw [List.map_cons, map_ints, hml]
      rfl
    rw [e] at k
    exact s_retLL (el_catR (er_ofL (er_lst1 (ev_len (ev_var rfl) (sq_of hl))))
      (fun H5 e5 Q' k' => (ev_var rfl) H5 e5 Q' fun H6 e6 => k' _ H6 e6 ⟨l, rfl, e6 _ _ (e5 _ _ hl)⟩) (by rw [hml]; show 1 + _ ≤ _; omega)) (e1.trans e2) k
end
end Cs
namespace Cs

/-! ## The specification's side: what is read, what each call is answered -/
theorem given_len {a b : List Nat} {l : List Int} (h : Sq69.given a b = some l) : a.length = b.length ∧ l.length = a.length := by
  unfold Sq69.given at h
  split at h
  · cases h
  · next q =>
    have q : a.length = b.length := Decidable.of_not_not q
    cases h
    rw [List.length_map, List.length_zip]
    omega
theorem four {α : Type} {l : List α} (h : l.length = 4) : ∃ a b c d, l = [a, b, c, d] := by
  match l, h with
  | [a, b, c, d], _ => exact ⟨a, b, c, d, rfl⟩
theorem two {α : Type} {l : List α} (h : l.length = 2) : ∃ a b, l = [a, b] := by
  match l, h with
  | [a, b], _ => exact ⟨a, b, rfl⟩
theorem tn {x : Int} (h : 0 ≤ x) : (x.toNat : Int) = x := Int.toNat_of_nonneg h
theorem read_eq {p m : List Int} (hp : ∀ x ∈ p, 0 ≤ x) (hm : ∀ x ∈ m, 0 ≤ x) : Sq69.read (p.map Int.toNat) (m.map Int.toNat) = coneIn p m := by
  by_cases h : p.length = 4 ∧ m.length = 4
  · obtain ⟨a0, a1, a2, a3, rfl⟩ := four h.1
    obtain ⟨b0, b1, b2, b3, rfl⟩ := four h.2
    have e : pointsIn [a0, a1, a2, a3] [b0, b1, b2, b3] 2 = some [(a0 - b0, a1 - b1), (a2 - b2, a3 - b3)] := rfl
    rw [coneIn_some e]
    have g : Sq69.given ([a0, a1, a2, a3].map Int.toNat) ([b0, b1, b2, b3].map Int.toNat) = some [a0 - b0, a1 - b1, a2 - b2, a3 - b3] := by
      show some [(a0.toNat : Int) - b0.toNat, (a1.toNat : Int) - b1.toNat, (a2.toNat : Int) - b2.toNat, (a3.toNat : Int) - b3.toNat] = _
      rw [tn (hp a0 (by simp)), tn (hp a1 (by simp)), tn (hp a2 (by simp)), tn (hp a3 (by simp)), tn (hm b0 (by simp)), tn (hm b1 (by simp)), tn (hm b2 (by simp)), tn (hm b3 (by simp))]
    unfold Sq69.read
    rw [g]
    show (if ([a0 - b0, a1 - b1, a2 - b2, a3 - b3].any fun k => decide (Sq69.PLACE < k.natAbs)) = true then _ else _) = _
    by_cases hn : near 40 [(a0 - b0, a1 - b1), (a2 - b2, a3 - b3)] = false
    · rw [if_pos hn, if_pos]
      unfold near at hn
      unfold Sq69.PLACE
      simp only [List.all_cons, List.all_nil, Bool.and_eq_false_iff, decide_eq_false_iff_not, Bool.and_true] at hn
      simp only [List.any_cons, List.any_nil, Bool.or_eq_true, decide_eq_true_iff, Bool.or_false]
      omega
    · rw [if_neg hn, if_neg]
      unfold near at hn
      unfold Sq69.PLACE
      simp only [List.all_cons, List.all_nil, Bool.not_eq_false, Bool.and_eq_true, decide_eq_true_iff, Bool.and_true] at hn
      simp only [List.any_cons, List.any_nil, Bool.or_eq_true, decide_eq_true_iff, Bool.or_false]
      omega
  · have e : pointsIn p m 2 = none := if_neg h
    rw [coneIn_none e]
    unfold Sq69.read
    split
    · next x y z w q =>
      obtain ⟨q1, q2⟩ := given_len q
      rw [List.length_map] at q1 q2
      rw [List.length_map] at q1
      exfalso
      apply h
      have : ([x, y, z, w] : List Int).length = 4 := rfl
      omega
    · rfl
open Sq69Neutral in
theorem step_begin (s : Sq69.Cone) {p m : List Int} (hp : ∀ x ∈ p, 0 ≤ x) (hm : ∀ x ∈ m, 0 ≤ x) : step s [[1], p, m] = match coneIn p m with
    | .error e => (s, [e])
    | .ok c => (c, [Sq69.det c.u c.v]) := by
  show ((Sq69.House.step s (.begin_ (p.map Int.toNat) (m.map Int.toNat))).1, (Sq69.House.step s (.begin_ (p.map Int.toNat) (m.map Int.toNat))).2.value :: (Sq69.House.step s (.begin_ (p.map Int.toNat) (m.map Int.toNat))).2.out) = _
  unfold Sq69.House.step
  dsimp only
  rw [read_eq hp hm]
  cases coneIn p m <;> rfl
theorem step_least (s : Sq69.Cone) : Sq69Neutral.step s [[2]] = (s, outLeast s) := rfl
theorem step_sail (s : Sq69.Cone) : Sq69Neutral.step s [[3]] = (s, outSail s) := rfl
theorem step_kind (s : Sq69.Cone) : Sq69Neutral.step s [[4]] = (s, outKind s) := rfl
theorem step_dual (s : Sq69.Cone) : Sq69Neutral.step s [[6]] = (s, outLeast s.dual) := rfl
theorem step_like (s : Sq69.Cone) {p m : List Int} (hp : ∀ x ∈ p, 0 ≤ x) (hm : ∀ x ∈ m, 0 ≤ x) : Sq69Neutral.step s [[5], p, m] = (s, outLike s p m) := by
  show ((Sq69.House.step s (.like (p.map Int.toNat) (m.map Int.toNat))).1, (Sq69.House.step s (.like (p.map Int.toNat) (m.map Int.toNat))).2.value :: (Sq69.House.step s (.like (p.map Int.toNat) (m.map Int.toNat))).2.out) = _
  unfold Sq69.House.step outLike
  dsimp only
  rw [read_eq hp hm]
  cases coneIn p m <;> rfl
theorem step_told (s : Sq69.Cone) {p m : List Int} (hp : ∀ x ∈ p, 0 ≤ x) (hm : ∀ x ∈ m, 0 ≤ x) : Sq69Neutral.step s [[7], p, m] = (s, outParts s p m) := by
  show ((Sq69.House.step s (.told (p.map Int.toNat) (m.map Int.toNat))).1, (Sq69.House.step s (.told (p.map Int.toNat) (m.map Int.toNat))).2.value :: (Sq69.House.step s (.told (p.map Int.toNat) (m.map Int.toNat))).2.out) = _
  unfold Sq69.House.step outParts
  dsimp only
  by_cases h : p.length = 2 ∧ m.length = 2
  · obtain ⟨a0, a1, rfl⟩ := two h.1
    obtain ⟨b0, b1, rfl⟩ := two h.2
    have e : pointsIn [a0, a1] [b0, b1] 1 = some [(a0 - b0, a1 - b1)] := rfl
    have g : Sq69.given ([a0, a1].map Int.toNat) ([b0, b1].map Int.toNat) = some [a0 - b0, a1 - b1] := by
      show some [(a0.toNat : Int) - b0.toNat, (a1.toNat : Int) - b1.toNat] = _
      rw [tn (hp a0 (by simp)), tn (hp a1 (by simp)), tn (hm b0 (by simp)), tn (hm b1 (by simp))]
    rw [g, e]
    dsimp only
    have hn : near 1600 [(a0 - b0, a1 - b1)] = false ↔ (Sq69.PLACE * Sq69.PLACE < (a0 - b0).natAbs ∨ Sq69.PLACE * Sq69.PLACE < (a1 - b1).natAbs) := by
      unfold near Sq69.PLACE
      simp only [List.all_cons, List.all_nil, Bool.and_eq_false_iff, decide_eq_false_iff_not, Bool.and_true]
      omega
    by_cases q : near 1600 [(a0 - b0, a1 - b1)] = false
    · rw [if_pos (hn.mp q), if_pos q]
      rfl
    · rw [if_neg (fun z => q (hn.mpr z)), if_neg q]
      unfold toldOut
      by_cases r : Sq69.Cone.has s (a0 - b0, a1 - b1) = false
      · rw [if_pos r, if_pos r]
        rfl
      · rw [if_neg r, if_neg r]
        cases Sq69.Cone.told s (a0 - b0, a1 - b1) <;> rfl
  · have e : pointsIn p m 1 = none := if_neg h
    rw [e]
    dsimp only
    split
    · next x y q =>
      obtain ⟨q1, q2⟩ := given_len q
      rw [List.length_map] at q1 q2
      rw [List.length_map] at q1
      exfalso
      apply h
      have : ([x, y] : List Int).length = 2 := rfl
      omega
    · rfl
theorem step_simplest (s : Sq69.Cone) (a b c d : Int) : Sq69Neutral.step s [[8, a, b, c, d]] = (s, outSimple a.toNat b.toNat c.toNat d.toNat) := by
  show ((Sq69.House.step s (.simplest a.toNat b.toNat c.toNat d.toNat)).1, (Sq69.House.step s (.simplest a.toNat b.toNat c.toNat d.toNat)).2.value :: (Sq69.House.step s (.simplest a.toNat b.toNat c.toNat d.toNat)).2.out) = _
  unfold Sq69.House.step outSimple
  dsimp only
  split
  · rfl
  · split <;> rfl
theorem step_way (s : Sq69.Cone) (a b : Int) : Sq69Neutral.step s [[9, a, b]] = (s, outWay a.toNat b.toNat) := by
  show ((Sq69.House.step s (.way a.toNat b.toNat)).1, (Sq69.House.step s (.way a.toNat b.toNat)).2.value :: (Sq69.House.step s (.way a.toNat b.toNat)).2.out) = _
  unfold Sq69.House.step outWay
  dsimp only
  split <;> rfl

/-! ### the flat list -/
theorem drop_at {l : List Int} {i : Nat} {z : Int} (h : l[i]? = some z) : l.drop i = z :: l.drop (i + 1) := by
  have hi := (List.getElem?_eq_some_iff.mp h)
  rw [List.drop_eq_getElem_cons hi.1, hi.2]
theorem rows_zero {r t : List Int} {xs : List (List Int)} (h : PyFlat.rows 0 r = some (xs, t)) : xs = [] ∧ t = r := by
  have h : some (([] : List (List Int)), r) = some (xs, t) := h
  cases h
  exact ⟨rfl, rfl⟩
theorem rows_step {l t : List Int} {i k : Nat} {xs : List (List Int)} (h : PyFlat.rows (k + 1) (l.drop i) = some (xs, t)) :
    ∃ z xs', l[i]? = some z ∧ 0 ≤ z ∧ i + 1 + z.toNat ≤ l.length ∧ xs = (l.drop (i + 1)).take z.toNat :: xs' ∧ PyFlat.rows k (l.drop (i + 1 + z.toNat)) = some (xs', t) := by
  cases e : l[i]? with
  | none =>
    have : l.drop i = [] := List.drop_eq_nil_of_le (List.getElem?_eq_none_iff.mp e)
    rw [this] at h
    cases h
  | some z =>
    rw [drop_at e] at h
    have h : (match PyFlat.row (z :: l.drop (i + 1)) with
      | none => none
      | some (x, s) => match PyFlat.rows k s with
        | none => none
        | some (xs, t) => some (x :: xs, t)) = some (xs, t) := h
    have hr : PyFlat.row (z :: l.drop (i + 1)) = if 0 ≤ z ∧ z.toNat ≤ (l.drop (i + 1)).length then some ((l.drop (i + 1)).take z.toNat, (l.drop (i + 1)).drop z.toNat) else none := rfl
    have hi := (List.getElem?_eq_some_iff.mp e).1
    by_cases q : 0 ≤ z ∧ z.toNat ≤ (l.drop (i + 1)).length
    · rw [hr, if_pos q] at h
      dsimp only at h
      rw [List.drop_drop] at h
      have q2 := q.2
      rw [List.length_drop] at q2
      cases e2 : PyFlat.rows k (l.drop (i + 1 + z.toNat)) with
      | none =>
        rw [e2] at h
        cases h
      | some w =>
        obtain ⟨ys, u⟩ := w
        rw [e2] at h
        cases h
        exact ⟨z, ys, rfl, q.1, by omega, rfl, e2⟩
    · rw [hr, if_neg q] at h
      cases h
theorem call_some {l t : List Int} {i : Nat} {c : List (List Int)} (h : PyFlat.call PySq69.shape (l.drop i) = some (c, t)) :
    ∃ p n k xs, l[i]? = some p ∧ PySq69.shape p = some (n, k) ∧ i + 1 + n ≤ l.length ∧ PyFlat.rows k (l.drop (i + 1 + n)) = some (xs, t) ∧ c = (p :: (l.drop (i + 1)).take n) :: xs := by
  cases e : l[i]? with
  | none =>
    have : l.drop i = [] := List.drop_eq_nil_of_le (List.getElem?_eq_none_iff.mp e)
    rw [this] at h
    cases h
  | some p =>
    rw [drop_at e] at h
    have h : (match PySq69.shape p with
      | none => none
      | some (n, k) => if (l.drop (i + 1)).length < n then none else match PyFlat.rows k ((l.drop (i + 1)).drop n) with
        | none => none
        | some (xs, t) => some ((p :: (l.drop (i + 1)).take n) :: xs, t)) = some (c, t) := h
    have hi := (List.getElem?_eq_some_iff.mp e).1
    cases e2 : PySq69.shape p with
    | none =>
      rw [e2] at h
      cases h
    | some w =>
      obtain ⟨n, k⟩ := w
      rw [e2] at h
      dsimp only at h
      by_cases q : (l.drop (i + 1)).length < n
      · rw [if_pos q] at h
        cases h
      · rw [if_neg q, List.drop_drop] at h
        rw [List.length_drop] at q
        cases e3 : PyFlat.rows k (l.drop (i + 1 + n)) with
        | none =>
          rw [e3] at h
          cases h
        | some w =>
          obtain ⟨ys, u⟩ := w
          rw [e3] at h
          cases h
          exact ⟨p, n, k, ys, rfl, e2, by omega, e3, rfl⟩
theorem rows_len : ∀ {k : Nat} {r t : List Int} {xs : List (List Int)}, PyFlat.rows k r = some (xs, t) → xs.length = k
  | 0, r, t, xs, h => by rw [(rows_zero h).1]; rfl
  | k + 1, r, t, xs, h => by
    obtain ⟨z, xs', _, _, _, e, h2⟩ := rows_step (l := r) (i := 0) (by rw [List.drop_zero]; exact h)
    rw [e, List.length_cons, rows_len h2]
theorem calls_step {l : List Int} {i f : Nat} {cs : List (List (List Int))} (hi : i < l.length) (h : PyFlat.calls PySq69.shape f (l.drop i) = some cs) :
    ∃ g c t cs', PyFlat.call PySq69.shape (l.drop i) = some (c, t) ∧ PyFlat.calls PySq69.shape g t = some cs' ∧ cs = c :: cs' := by
  have e : l[i]? = some l[i] := List.getElem?_eq_getElem hi
  rw [drop_at e] at h ⊢
  cases f with
  | zero => cases h
  | succ f =>
    have h : (match PyFlat.call PySq69.shape (l[i] :: l.drop (i + 1)) with
      | none => none
      | some (c, t) => match PyFlat.calls PySq69.shape f t with
        | none => none
        | some cs => some (c :: cs)) = some cs := h
    cases e2 : PyFlat.call PySq69.shape (l[i] :: l.drop (i + 1)) with
    | none =>
      rw [e2] at h
      cases h
    | some w =>
      obtain ⟨c, t⟩ := w
      rw [e2] at h
      dsimp only at h
      cases e3 : PyFlat.calls PySq69.shape f t with
      | none =>
        rw [e3] at h
        cases h
      | some ys =>
        rw [e3] at h
        cases h
        exact ⟨f, c, t, ys, rfl, e3, rfl⟩
theorem calls_end {f : Nat} {cs : List (List (List Int))} (h : PyFlat.calls PySq69.shape f [] = some cs) : cs = [] := by
  cases f <;> cases h <;> rfl
theorem whole_id (c : List (List Int)) : PySq69.whole c = c := by
  unfold PySq69.whole
  split <;> rfl
theorem map_whole (cs : List (List (List Int))) : cs.map PySq69.whole = cs := by
  have : PySq69.whole = id := funext whole_id
  rw [this, List.map_id]
theorem answers_eq {l : List Int} {cs : List (List (List Int))} (h : PyFlat.calls PySq69.shape l.length l = some cs) : PySq69.answers l = PyFlat.told (PyFlat.played Sq69Neutral.step Sq69Neutral.start cs) := by
  unfold PySq69.answers PySq69.calls
  rw [h]
  dsimp only
  rw [map_whole]
theorem asked_calls {l : List Int} (h : PySq69.answers_asked l = true) : (∃ cs, PyFlat.calls PySq69.shape l.length l = some cs) ∧ (PySq69.answers l).length ≤ 10000000 := by
  unfold PySq69.answers_asked at h
  cases e : PyFlat.calls PySq69.shape l.length l with
  | none =>
    rw [e] at h
    cases h
  | some cs =>
    rw [e] at h
    dsimp only at h
    rw [Bool.and_eq_true] at h
    refine ⟨⟨cs, rfl⟩, ?_⟩
    have := h.2
    unfold PyFlat.short at this
    exact of_decide_eq_true this
theorem told_cons (x : List Int) (r : List (List Int)) : PyFlat.told (x :: r) = (x.length : Int) :: (x ++ PyFlat.told r) := rfl
theorem played_cons (s : Sq69.Cone) (c : List (List Int)) (cs : List (List (List Int))) : PyFlat.played Sq69Neutral.step s (c :: cs) = (Sq69Neutral.step s c).2 :: PyFlat.played Sq69Neutral.step (Sq69Neutral.step s c).1 cs := rfl
/-- which calls there are -/
theorem shape_cases {p : Int} {nu : List Int} {xs : List (List Int)} (h : PySq69.shape p = some (nu.length, xs.length)) :
    (p = 1 ∧ ∃ a b, nu = [] ∧ xs = [a, b]) ∨ (p = 2 ∧ nu = [] ∧ xs = []) ∨ (p = 3 ∧ nu = [] ∧ xs = []) ∨ (p = 4 ∧ nu = [] ∧ xs = []) ∨ (p = 5 ∧ ∃ a b, nu = [] ∧ xs = [a, b]) ∨ (p = 6 ∧ nu = [] ∧ xs = []) ∨
    (p = 7 ∧ ∃ a b, nu = [] ∧ xs = [a, b]) ∨ (p = 8 ∧ ∃ a b c d, nu = [a, b, c, d] ∧ xs = []) ∨ (p = 9 ∧ ∃ a b, nu = [a, b] ∧ xs = []) := by
  unfold PySq69.shape at h
  have zero : ∀ {α : Type} {l : List α}, 0 = l.length → l = [] := fun h => List.eq_nil_of_length_eq_zero h.symm
  split at h
  · next e =>
    have h := Prod.mk.inj (Option.some.inj h)
    obtain ⟨a, b, rfl⟩ := two h.2.symm
    exact .inl ⟨e, a, b, zero h.1, rfl⟩
  split at h
  · next e =>
    have h := Prod.mk.inj (Option.some.inj h)
    exact .inr (.inl ⟨e, zero h.1, zero h.2⟩)
  split at h
  · next e =>
    have h := Prod.mk.inj (Option.some.inj h)
    exact .inr (.inr (.inl ⟨e, zero h.1, zero h.2⟩))
  split at h
  · next e =>
    have h := Prod.mk.inj (Option.some.inj h)
    exact .inr (.inr (.inr (.inl ⟨e, zero h.1, zero h.2⟩)))
  split at h
  · next e =>
    have h := Prod.mk.inj (Option.some.inj h)
    obtain ⟨a, b, rfl⟩ := two h.2.symm
    exact .inr (.inr (.inr (.inr (.inl ⟨e, a, b, zero h.1, rfl⟩))))
  split at h
  · next e =>
    have h := Prod.mk.inj (Option.some.inj h)
    exact .inr (.inr (.inr (.inr (.inr (.inl ⟨e, zero h.1, zero h.2⟩)))))
  split at h
  · next e =>
    have h := Prod.mk.inj (Option.some.inj h)
    obtain ⟨a, b, rfl⟩ := two h.2.symm
    exact .inr (.inr (.inr (.inr (.inr (.inr (.inl ⟨e, a, b, zero h.1, rfl⟩))))))
  split at h
  · next e =>
    have h := Prod.mk.inj (Option.some.inj h)
    obtain ⟨a, b, c, d, rfl⟩ := four h.1.symm
    exact .inr (.inr (.inr (.inr (.inr (.inr (.inr (.inl ⟨e, a, b, c, d, rfl, zero h.2⟩)))))))
  split at h
  · next e =>
    have h := Prod.mk.inj (Option.some.inj h)
    obtain ⟨a, b, rfl⟩ := two h.1.symm
    exact .inr (.inr (.inr (.inr (.inr (.inr (.inr (.inr ⟨e, a, b, rfl, zero h.2⟩)))))))
  · cases h
end Cs
namespace Cs
open PySem PySem.Spec PyProof.Rows L2 Evl

/-! ## The table FORMS: a written dict whose keys are whole numbers -/
def TupK (K : PySem.W.Frag) (a : Addr) (xs : List V) : Prop := ∃ (o : Obj) (its : Array Value) (n : Nat), K.lookup a = some o ∧ o.cls = .type "tuple" ∧ o.data = .seq its n ∧ its.size ≤ sizeLine ∧ Vals xs its.toList
structure FormsAt (K : PySem.W.Frag) (d : Addr) : Prop where
  ex : ∃ (es : Array DictEntry) (m : Nat), K.lookup d = some ⟨.type "dict", none, .dict es m, #[]⟩ ∧ (∀ e ∈ es, ∃ k, Value.isInt k e.key = true ∧ e.hash = hashInt k) ∧
    ∀ p n k, PySq69.shape p = some (n, k) → ∃ a, findBy Value.isInt es p = some (.ref a) ∧ TupK K a [.int (n : Int), .int (k : Int)]
def rForms (K : PySem.W.Frag) (d : Addr) : R2 := fun x y H Q => ∃ p n k, x = .ref d ∧ y = .int p ∧ PySq69.shape p = some (n, k) ∧ ∀ a, SqT K H a [.int (n : Int), .int (k : Int)] → Q (.ref a) H
section
variable {X : Cx}
theorem ix_forms {d : Addr} (F : FormsAt X.K d) : IxR X (rForms X.K d) := by
  intro value slice pins s σ H x y v u Q I rx ry h hs
  obtain ⟨p, n, k, rfl, rfl, hsh, q⟩ := h
  obtain rfl : v = Value.ref d := rx
  obtain ⟨t, rfl⟩ := ry
  obtain ⟨es, m, hl, hk, hf⟩ := F.ex
  obtain ⟨a, ha, ht⟩ := hf p n k hsh
  have hm : s.heap.MapOf (intKind X.prog X.w) d (fun k => findBy Value.isInt es k) := ⟨_, es, m, I.kIn _ _ hl, ⟨rfl, rfl, rfl⟩, rfl, hk, fun _ => rfl⟩
  exact tail_any hm.typeIs slot_dict_getitem.lookup (wpAny_getItem_of (intKind_is X.prog X.w p t) hm ha ⟨.ref a, H, I.tok _, rfl, q a (.inr ht)⟩) hs
end
section
variable {σ : L2.St} {H H' : Hp} {ta tb te : TE} {K : PySem.W.Frag}
theorem er_forms {d : Addr} {p : Int} {n k : Nat} (h : Ev tb σ H (.int p)) (hs : PySq69.shape p = some (n, k)) : Er (tOp (rForms K d) (tC (.ref d)) tb) σ H (fun v H' => ∃ a, v = .ref a ∧ SqT K H' a [.int (n : Int), .int (k : Int)]) := fun H1 e Q q =>
  h H1 e _ fun H2 e2 => ⟨p, n, k, rfl, rfl, hs, fun a ha => q _ H2 e2 ⟨a, rfl, ha⟩⟩
theorem cut_nat {l : List Int} {i j : Nat} {lo hi : Int} (h1 : lo = (i : Int)) (h2 : hi = (j : Int)) (hij : i ≤ j) (hj : j ≤ l.length) : cutV (l.map V.int) (some lo) (some hi) = ((l.drop i).take (j - i)).map V.int := by
  unfold cutV
  rw [h1, h2, HT.sIx_nat, HT.sIx_nat, List.length_map, Nat.min_eq_left (show i ≤ l.length by omega), Nat.min_eq_left hj, ← List.map_drop, ← List.map_take]
/-- lists of numbers that stand in a list at o, each apart from o -/
def RowVs (o : Addr) (H : Hp) : List V → List (List Int) → Prop
  | [], [] => True
  | v :: vs, r :: rs => (∃ a, v = .ref a ∧ a ≠ o ∧ H a = some (.lst (r.map V.int))) ∧ RowVs o H vs rs
  | _, _ => False
theorem RowVs.ex {o : Addr} (e : Ex H H') : ∀ {vs : List V} {rs : List (List Int)}, RowVs o H vs rs → RowVs o H' vs rs
  | [], [], h => h
  | _ :: _, _ :: _, h => by
    obtain ⟨⟨a, h1, h2, h3⟩, h4⟩ := h
    exact ⟨⟨a, h1, h2, e _ _ h3⟩, RowVs.ex e h4⟩
  | [], _ :: _, h => h.elim
  | _ :: _, [], h => h.elim
theorem RowVs.set {o : Addr} {u : HO} : ∀ {vs : List V} {rs : List (List Int)}, RowVs o H vs rs → RowVs o (upd H o u) vs rs
  | [], [], h => h
  | _ :: _, _ :: _, h => by
    obtain ⟨⟨a, h1, h2, h3⟩, h4⟩ := h
    exact ⟨⟨a, h1, h2, by rw [upd_ne h2]; exact h3⟩, RowVs.set h4⟩
  | [], _ :: _, h => h.elim
  | _ :: _, [], h => h.elim
theorem RowVs.app {o a : Addr} {r : List Int} (hne : a ≠ o) (ha : H a = some (.lst (r.map V.int))) : ∀ {vs : List V} {rs : List (List Int)}, RowVs o H vs rs → RowVs o H (vs ++ [.ref a]) (rs ++ [r])
  | [], [], _ => ⟨⟨a, rfl, hne, ha⟩, trivial⟩
  | _ :: _, _ :: _, h => ⟨h.1, RowVs.app hne ha h.2⟩
  | [], _ :: _, h => h.elim
  | _ :: _, [], h => h.elim
theorem RowVs.len {o : Addr} : ∀ {vs : List V} {rs : List (List Int)}, RowVs o H vs rs → vs.length = rs.length
  | [], [], _ => rfl
  | _ :: _, _ :: _, h => congrArg (· + 1) (RowVs.len h.2)
  | [], _ :: _, h => h.elim
  | _ :: _, [], h => h.elim
end
section
variable {P : Program} {w : World} {K : PySem.W.Frag} {mg : Str → Option Value} {base : Heap} {C : Addr}
/-! ### read_call -/
def preRead (K : PySem.W.Frag) : Pre := fun vs H R => ∃ (a : Addr) (l : List Int) (i : Nat) (p : Int) (nu : List Int) (xs : List (List Int)) (t : List Int), vs = [.ref a, .int (i : Int)] ∧ SqL K H a (l.map V.int) ∧
  PyFlat.call PySq69.shape (l.drop i) = some ((p :: nu) :: xs, t) ∧
  R = fun v H' => ∃ (q an ao : Addr) (j : Nat) (rv : List V), v = .ref q ∧ H' q = some (.tup [.ref an, .ref ao, .int (j : Int)]) ∧ H' an = some (.lst (nu.map V.int)) ∧ H' ao = some (.lst rv) ∧ RowVs ao H' rv xs ∧ t = l.drop j ∧ j ≤ l.length ∧ i < j
theorem scRead : FnScope ["calls", "at", "many", "lists", "numbers", "rows", "k"] ["calls", "at"] (defScope (top 48)) := ⟨rfl, rfl, rfl, by decide +kernel, rfl, by decide +kernel, by decide +kernel⟩
theorem int_at {l : List Int} {i : Nat} {z : Int} (h : l[i]? = some z) : (l.map V.int)[i]? = some (V.int z) := by
  rw [List.getElem?_map, h]
  rfl
theorem shape_small {p : Int} {n k : Nat} (h : PySq69.shape p = some (n, k)) : n ≤ 4 ∧ k ≤ 2 := by
  unfold PySq69.shape at h
  repeat' split at h
  all_goals first
    | (have h := Prod.mk.inj (Option.some.inj h); omega)
    | cases h
theorem ok_read_call {d : Addr} (B : Blt mg) (D : Df K mg "read_call" 48 ["calls", "at"]) (gF : mg "FORMS" = some (.ref d)) (FF : FormsAt K d) : Has P w K mg base 1 "read_call" ["calls", "at"] (preRead K) := by
  refine D.has scRead (fun vs H R h => ?_) (fun f cdv A outer s H vs R Q E hr h k => ?_)
  · obtain ⟨a, l, i, p, nu, xs, t, rfl, _⟩ := h
    rfl
  obtain ⟨a, l, i, p, nu, xs, t, rfl, ha, hcall, rfl⟩ := h
  have nd := scRead.nd
  refine ⟨_, pss_cons (ps_asg (pe_ix (ix_forms FF) (pe_glob (v := .ref d) (by rfl) gF rfl) (pe_ix ix_list (pv 0) (pv 1) (fun _ _ => rfl)) (fun _ _ => rfl)) (pg_tup rfl (pgs_cons (pg_name (i := 2) nd rfl (Or.inl rfl)) (pgs_cons (pg_name (i := 3) nd rfl (Or.inl rfl)) pgs_nil))))
    (pss_cons (ps_set (i := 1) nd rfl (Or.inl rfl) (pe_op op_add (pv 1) pe_int))
    (pss_cons (ps_set (i := 4) nd rfl (Or.inl rfl) (pe_slice sl_list (pv 0) (po_some (pv 1)) (po_some (pe_op op_add (pv 1) (pv 2)))))
    (pss_cons (ps_set (i := 1) nd rfl (Or.inl rfl) (pe_op op_add (pv 1) (pv 2)))
    (pss_cons (ps_set (i := 5) nd rfl (Or.inl rfl) (pe_lst pa_nil))
    (pss_cons (ps_for PassesOwn.never rfl (pi_range1 (by rfl) B.range (pa_cons (pv 3) pa_nil)) (pg_name (i := 6) nd rfl (Or.inl rfl))
      (pss_cons (ps_expr (pe_bm PySem.F.plainAttrs_list PySem.F.slot_list_append PySem.F.type_list_append mt_append (pv 5) (pa_cons (pe_slice sl_list (pv 0) (po_some (pe_op op_add (pv 1) pe_int)) (po_some (pe_op op_add (pe_op op_add (pv 1) pe_int) (pe_ix ix_list (pv 0) (pv 1) (fun _ _ => rfl))))) pa_nil)))
      (pss_one (ps_set (i := 1) nd rfl (Or.inl rfl) (pe_op op_add (pe_op op_add (pv 1) pe_int) (pe_ix ix_list (pv 0) (pv 1) (fun _ _ => rfl)))))))
    (pss_one (ps_ret (pe_tup (pa_cons (pv 4) (pa_cons (pv 5) (pa_cons (pv 1) pa_nil))))))))))), ?_⟩
  obtain ⟨p', n, kk, xs', hp, hsh, hle, hrows, hcc⟩ := call_some hcall
  cases hcc
  have hsm := shape_small hsh
  refine q_asgG (er_forms (K := K) (ev_op (ev_var rfl) (ev_var rfl) (rv_ixL ha (atI_nat (int_at hp)))) hsh) fun v H1 e1 hv => ?_
  obtain ⟨tt, rfl, ht⟩ := hv
  refine ⟨tt, _, rfl, ht, rfl, _, _, rfl, _, _, rfl, rfl, ?_⟩
  have ha1 := ex_l e1 ha
  refine q_asg (ev_op (ev_var rfl) ev_c rv_I0) fun H2 e2 => ?_
  have ha2 := ex_l e2 ha1
  refine q_asgL (el_sl (ev_var rfl) (eo_some (ev_var rfl)) (eo_some (ev_op (ev_var rfl) (ev_var rfl) rv_I0)) ha2) fun an H3 fn e3 hn => ?_
  rw [cut_nat (i := i + 1) (j := i + 1 + n) (by omega) (by omega) (by omega) hle, Nat.add_sub_cancel_left] at hn
  refine q_asg (ev_op (ev_var rfl) (ev_var rfl) rv_I0) fun H4 e4 => ?_
  have ha4 := ex_l e4 (ex_l e3 ha2)
  refine q_asgL (el_lst ea_nil (by decide)) fun ao H5 fo e5 ho => ?_
  refine q_forR1 (n := (kk : Int)) (ea_cons (ev_var rfl) ea_nil) ⟨by omega, by omega⟩
    (fun m σ H' => ∃ (v6 : Option V) (j : Nat) (rv : List V) (done rest : List (List Int)), σ = [some (.ref a), some (.int (j : Int)), some (.int (n : Int)), some (.int (kk : Int)), some (.ref an), some (.ref ao), v6] ∧ Ex H4 H' ∧ H' ao = some (.lst rv) ∧ RowVs ao H' rv done ∧ rv.length = m ∧
      PyFlat.rows (kk - m) (l.drop j) = some (rest, t) ∧ done ++ rest = xs ∧ j ≤ l.length ∧ i < j)
    (fun H6 e6 => ⟨none, i + 1 + n, [], [], xs, by
      have : (((i + 1 + n : Nat) : Int)) = (i : Int) + 1 + (n : Int) := by omega
      rw [this]
      rfl, e5.trans e6, e6 _ _ ho, trivial, rfl, hrows, rfl, hle, by omega⟩) ?_ ?_
  · rintro m σ H6 hm ⟨v6, j, rv, done, rest, rfl, e6, h6, hrv, hlen, hrs, hdr, hjl, hij⟩
    obtain ⟨q, hq⟩ : ∃ q, kk - m = q + 1 := ⟨kk - m - 1, by omega⟩
    rw [hq] at hrs
    obtain ⟨z, rest', hz, hz0, hzl, hre, hrs'⟩ := rows_step hrs
    have ha6 := ex_l e6 ha4
    refine q_appL h6 (ev_var rfl) (el_sl (ev_var rfl) (eo_some (ev_op (ev_var rfl) ev_c rv_I0)) (eo_some (ev_op (ev_op (ev_var rfl) ev_c rv_I0) (ev_op (ev_var rfl) (ev_var rfl) (rv_ixL ha6 (atI_nat (int_at hz)))) rv_I0)) ha6) (by omega) fun pr H7 fp e7 hpr => ?_
    rw [cut_nat (i := j + 1) (j := j + 1 + z.toNat) (by omega) (by omega) (by omega) hzl, Nat.add_sub_cancel_left] at hpr
    have ha7 : SqL K (upd H7 ao (.lst (rv ++ [.ref pr]))) a (l.map V.int) := ex_l ((e6.trans e7).mut fo) ha4
    refine s_asg (ev_op (ev_op (ev_var rfl) ev_c rv_I0) (ev_op (ev_var rfl) (ev_var rfl) (rv_ixL ha7 (atI_nat (int_at hz)))) rv_I0) fun H8 e8 => ?_
    refine ⟨some (.int (m : Int)), j + 1 + z.toNat, rv ++ [.ref pr], done ++ [(l.drop (j + 1)).take z.toNat], rest', ?_, ((e6.trans e7).mut fo).trans e8, e8 _ _ upd_same, ?_, ?_, ?_, ?_, hzl, by omega⟩
    · have : ((j + 1 + z.toNat : Nat) : Int) = (j : Int) + 1 + z := by omega
      rw [this]
      rfl
    · exact (RowVs.set (RowVs.app (ne_of_none h6 fp).symm hpr (hrv.ex e7))).ex e8
    · rw [List.length_append, hlen]
      rfl
    · rw [show kk - (m + 1) = q by omega]
      exact hrs'
    · rw [List.append_assoc, ← hdr, hre]
      rfl
  · rintro σ H6 ⟨v6, j, rv, done, rest, rfl, e6, h6, hrv, hlen, hrs, hdr, hjl, hij⟩
    rw [show kk - ((kk : Int)).toNat = 0 by omega] at hrs
    obtain ⟨hre, htj⟩ := rows_zero hrs
    rw [hre, List.append_nil] at hdr
    refine s_retU (eu_tup (ea_cons (ev_var rfl) (ea_cons (ev_var rfl) (ea_cons (ev_var rfl) ea_nil))) (by show 3 ≤ 100000; decide)) fun q H7 fq e7 hq => ?_
    have e17 := ((((e1.trans e2).trans e3).trans e4).trans e6).trans e7
    refine k _ _ e17 ⟨q, an, ao, j, rv, rfl, hq, e7 _ _ (e6 _ _ (e4 _ _ hn)), e7 _ _ h6, ?_, htj, hjl, hij⟩
    rw [← hdr]
    exact hrv.ex e7
end
end Cs
namespace Cs
open PySem PySem.Spec PyProof.Rows L2 Evl
section
variable {P : Program} {w : World} {K : PySem.W.Frag} {mg : Str → Option Value} {base : Heap} {C : Addr}
/-! ### asked -/
theorem q_other {σ : L2.St} {H : Hp} {D : Ends} {tu tz : TS} {i : Nat} {p j : Int} (hp : σ[i]? = some (some (.int p))) (hn : p ≠ j) (k : ∀ H1, Ex H H1 → tz D σ H1) : tSeq (tIfS (tTest (tOp rEq (tVar i) (tC (.int j)))) tu tNext) tz D σ H :=
  q_when (et_test (ev_op (ev_var hp) ev_c (rv_eq rfl))) (fun hu => by
    rw [decide_eq_true_iff] at hu
    exact absurd (V.int.inj hu) hn) (fun _ H1 e1 => k H1 e1)
theorem q_this {σ : L2.St} {H : Hp} {D : Ends} {tu tz : TS} {i : Nat} {j : Int} (hp : σ[i]? = some (some (.int j))) (k : ∀ H1, Ex H H1 → tu { D with nx := tz D } σ H1) : tSeq (tIfS (tTest (tOp rEq (tVar i) (tC (.int j)))) tu tNext) tz D σ H :=
  q_when (et_test (ev_op (ev_var hp) ev_c (rv_eq rfl))) (fun _ H1 e1 => k H1 e1) (fun hu => by
    rw [decide_eq_false_iff_not] at hu
    exact absurd rfl hu)
def preAsked (C : Addr) : Pre := fun vs H R => ∃ (a an ao : Addr) (c : Sq69.Cone) (p : Int) (nu : List Int) (xs : List (List Int)) (rv : List V), vs = [.ref a, .int p, .ref an, .ref ao] ∧ ConeAt C H a c ∧ Good c ∧
  H an = some (.lst (nu.map V.int)) ∧ H ao = some (.lst rv) ∧ RowVs ao H rv xs ∧ PySq69.shape p = some (nu.length, xs.length) ∧ p ≠ 1 ∧ (∀ x ∈ nu, 0 ≤ x) ∧ (∀ r ∈ xs, ∀ x ∈ r, 0 ≤ x) ∧
  R = retL H ((Sq69Neutral.step c ((p :: nu) :: xs)).2.map V.int)
theorem scAsked : FnScope ["cone", "kind", "numbers", "rows"] ["cone", "kind", "numbers", "rows"] (defScope (top 49)) := ⟨rfl, rfl, rfl, by decide +kernel, rfl, by decide +kernel, by decide +kernel⟩
theorem nonneg_nat {x : Int} (h : 0 ≤ x) : ∃ n : Nat, x = (n : Int) := ⟨x.toNat, (Int.toNat_of_nonneg h).symm⟩
theorem ok_asked (D : Df K mg "asked" 49 ["cone", "kind", "numbers", "rows"]) (F2 : Has P w K mg base 6 "told_least" ["cone"] (preR C fun c H => retL H (fLeast c))) (F3 : Has P w K mg base 7 "told_sail" ["cone"] (preR C fun c H => retL H (fSail c)))
    (F4 : Has P w K mg base 5 "told_kind" ["cone"] (preR C fun c H => retL H (fKind c))) (F5 : Has P w K mg base 6 "told_like" ["cone", "plus", "minus"] (preLike K C outLike)) (F6 : Has P w K mg base 7 "told_dual" ["cone"] (preR C fun c H => retL H (fLeast c.dual)))
    (F7 : Has P w K mg base 7 "told_parts" ["cone", "plus", "minus"] (preLike K C outParts)) (F8 : Has P w K mg base 3 "told_simplest" ["a", "b", "c", "d"] preSimple) (F9 : Has P w K mg base 3 "told_way" ["a", "b"] preWay) :
    Has P w K mg base 8 "asked" ["cone", "kind", "numbers", "rows"] (preAsked C) := by
  refine D.has scAsked (fun vs H R h => ?_) (fun f cdv A outer s H vs R Q E hr h k => ?_)
  · obtain ⟨a, an, ao, c, p, nu, xs, rv, rfl, _⟩ := h
    rfl
  obtain ⟨a, an, ao, c, p, nu, xs, rv, rfl, hc, G, hn, ho, hrv, hsh, hp1, hnn, hrn, rfl⟩ := h
  refine ⟨_, pss_cons (ps_if (pt_cmpR op_eq (pv 1) pe_int (nomark _)) (pss_one (ps_ret (pe_has F2 (hr.mono (by decide)) (by rfl) (pa_cons (pv 0) pa_nil)))) pss_nil)
    (pss_cons (ps_if (pt_cmpR op_eq (pv 1) pe_int (nomark _)) (pss_one (ps_ret (pe_has F3 hr (by rfl) (pa_cons (pv 0) pa_nil)))) pss_nil)
    (pss_cons (ps_if (pt_cmpR op_eq (pv 1) pe_int (nomark _)) (pss_one (ps_ret (pe_has F4 (hr.mono (by decide)) (by rfl) (pa_cons (pv 0) pa_nil)))) pss_nil)
    (pss_cons (ps_if (pt_cmpR op_eq (pv 1) pe_int (nomark _)) (pss_one (ps_ret (pe_has F5 (hr.mono (by decide)) (by rfl) (pa_cons (pv 0) (pa_cons (pe_ix ix_list (pv 3) pe_int (fun _ _ => rfl)) (pa_cons (pe_ix ix_list (pv 3) pe_int (fun _ _ => rfl)) pa_nil)))))) pss_nil)
    (pss_cons (ps_if (pt_cmpR op_eq (pv 1) pe_int (nomark _)) (pss_one (ps_ret (pe_has F6 hr (by rfl) (pa_cons (pv 0) pa_nil)))) pss_nil)
    (pss_cons (ps_if (pt_cmpR op_eq (pv 1) pe_int (nomark _)) (pss_one (ps_ret (pe_has F7 hr (by rfl) (pa_cons (pv 0) (pa_cons (pe_ix ix_list (pv 3) pe_int (fun _ _ => rfl)) (pa_cons (pe_ix ix_list (pv 3) pe_int (fun _ _ => rfl)) pa_nil)))))) pss_nil)
    (pss_cons (ps_if (pt_cmpR op_eq (pv 1) pe_int (nomark _)) (pss_one (ps_ret (pe_has F8 (hr.mono (by decide)) (by rfl) (pa_cons (pe_ix ix_list (pv 2) pe_int (fun _ _ => rfl)) (pa_cons (pe_ix ix_list (pv 2) pe_int (fun _ _ => rfl)) (pa_cons (pe_ix ix_list (pv 2) pe_int (fun _ _ => rfl)) (pa_cons (pe_ix ix_list (pv 2) pe_int (fun _ _ => rfl)) pa_nil))))))) pss_nil)
    (pss_one (ps_ret (pe_has F9 (hr.mono (by decide)) (by rfl) (pa_cons (pe_ix ix_list (pv 2) pe_int (fun _ _ => rfl)) (pa_cons (pe_ix ix_list (pv 2) pe_int (fun _ _ => rfl)) pa_nil))))))))))), ?_⟩
  rcases shape_cases hsh with ⟨rfl, _⟩ | ⟨rfl, rfl, rfl⟩ | ⟨rfl, rfl, rfl⟩ | ⟨rfl, rfl, rfl⟩ | ⟨rfl, r1, r2, rfl, rfl⟩ | ⟨rfl, rfl, rfl⟩ | ⟨rfl, r1, r2, rfl, rfl⟩ | ⟨rfl, n1, n2, n3, n4, rfl, rfl⟩ | ⟨rfl, n1, n2, rfl, rfl⟩
  · exact absurd rfl hp1
  · rw [step_least] at k
    exact q_this rfl fun H1 e1 => s_retLD (el_C (f := fLeast) (ev_var rfl) (hc.ex e1) G) e1 k
  · rw [step_sail] at k
    exact q_other rfl (by decide) fun H1 e1 => q_this rfl fun H2 e2 => s_retLD (el_C (f := fSail) (ev_var rfl) (hc.ex (e1.trans e2)) G) (e1.trans e2) k
  · rw [step_kind] at k
    exact q_other rfl (by decide) fun H1 e1 => q_other rfl (by decide) fun H2 e2 => q_this rfl fun H3 e3 => s_retLD (el_C (f := fKind) (ev_var rfl) (hc.ex ((e1.trans e2).trans e3)) G) ((e1.trans e2).trans e3) k
  · rw [step_like c (hrn r1 (by simp)) (hrn r2 (by simp))] at k
    obtain ⟨v1, v2, rfl⟩ : ∃ v1 v2, rv = [v1, v2] := two hrv.len
    obtain ⟨⟨b1, rfl, _, hb1⟩, ⟨b2, rfl, _, hb2⟩, _⟩ := hrv
    exact q_other rfl (by decide) fun H1 e1 => q_other rfl (by decide) fun H2 e2 => q_other rfl (by decide) fun H3 e3 => q_this rfl fun H4 e4 => by
      have e := ((e1.trans e2).trans e3).trans e4
      exact s_retLD (el_has (ea_cons (ev_var rfl) (ea_cons (ev_op (ev_var rfl) ev_c (rv_ixL (sq_of (e _ _ ho)) rfl)) (ea_cons (ev_op (ev_var rfl) ev_c (rv_ixL (sq_of (e _ _ ho)) rfl)) ea_nil))) fun H5 e5 =>
        ⟨a, b1, b2, c, r1, r2, rfl, hc.ex (e.trans e5), G, sq_of (e5 _ _ (e _ _ hb1)), sq_of (e5 _ _ (e _ _ hb2)), rfl⟩) e k
  · rw [step_dual] at k
    exact q_other rfl (by decide) fun H1 e1 => q_other rfl (by decide) fun H2 e2 => q_other rfl (by decide) fun H3 e3 => q_other rfl (by decide) fun H4 e4 => q_this rfl fun H5 e5 =>
      s_retLD (el_C (f := fun c => fLeast c.dual) (ev_var rfl) (hc.ex ((((e1.trans e2).trans e3).trans e4).trans e5)) G) ((((e1.trans e2).trans e3).trans e4).trans e5) k
  · rw [step_told c (hrn r1 (by simp)) (hrn r2 (by simp))] at k
    obtain ⟨v1, v2, rfl⟩ : ∃ v1 v2, rv = [v1, v2] := two hrv.len
    obtain ⟨⟨b1, rfl, _, hb1⟩, ⟨b2, rfl, _, hb2⟩, _⟩ := hrv
    exact q_other rfl (by decide) fun H1 e1 => q_other rfl (by decide) fun H2 e2 => q_other rfl (by decide) fun H3 e3 => q_other rfl (by decide) fun H4 e4 => q_other rfl (by decide) fun H5 e5 => q_this rfl fun H6 e6 => by
      have e := ((((e1.trans e2).trans e3).trans e4).trans e5).trans e6
      exact s_retLD (el_has (ea_cons (ev_var rfl) (ea_cons (ev_op (ev_var rfl) ev_c (rv_ixL (sq_of (e _ _ ho)) rfl)) (ea_cons (ev_op (ev_var rfl) ev_c (rv_ixL (sq_of (e _ _ ho)) rfl)) ea_nil))) fun H7 e7 =>
        ⟨a, b1, b2, c, r1, r2, rfl, hc.ex (e.trans e7), G, sq_of (e7 _ _ (e _ _ hb1)), sq_of (e7 _ _ (e _ _ hb2)), rfl⟩) e k
  · obtain ⟨m1, rfl⟩ := nonneg_nat (hnn n1 (by simp))
    obtain ⟨m2, rfl⟩ := nonneg_nat (hnn n2 (by simp))
    obtain ⟨m3, rfl⟩ := nonneg_nat (hnn n3 (by simp))
    obtain ⟨m4, rfl⟩ := nonneg_nat (hnn n4 (by simp))
    rw [step_simplest, Int.toNat_natCast, Int.toNat_natCast, Int.toNat_natCast, Int.toNat_natCast] at k
    exact q_other rfl (by decide) fun H1 e1 => q_other rfl (by decide) fun H2 e2 => q_other rfl (by decide) fun H3 e3 => q_other rfl (by decide) fun H4 e4 => q_other rfl (by decide) fun H5 e5 => q_other rfl (by decide) fun H6 e6 => q_this rfl fun H7 e7 => by
      have e := (((((e1.trans e2).trans e3).trans e4).trans e5).trans e6).trans e7
      exact s_retLD (el_has (ea_cons (ev_op (ev_var rfl) ev_c (rv_ixL (sq_of (e _ _ hn)) rfl)) (ea_cons (ev_op (ev_var rfl) ev_c (rv_ixL (sq_of (e _ _ hn)) rfl)) (ea_cons (ev_op (ev_var rfl) ev_c (rv_ixL (sq_of (e _ _ hn)) rfl)) (ea_cons (ev_op (ev_var rfl) ev_c (rv_ixL (sq_of (e _ _ hn)) rfl)) ea_nil)))) fun H8 e8 => ⟨m1, m2, m3, m4, rfl, rfl⟩) e k
  · obtain ⟨m1, rfl⟩ := nonneg_nat (hnn n1 (by simp))
    obtain ⟨m2, rfl⟩ := nonneg_nat (hnn n2 (by simp))
    rw [step_way, Int.toNat_natCast, Int.toNat_natCast] at k
    exact q_other rfl (by decide) fun H1 e1 => q_other rfl (by decide) fun H2 e2 => q_other rfl (by decide) fun H3 e3 => q_other rfl (by decide) fun H4 e4 => q_other rfl (by decide) fun H5 e5 => q_other rfl (by decide) fun H6 e6 => q_other rfl (by decide) fun H7 e7 => by
      have e := (((((e1.trans e2).trans e3).trans e4).trans e5).trans e6).trans e7
      exact s_retLD (el_has (ea_cons (ev_op (ev_var rfl) ev_c (rv_ixL (sq_of (e _ _ hn)) rfl)) (ea_cons (ev_op (ev_var rfl) ev_c (rv_ixL (sq_of (e _ _ hn)) rfl)) ea_nil)) fun H8 e8 => ⟨m1, m2, rfl, rfl⟩) e k

/-! ### answers -/
theorem call_sub {l t : List Int} {i : Nat} {p : Int} {nu : List Int} {xs : List (List Int)} (hl : ∀ x ∈ l, 0 ≤ x) (h : PyFlat.call PySq69.shape (l.drop i) = some ((p :: nu) :: xs, t)) : PySq69.shape p = some (nu.length, xs.length) ∧ (∀ x ∈ nu, 0 ≤ x) ∧ (∀ r ∈ xs, ∀ x ∈ r, 0 ≤ x) ∧ l[i]? = some p := by
  obtain ⟨p', n, k, xs', hp, hsh, hle, hrows, hcc⟩ := call_some h
  cases hcc
  refine ⟨?_, fun x hx => hl x (List.mem_of_mem_drop (List.mem_of_mem_take hx)), ?_, hp⟩
  · rw [List.length_take, List.length_drop, rows_len hrows, Nat.min_eq_left (by omega)]
    exact hsh
  · have rows_sub : ∀ (k i : Nat) (xs : List (List Int)), PyFlat.rows k (l.drop i) = some (xs, t) → ∀ r ∈ xs, ∀ x ∈ r, 0 ≤ x := by
      intro k
      induction k with
      | zero =>
        intro i xs h
        rw [(rows_zero h).1]
        intro r hr
        cases hr
      | succ k ih =>
        intro i xs h
        obtain ⟨z, xs', hz, hz0, hzl, hre, hrs'⟩ := rows_step h
        rw [hre]
        intro r hr x hx
        rcases List.mem_cons.mp hr with e | hr
        · rw [e] at hx
          exact hl x (List.mem_of_mem_drop (List.mem_of_mem_take hx))
        · exact ih _ _ hrs' r hr x hx
    exact rows_sub _ _ _ hrows
def preAnswers (K : PySem.W.Frag) : Pre := fun vs H R => ∃ (a : Addr) (l : List Int), vs = [.ref a] ∧ SqL K H a (l.map V.int) ∧ (∀ x ∈ l, 0 ≤ x) ∧ l.length ≤ 16000 ∧ PySq69.answers_asked l = true ∧ R = fun v H' => ∃ q, v = .ref q ∧ H' q = some (.lst ((PySq69.answers l).map V.int))
theorem scAnswers : FnScope ["calls", "cone", "found", "at", "kind", "numbers", "rows", "refusal", "other", "told"] ["calls"] (defScope (top 47)) := ⟨rfl, rfl, rfl, by decide +kernel, rfl, by decide +kernel, by decide +kernel⟩
theorem ok_answers (B : Blt mg) (D : Df K mg "answers" 47 ["calls"]) (M : Makes P w K mg base C) (g1 : GI mg "BEGIN" 1) (F1 : Has P w K mg base 1 "read_call" ["calls", "at"] (preRead K)) (F2 : Has P w K mg base 3 "cone_in" ["plus", "minus"] (preConeIn K C))
    (F3 : Has P w K mg base 2 "size_of" ["cone"] (preC C gSize)) (F4 : Has P w K mg base 8 "asked" ["cone", "kind", "numbers", "rows"] (preAsked C)) : Has P w K mg base 9 "answers" ["calls"] (preAnswers K) := by
  refine D.has scAnswers (fun vs H R h => ?_) (fun f cdv A outer s H vs R Q E hr h k => ?_)
  · obtain ⟨a, l, rfl, _⟩ := h
    rfl
  obtain ⟨a, l, rfl, ha, hnn, hlen, hask, rfl⟩ := h
  have nd := scAnswers.nd
  obtain ⟨⟨cs0, hcs0⟩, hshort⟩ := asked_calls hask
  refine ⟨_, pss_cons (ps_set (i := 1) nd rfl (Or.inl rfl) (pe_cone M (hr.mono (by decide)) (by rfl) (pa_cons (pe_tup (pa_cons pe_int (pa_cons pe_int pa_nil))) (pa_cons (pe_tup (pa_cons pe_int (pa_cons pe_int pa_nil))) pa_nil))))
    (pss_cons (ps_set (i := 2) nd rfl (Or.inl rfl) (pe_lst pa_nil))
    (pss_cons (ps_set (i := 3) nd rfl (Or.inl rfl) pe_int)
    (pss_cons (ps_while PassesOwn.never (pt_cmpR op_lt (pv 3) (pe_callB call_len_seq (by rfl) B.len PySem.boot_len (pa_cons (pv 0) pa_nil)) (nomark _))
      (pss_cons (ps_set (i := 4) nd rfl (Or.inl rfl) (pe_ix ix_list (pv 0) (pv 3) (fun _ _ => rfl)))
      (pss_cons (ps_asg (pe_has F1 (hr.mono (by decide)) (by rfl) (pa_cons (pv 0) (pa_cons (pv 3) pa_nil))) (pg_tup rfl (pgs_cons (pg_name (i := 5) nd rfl (Or.inl rfl)) (pgs_cons (pg_name (i := 6) nd rfl (Or.inl rfl)) (pgs_cons (pg_name (i := 3) nd rfl (Or.inl rfl)) pgs_nil)))))
      (pss_cut (ps_if (pt_cmpR op_eq (pv 4) (pe_gi g1 (by rfl)) (nomark _))
        (pss_cons (ps_asg (pe_has F2 (hr.mono (by decide)) (by rfl) (pa_cons (pe_ix ix_list (pv 6) pe_int (fun _ _ => rfl)) (pa_cons (pe_ix ix_list (pv 6) pe_int (fun _ _ => rfl)) pa_nil))) (pg_tup rfl (pgs_cons (pg_name (i := 7) nd rfl (Or.inl rfl)) (pgs_cons (pg_name (i := 8) nd rfl (Or.inl rfl)) pgs_nil))))
        (pss_cons (ps_set (i := 9) nd rfl (Or.inl rfl) (pe_lst (pa_cons (pv 7) pa_nil)))
        (pss_one (ps_if (pt_cmpR op_notN (pv 8) pe_non (nomark _))
          (pss_cons (ps_set (i := 1) nd rfl (Or.inl rfl) (pv 8))
          (pss_one (ps_set (i := 9) nd rfl (Or.inl rfl) (pe_lst (pa_cons (pe_has F3 (hr.mono (by decide)) (by rfl) (pa_cons (pv 1) pa_nil)) pa_nil))))) pss_nil))))
        (pss_one (ps_set (i := 9) nd rfl (Or.inl rfl) (pe_has F4 hr (by rfl) (pa_cons (pv 1) (pa_cons (pv 4) (pa_cons (pv 5) (pa_cons (pv 6) pa_nil))))))))
      (pss_cons (ps_expr (pe_bm PySem.F.plainAttrs_list PySem.F.slot_list_append PySem.F.type_list_append mt_append (pv 2) (pa_cons (pe_callB call_len_seq (by rfl) B.len PySem.boot_len (pa_cons (pv 9) pa_nil)) pa_nil)))
      (pss_one (ps_expr (pe_bm PySem.F.plainAttrs_list PySem.F.slot_list_extend PySem.F.type_list_extend mt_extend (pv 2) (pa_cons (pv 9) pa_nil)))))))))
    (pss_one (ps_ret (pv 2)))))), ?_⟩
  refine q_asgR (er_make (C := C) (ra_pts2 (p := (1, 0)) (q := (0, 1)) (er_pt (ea_cons ev_c (ea_cons ev_c ea_nil))) (er_pt (ea_cons ev_c (ea_cons ev_c ea_nil))))) fun v H1 e1 hv => ?_
  obtain ⟨ca, rfl, hca⟩ := hv
  refine q_asgL (el_lst ea_nil (by decide)) fun o H2 fo e2 ho => ?_
  refine q_asg ev_c fun H3 e3 => ?_
  have e13 := (e1.trans e2).trans e3
  have foH : H o = none := fresh_back e1 fo
  refine q_while (fun m σ H' => ∃ (cb : Addr) (i : Nat) (c : Sq69.Cone) (acc : List Int) (f : Nat) (cs : List (List (List Int))) (v4 v5 v6 v7 v8 v9 : Option V), σ = [some (.ref a), some (.ref cb), some (.ref o), some (.int (i : Int)), v4, v5, v6, v7, v8, v9] ∧
      Ex H H' ∧ cb ≠ o ∧ ConeAt C H' cb c ∧ Good c ∧ H' o = some (.lst (acc.map V.int)) ∧ i ≤ l.length ∧ m = l.length - i ∧ PyFlat.calls PySq69.shape f (l.drop i) = some cs ∧ acc ++ PyFlat.told (PyFlat.played Sq69Neutral.step c cs) = PySq69.answers l) _
    ⟨ca, 0, Sq69.fresh, [], l.length, cs0, none, none, none, none, none, none, rfl, e13, ?_, hca.ex (e2.trans e3), good_fresh, e3 _ _ ho, Nat.zero_le _, rfl, hcs0, (answers_eq hcs0).symm⟩ ?_
  · obtain ⟨dx, v1, v2, hh, _⟩ := hca
    exact ne_of_none hh fo
  rintro m σ H4 ⟨cb, i, c, acc, f, cs, v4, v5, v6, v7, v8, v9, rfl, e4, hne, hc, G, h4, hil, rfl, hcs, heq⟩
  have ha4 := ex_l e4 ha
  refine ⟨_, et_test (ev_op (ev_var rfl) (ev_len (ev_var rfl) ha4) rv_I0), fun ht H5 e5 => ?_, fun ht H5 e5 => ?_⟩
  · rw [decide_eq_true_iff, List.length_map] at ht
    have hi : i < l.length := by omega
    obtain ⟨g, cc, t, cs', hcall, hcs', rfl⟩ := calls_step hi hcs
    obtain ⟨p, nu, xs, rfl⟩ : ∃ p nu xs, cc = (p :: nu) :: xs := by
      obtain ⟨p', n, kk, xs', _, _, _, _, hcc⟩ := call_some hcall
      exact ⟨_, _, _, hcc⟩
    obtain ⟨hsh, hnu, hxs, hp⟩ := call_sub hnn hcall
    have ha5 := ex_l e5 ha4
    rw [played_cons, told_cons] at heq
    have hsz : acc.length + 1 + (Sq69Neutral.step c ((p :: nu) :: xs)).2.length ≤ 10000000 := by
      have := congrArg List.length heq
      rw [List.length_append, List.length_cons, List.length_append] at this
      omega
    refine ⟨fun σ2 H2 => ∃ m', m' < l.length - i ∧ ∃ (cb : Addr) (i : Nat) (c : Sq69.Cone) (acc : List Int) (f : Nat) (cs : List (List (List Int))) (v4 v5 v6 v7 v8 v9 : Option V), σ2 = [some (.ref a), some (.ref cb), some (.ref o), some (.int (i : Int)), v4, v5, v6, v7, v8, v9] ∧
      Ex H H2 ∧ cb ≠ o ∧ ConeAt C H2 cb c ∧ Good c ∧ H2 o = some (.lst (acc.map V.int)) ∧ i ≤ l.length ∧ m' = l.length - i ∧ PyFlat.calls PySq69.shape f (l.drop i) = some cs ∧ acc ++ PyFlat.told (PyFlat.played Sq69Neutral.step c cs) = PySq69.answers l, fun _ _ h => h, ?_⟩
    refine q_asg (ev_op (ev_var rfl) (ev_var rfl) (rv_ixL ha5 (atI_nat (int_at hp)))) fun H6 e6 => ?_
    refine q_asgG (er_has (ea_cons (ev_var rfl) (ea_cons (ev_var rfl) ea_nil)) fun H7 e7 => ⟨a, l, i, p, nu, xs, t, rfl, ex_l (e6.trans e7) ha5, hcall, rfl⟩) fun v H7 e7 hv => ?_
    obtain ⟨q, an, ao, j, rv, rfl, hq, hnl, hao, hrv, htj, hjl, hij⟩ := hv
    refine ⟨q, _, rfl, st_of hq, rfl, _, _, rfl, _, _, rfl, _, _, rfl, rfl, ?_⟩
    have e47 := (e5.trans e6).trans e7
    have hc7 := hc.ex e47
    have h7 := e47 _ _ h4
    have e07 := e4.trans e47
    refine q_cut (M := fun σ H' => ∃ (cb' tl : Addr) (v7 v8 : Option V), σ = [some (.ref a), some (.ref cb'), some (.ref o), some (.int (j : Int)), some (.int p), some (.ref an), some (.ref ao), v7, v8, some (.ref tl)] ∧ Ex H H' ∧ cb' ≠ o ∧ tl ≠ o ∧
      ConeAt C H' cb' (Sq69Neutral.step c ((p :: nu) :: xs)).1 ∧ Good (Sq69Neutral.step c ((p :: nu) :: xs)).1 ∧ H' o = some (.lst (acc.map V.int)) ∧ H' tl = some (.lst ((Sq69Neutral.step c ((p :: nu) :: xs)).2.map V.int))) ?_ ?_
    · refine s_if (et_test (ev_op (ev_var rfl) ev_c (rv_eq rfl))) (fun hu H8 e8 => ?_) (fun hu H8 e8 => ?_)
      · rw [decide_eq_true_iff] at hu
        have hu := V.int.inj hu
        subst hu
        rcases shape_cases hsh with ⟨_, r1, r2, rfl, rfl⟩ | ⟨h, _⟩ | ⟨h, _⟩ | ⟨h, _⟩ | ⟨h, _⟩ | ⟨h, _⟩ | ⟨h, _⟩ | ⟨h, _⟩ | ⟨h, _⟩
        · rw [step_begin c (hxs r1 (by simp)) (hxs r2 (by simp))]
          obtain ⟨w1, w2, rfl⟩ : ∃ w1 w2, rv = [w1, w2] := two hrv.len
          obtain ⟨⟨b1, rfl, _, hb1⟩, ⟨b2, rfl, _, hb2⟩, _⟩ := hrv
          refine q_asgG (er_has (ea_cons (ev_op (ev_var rfl) ev_c (rv_ixL (sq_of (e8 _ _ hao)) rfl)) (ea_cons (ev_op (ev_var rfl) ev_c (rv_ixL (sq_of (e8 _ _ hao)) rfl)) ea_nil)) fun H9 e9 => ⟨b1, b2, r1, r2, rfl, sq_of (e9 _ _ (e8 _ _ hb1)), sq_of (e9 _ _ (e8 _ _ hb2)), rfl⟩) fun v H9 e9 hv => ?_
          obtain ⟨tt, rfl, hv⟩ := hv
          have h9 := e9 _ _ (e8 _ _ h7)
          rcases hv with ⟨er, her, htt⟩ | ⟨d, x, her, htt, hd⟩
          · rw [her]
            refine ⟨tt, _, rfl, st_of htt, rfl, _, _, rfl, _, _, rfl, rfl, ?_⟩
            refine q_asgL (er_lst1 (ev_var rfl)) fun tl H10 ft e10 htl => ?_
            refine s_when (et_test (ev_op (ev_var rfl) ev_c rv_notN)) (fun hu => absurd hu (by decide)) (fun _ H11 e11 => ?_)
            have e8b := ((e8.trans e9).trans e10).trans e11
            exact ⟨cb, tl, _, _, rfl, e07.trans e8b, hne, (ne_of_none h9 ft).symm, hc7.ex e8b, G, e8b _ _ h7, e11 _ _ htl⟩
          · rw [her]
            refine ⟨tt, _, rfl, st_of htt, rfl, _, _, rfl, _, _, rfl, rfl, ?_⟩
            refine q_asgL (er_lst1 (ev_var rfl)) fun tl H10 ft e10 htl => ?_
            have hxo : x ≠ o := by
              obtain ⟨dx, u1, u2, hh, _⟩ := hd
              exact ne_of hh h9 (by intro z; cases z)
            refine s_when (et_test (ev_op (ev_var rfl) ev_c rv_notN)) (fun _ H11 e11 => ?_) (fun hu => absurd hu (by simp))
            refine q_asg (ev_var rfl) fun H12 e12 => ?_
            have e1012 := (e10.trans e11).trans e12
            have Gd := coneIn_good her
            refine s_asgL (er_lst1 (ev_C (g := gSize) (ev_var rfl) (hd.ex e1012) Gd)) fun tl' H13 ft' e13' htl' => ?_
            have e8b := ((e8.trans e9).trans e1012).trans e13'
            exact ⟨x, tl', _, _, rfl, e07.trans e8b, hxo, (ne_of_none (e1012 _ _ h9) ft').symm, hd.ex (e1012.trans e13'), Gd, e8b _ _ h7, htl'⟩
        all_goals exact absurd h (by decide)
      · rw [decide_eq_false_iff_not] at hu
        have hp1 : p ≠ 1 := fun z => hu (by rw [z])
        refine s_asgL (el_has (ea_cons (ev_var rfl) (ea_cons (ev_var rfl) (ea_cons (ev_var rfl) (ea_cons (ev_var rfl) ea_nil)))) fun H9 e9 => ⟨cb, an, ao, c, p, nu, xs, rv, rfl, hc7.ex (e8.trans e9), G, e9 _ _ (e8 _ _ hnl), e9 _ _ (e8 _ _ hao), hrv.ex (e8.trans e9), hsh, hp1, hnu, hxs, rfl⟩) fun tl H9 ft e9 htl => ?_
        have hst : (Sq69Neutral.step c ((p :: nu) :: xs)).1 = c := by
          rcases shape_cases hsh with ⟨rfl, _⟩ | ⟨rfl, rfl, rfl⟩ | ⟨rfl, rfl, rfl⟩ | ⟨rfl, rfl, rfl⟩ | ⟨rfl, r1, r2, rfl, rfl⟩ | ⟨rfl, rfl, rfl⟩ | ⟨rfl, r1, r2, rfl, rfl⟩ | ⟨rfl, n1, n2, n3, n4, rfl, rfl⟩ | ⟨rfl, n1, n2, rfl, rfl⟩
          · exact absurd rfl hp1
          · rw [step_least]
          · rw [step_sail]
          · rw [step_kind]
          · rw [step_like c (hxs r1 (by simp)) (hxs r2 (by simp))]
          · rw [step_dual]
          · rw [step_told c (hxs r1 (by simp)) (hxs r2 (by simp))]
          · rw [step_simplest]
          · rw [step_way]
        have e8b := e8.trans e9
        refine ⟨cb, tl, _, _, rfl, e07.trans e8b, hne, (ne_of_none (e8 _ _ h7) ft).symm, ?_, ?_, e8b _ _ h7, htl⟩
        · rw [hst]
          exact hc7.ex e8b
        · rw [hst]
          exact G
    · rintro σ H8 ⟨cb', tl, v7', v8', rfl, e8, hne', htlo, hc8, G8, h8, htl⟩
      refine ⟨_, rfl, .inl ⟨rfl, _, SqL.of h8⟩, ?_⟩
      refine ⟨_, rfl, tl, _, rfl, .inl (SqL.of htl), o, _, _, rfl, rfl, h8, by rw [List.length_map]; exact Nat.lt_of_le_of_lt (show acc.length ≤ 10000000 by omega) (by decide), ?_⟩
      have htl2 : upd H8 o (.lst (acc.map V.int ++ [.int (((Sq69Neutral.step c ((p :: nu) :: xs)).2.map V.int).length : Int)])) tl = some (.lst ((Sq69Neutral.step c ((p :: nu) :: xs)).2.map V.int)) := by
        rw [upd_ne htlo]
        exact htl
      refine ⟨_, rfl, .inl ⟨rfl, _, SqL.of upd_same⟩, _, rfl, o, tl, _, _, rfl, rfl, upd_same, htl2, ?_, ?_⟩
      · rw [List.length_append, List.length_map, List.length_map]
        exact Nat.le_trans (show acc.length + 1 + _ ≤ 10000000 from hsz) (by decide)
      · refine ⟨l.length - j, by omega, cb', j, (Sq69Neutral.step c ((p :: nu) :: xs)).1, acc ++ (((Sq69Neutral.step c ((p :: nu) :: xs)).2.length : Int) :: (Sq69Neutral.step c ((p :: nu) :: xs)).2), g, cs', _, _, _, _, _, _, rfl, (e8.mut foH).mut foH, hne', ?_, G8, ?_, hjl, rfl, ?_, ?_⟩
        · obtain ⟨dx, u1, u2, hh, ⟨x1, rfl, hx1⟩, ⟨x2, rfl, hx2⟩⟩ := hc8
          refine ⟨dx, _, _, by rw [upd_ne hne', upd_ne hne']; exact hh, ⟨x1, rfl, ?_⟩, ⟨x2, rfl, ?_⟩⟩
          · exact (hx1.upd h8).upd upd_same
          · exact (hx2.upd h8).upd upd_same
        · rw [upd_same, List.map_append, List.append_assoc, List.length_map]
          rfl
        · rw [← htj]
          exact hcs'
        · rw [List.append_assoc]
          exact heq
  · rw [decide_eq_false_iff_not, List.length_map] at ht
    refine s_ret (ev_var rfl) fun H6 e6 => k _ _ ((e4.trans e5).trans e6) ⟨o, rfl, ?_⟩
    have hi : i = l.length := by omega
    rw [hi, List.drop_length] at hcs
    rw [calls_end hcs] at heq
    have heq : acc ++ [] = PySq69.answers l := heq
    rw [List.append_nil] at heq
    rw [← heq]
    exact e6 _ _ (e5 _ _ h4)
end
end Cs
namespace Cs
open PySem PySem.Spec PyProof.Rows L2 Evl
open PySem.W (Codec)
section
variable {P : Program} {w : World} {K : PySem.W.Frag} {mg : Str → Option Value} {base h : Heap} {C : Addr}
/-! ## What the top has left -/
theorem df_of {x : Str} {i : Nat} {ps : List Str} (X : K.In h) (G : h.Ns mainGlobals mg) {f : Addr} {oc : Value} {od an : Option Addr} {kV dc pm cd ct : Value} {sl : Array (Option Value)}
    (hb : ∀ (kV dc pm : Value) (an : Option Addr) (cd ct : Value) (us : List Value), us.length = ps.length → bindArgs (PySem.W.fnOf x x (defArgs (top i)) (defBody (top i)) (defScope (top i)) .none kV dc pm an cd ct) ⟨us, []⟩ = pure (ps.zip us))
    (a : PySem.W.nsIn K mainGlobals x = some (some (.ref f))) (l : K.lookup f = some ⟨oc, od, .func (PySem.W.fnOf x x (defArgs (top i)) (defBody (top i)) (defScope (top i)) .none kV dc pm an cd ct), sl⟩)
    (c : PySem.W.codeIn K cd x = true) (k : PySem.W.keepIn K (.ref f) = true) : Df K mg x i ps := by
  have F := fun_mk (st := top i) l c k
  exact ⟨f, _, F, PySem.W.mg_of X G a, F.binds hb⟩
theorem cl_of (X : K.In h) (G : h.Ns mainGlobals mg) {C fI : Addr} {oc : Value} {od an : Option Addr} {kV dc pm cd ct : Value} {sl : Array (Option Value)}
    (aC : PySem.W.nsIn K mainGlobals "Cone" = some (some (.ref C))) (pg : PySem.W.plainGet K C Str.empty = true) (hd : PySem.W.hasDictIn K C = true) (po : PySem.W.plainOver K C = true) (sa : PySem.W.findIn K (.ref C) "__setattr__" = some (some (.builtin "object.__setattr__")))
    (nF : PySem.W.findIn K (.ref C) "first" = some none) (nS : PySem.W.findIn K (.ref C) "second" = some none) (mk : PySem.W.makesIn K C = true) (aI : PySem.W.findIn K (.ref C) "__init__" = some (some (.ref fI))) (iI : PySem.W.isFn K (.ref fI) = true) (kC : PySem.W.keepIn K (.ref C) = true)
    (l : K.lookup fI = some ⟨oc, od, .func (PySem.W.fnOf "__init__" "Cone.__init__" (defArgs (inClass (top 12) 0)) (defBody (inClass (top 12) 0)) (defScope (inClass (top 12) 0)) .none kV dc pm an cd ct), sl⟩) (c : PySem.W.codeIn K cd "Cone.__init__" = true) (k : PySem.W.keepIn K (.ref fI) = true) :
    ∃ C fI fdI, mg "Cone" = some (.ref C) ∧ Cl K C ∧ Mk K C fI ∧ Fun K "__init__" "Cone.__init__" (inClass (top 12) 0) fI fdI ∧ Binds K fdI ["self", "first", "second"] [] := by
  have F := fun_mk (st := inClass (top 12) 0) l c k
  exact ⟨C, fI, _, PySem.W.mg_of X G aC, ⟨⟨pg, hd, po, sa⟩, nF, nS⟩, ⟨mk, aI, iI, kC⟩, F, F.binds fun _ _ _ _ _ _ us hl => match us, hl with | [_, _, _], _ => rfl⟩
theorem gi_of {x : Str} {i : Int} {t : Tok} (X : K.In h) (G : h.Ns mainGlobals mg) (a : PySem.W.nsIn K mainGlobals x = some (some (.int i t))) : GI mg x i := ⟨t, PySem.W.mg_of X G a⟩
theorem tup_of {a : Addr} {i j : Int} {n k : Nat} {u v : Tok} {dd : Option Addr} {m : Nat} {sl : Array (Option Value)} (l : K.lookup a = some ⟨.type "tuple", dd, .seq #[.int i u, .int j v] m, sl⟩) (hi : i = (n : Int)) (hj : j = (k : Int)) : TupK K a [.int (n : Int), .int (k : Int)] := by
  subst hi hj
  exact ⟨_, _, _, l, rfl, rfl, (by show 2 ≤ sizeLine; decide), .cons ⟨_, rfl⟩ (.cons ⟨_, rfl⟩ .nil)⟩
theorem forms_of {d : Addr} {m : Nat} {a1 a2 a3 a4 a5 a6 a7 a8 a9 : Addr} {t1 t2 t3 t4 t5 t6 t7 t8 t9 : Tok} (l : K.lookup d = some ⟨.type "dict", none, .dict #[⟨1, .int 1 t1, .ref a1⟩, ⟨2, .int 2 t2, .ref a2⟩, ⟨3, .int 3 t3, .ref a3⟩, ⟨4, .int 4 t4, .ref a4⟩, ⟨5, .int 5 t5, .ref a5⟩, ⟨6, .int 6 t6, .ref a6⟩, ⟨7, .int 7 t7, .ref a7⟩, ⟨8, .int 8 t8, .ref a8⟩, ⟨9, .int 9 t9, .ref a9⟩] m, #[]⟩)
    (h1 : TupK K a1 [.int ((0 : Nat) : Int), .int ((2 : Nat) : Int)])
    (h2 : TupK K a2 [.int ((0 : Nat) : Int), .int ((0 : Nat) : Int)])
    (h3 : TupK K a3 [.int ((0 : Nat) : Int), .int ((0 : Nat) : Int)])
    (h4 : TupK K a4 [.int ((0 : Nat) : Int), .int ((0 : Nat) : Int)])
    (h5 : TupK K a5 [.int ((0 : Nat) : Int), .int ((2 : Nat) : Int)])
    (h6 : TupK K a6 [.int ((0 : Nat) : Int), .int ((0 : Nat) : Int)])
    (h7 : TupK K a7 [.int ((0 : Nat) : Int), .int ((2 : Nat) : Int)])
    (h8 : TupK K a8 [.int ((4 : Nat) : Int), .int ((0 : Nat) : Int)])
    (h9 : TupK K a9 [.int ((2 : Nat) : Int), .int ((0 : Nat) : Int)]) : FormsAt K d := by
  refine ⟨_, m, l, fun e he => ?_, fun p n k hs => ?_⟩
  · have he := Array.mem_toList_iff.mpr he
    simp only [List.mem_cons, List.not_mem_nil, or_false] at he
    rcases he with rfl | rfl | rfl | rfl | rfl | rfl | rfl | rfl | rfl
    · exact ⟨1, rfl, (show (1 : Int) = hashInt 1 by decide +kernel)⟩
    · exact ⟨2, rfl, (show (2 : Int) = hashInt 2 by decide +kernel)⟩
    · exact ⟨3, rfl, (show (3 : Int) = hashInt 3 by decide +kernel)⟩
    · exact ⟨4, rfl, (show (4 : Int) = hashInt 4 by decide +kernel)⟩
    · exact ⟨5, rfl, (show (5 : Int) = hashInt 5 by decide +kernel)⟩
    · exact ⟨6, rfl, (show (6 : Int) = hashInt 6 by decide +kernel)⟩
    · exact ⟨7, rfl, (show (7 : Int) = hashInt 7 by decide +kernel)⟩
    · exact ⟨8, rfl, (show (8 : Int) = hashInt 8 by decide +kernel)⟩
    · exact ⟨9, rfl, (show (9 : Int) = hashInt 9 by decide +kernel)⟩
  · unfold PySq69.shape at hs
    split at hs
    · next e =>
      subst e
      cases hs
      refine ⟨a1, ?_, h1⟩
      unfold findBy
      rw [List.find?_toArray]
      rfl
    split at hs
    · next e =>
      subst e
      cases hs
      refine ⟨a2, ?_, h2⟩
      unfold findBy
      rw [List.find?_toArray]
      rfl
    split at hs
    · next e =>
      subst e
      cases hs
      refine ⟨a3, ?_, h3⟩
      unfold findBy
      rw [List.find?_toArray]
      rfl
    split at hs
    · next e =>
      subst e
      cases hs
      refine ⟨a4, ?_, h4⟩
      unfold findBy
      rw [List.find?_toArray]
      rfl
    split at hs
    · next e =>
      subst e
      cases hs
      refine ⟨a5, ?_, h5⟩
      unfold findBy
      rw [List.find?_toArray]
      rfl
    split at hs
    · next e =>
      subst e
      cases hs
      refine ⟨a6, ?_, h6⟩
      unfold findBy
      rw [List.find?_toArray]
      rfl
    split at hs
    · next e =>
      subst e
      cases hs
      refine ⟨a7, ?_, h7⟩
      unfold findBy
      rw [List.find?_toArray]
      rfl
    split at hs
    · next e =>
      subst e
      cases hs
      refine ⟨a8, ?_, h8⟩
      unfold findBy
      rw [List.find?_toArray]
      rfl
    split at hs
    · next e =>
      subst e
      cases hs
      refine ⟨a9, ?_, h9⟩
      unfold findBy
      rw [List.find?_toArray]
      rfl
    · cases hs
end

section
variable {P : Program} {w : World} {K : PySem.W.Frag} {mg : Str → Option Value} {h : Heap} {C : Addr}
/-! ## All promises, one from another -/
theorem all_has (B : Blt mg) (CL : ∃ C fI fdI, mg "Cone" = some (.ref C) ∧ Cl K C ∧ Mk K C fI ∧ Fun K "__init__" "Cone.__init__" (inClass (top 12) 0) fI fdI ∧ Binds K fdI ["self", "first", "second"] [])
    (gMOSTEND : GI mg "MOST_END" (40)) (gBADLISTS : GI mg "BAD_LISTS" (-3)) (gTOOFAR : GI mg "TOO_FAR" (-1)) (gNOENDS : GI mg "NO_ENDS" (-4)) (gRIGHT : GI mg "RIGHT" (1)) (gLEFT : GI mg "LEFT" (0)) (gMOSTPOINT : GI mg "MOST_POINT" (1600)) (gMOSTPART : GI mg "MOST_PART" (200)) (gBEGIN : GI mg "BEGIN" (1))
    (FD : ∃ d, mg "FORMS" = some (.ref d) ∧ FormsAt K d)
    (D1 : Df K mg "points_in" 1 ["plus", "minus", "many"])
    (D2 : Df K mg "are_near" 2 ["points", "most"])
    (D3 : Df K mg "turn" 3 ["one", "other"])
    (D4 : Df K mg "common" 4 ["one", "other"])
    (D5 : Df K mg "is_bare" 5 ["point"])
    (D6 : Df K mg "told_points" 6 ["points"])
    (D13 : Df K mg "cone_in" 13 ["plus", "minus"])
    (D14 : Df K mg "size_of" 14 ["cone"])
    (D15 : Df K mg "share_of" 15 ["cone"])
    (D16 : Df K mg "second_point" 16 ["cone"])
    (D17 : Df K mg "numbers_of" 17 ["cone"])
    (D18 : Df K mg "least_points" 18 ["cone"])
    (D19 : Df K mg "corners_of" 19 ["cone"])
    (D20 : Df K mg "changed" 20 ["cone"])
    (D21 : Df K mg "other_share" 21 ["cone"])
    (D22 : Df K mg "are_alike" 22 ["one", "other"])
    (D23 : Df K mg "dual_of" 23 ["cone"])
    (D24 : Df K mg "parts_of" 24 ["cone", "point"])
    (D28 : Df K mg "together" 28 ["low", "high"])
    (D29 : Df K mg "is_above" 29 ["one", "other"])
    (D30 : Df K mg "is_below" 30 ["one", "other"])
    (D31 : Df K mg "way_between" 31 ["first", "second"])
    (D32 : Df K mg "way_to" 32 ["aim"])
    (D36 : Df K mg "told_least" 36 ["cone"])
    (D37 : Df K mg "told_sail" 37 ["cone"])
    (D38 : Df K mg "told_kind" 38 ["cone"])
    (D39 : Df K mg "told_like" 39 ["cone", "plus", "minus"])
    (D40 : Df K mg "told_dual" 40 ["cone"])
    (D41 : Df K mg "told_parts" 41 ["cone", "plus", "minus"])
    (D42 : Df K mg "told_simplest" 42 ["a", "b", "c", "d"])
    (D43 : Df K mg "told_way" 43 ["a", "b"])
    (D47 : Df K mg "answers" 47 ["calls"])
    (D48 : Df K mg "read_call" 48 ["calls", "at"])
    (D49 : Df K mg "asked" 49 ["cone", "kind", "numbers", "rows"])
    : ∀ base : Heap, Has P w K mg base 9 "answers" ["calls"] (preAnswers K) := by
  intro base
  obtain ⟨C, fI, fdI, gC, T, MK, FI, bI⟩ := CL
  obtain ⟨d, gF, FF⟩ := FD
  have M : Makes P w K mg base C := ⟨fI, fdI, MK, gC, bI, ok_init FI T⟩
  have h1 := ok_points_in (P := P) (w := w) (base := base) B D1
  have h2 := ok_are_near (P := P) (w := w) (K := K) (base := base) B D2
  have h3 := ok_turn (P := P) (w := w) (K := K) (base := base) D3
  have h4 := ok_common (P := P) (w := w) (K := K) (base := base) D4
  have h5 := ok_is_bare (P := P) (w := w) (K := K) (base := base) B D5 h4
  have h6 := ok_told_points (P := P) (w := w) (K := K) (base := base) D6
  have h13 := ok_cone_in D13 M gBADLISTS gTOOFAR gNOENDS gMOSTEND h1 h2 h5 h3
  have h14 := ok_size_of T D14 h3
  have h15 := ok_share_of B T D15 h14
  have h16 := ok_second_point T D16 h14 h15
  have h17 := ok_numbers_of D17 h14 h15
  have h18 := ok_least_points B T D18 h16 h17
  have h19 := ok_corners_of B T D19 h18 h17
  have h20 := ok_changed T D20 M
  have h21 := ok_other_share D21 h20 h15
  have h22 := ok_are_alike D22 h14 h15 h21
  have h23 := ok_dual_of T D23 M
  have h24 := ok_parts_of B D24 h18 h3
  have h28 := ok_together (P := P) (w := w) (K := K) (base := base) D28
  have h29 := ok_is_above (P := P) (w := w) (K := K) (base := base) D29
  have h30 := ok_is_below (P := P) (w := w) (K := K) (base := base) D30
  have h31 := ok_way_between D31 gRIGHT gLEFT h28 h29 h30
  have h32 := ok_way_to D32 gRIGHT gLEFT h28 h29 h30
  have h36 := ok_told_least B D36 h18 h6 h17
  have h37 := ok_told_sail B D37 h19 h6
  have h38 := ok_told_kind D38 h14 h15 h21
  have h39 := ok_told_like B D39 h13 h22
  have h40 := ok_told_dual D40 h23 h36
  have h41 := ok_told_parts D41 gBADLISTS gTOOFAR gMOSTPOINT h1 h2 h24
  have h42 := ok_told_simplest B D42 gMOSTPART gTOOFAR gNOENDS h31
  have h43 := ok_told_way B D43 gMOSTPART gTOOFAR h32
  have h48 := ok_read_call (P := P) (w := w) (base := base) B D48 gF FF
  have h49 := ok_asked D49 h36 h37 h38 h39 h40 h41 h42 h43
  exact ok_answers B D47 M gBEGIN h48 h13 h14 h49
theorem all_mk {fa : Addr} (X : K.In h) (G : h.Ns mainGlobals mg) (hfa : mg "answers" = some (.ref fa)) {f : Addr} {oc : Value} {od an : Option Addr} {kV dc pm cd ct : Value} {sl : Array (Option Value)}
    (a : PySem.W.nsIn K mainGlobals "answers" = some (some (.ref f))) (l : K.lookup f = some ⟨oc, od, .func (PySem.W.fnOf "answers" "answers" (defArgs (top 47)) (defBody (top 47)) (defScope (top 47)) .none kV dc pm an cd ct), sl⟩)
    (hh : ∀ base : Heap, Has P w K mg base 9 "answers" ["calls"] (preAnswers K)) :
    ∃ fd : FuncData, (∀ (s : Shared) (us : List Value), us.length = (["calls"] : List Str).length → BindsTo s fd ⟨us, []⟩ ((["calls"] : List Str).zip us)) ∧ ∀ base : Heap, K.In base → base.Ns mainGlobals mg → FnOk P w K mg base CX0 9 fa fd ["calls"] (spG (preAnswers K)) := by
  have e := hfa.symm.trans (PySem.W.mg_of X G a)
  cases e
  refine ⟨PySem.W.fnOf "answers" "answers" (defArgs (top 47)) (defBody (top 47)) (defScope (top 47)) .none kV dc pm an cd ct, fun s us hu => match us, hu with | [_], _ => .of_eq rfl, fun base _ _ => ?_⟩
  obtain ⟨f', fd', hm, _, _, F, oc', od', sl', lk⟩ := (hh base).ex
  have e2 : f' = fa := by
    have := hm.symm.trans hfa
    cases this
    rfl
  subst e2
  have e3 := l.symm.trans lk
  cases e3
  exact F
end
end Cs
open PySem PySem.W PyProof.Rows
set_option maxRecDepth 100000 in
set_option maxHeartbeats 0 in
theorem PySem.Challenge.cw_conesails_s01_answers_holds : PySem.Challenge.rw_conesails_s01_answers.Holds := by
  w_on; k_headS; (case hw => exact ⟨[.list [.int 2]], by decide +kernel, by decide +kernel⟩)
  k_fillS
  refine L2.walk_specK (r := PySem.Challenge.rw_conesails_s01_answers) (k := 9) (CX := L2.CX0) (ps := ["calls"]) (sp := fun K => Cs.spG (Cs.preAnswers K)) (by decide +kernel) rfl rfl ⟨rfl, by decide, by decide⟩ (fun w h Y => PySem.W.kIn_of Y) ?F ?S (fun _ _ _ _ z => z)
  case F =>
    intro w mg fa h Y KX G hmg
    refine' Cs.all_mk KX G hmg ?aA ?lA (Cs.all_has ?B ?CL ?gMOSTEND ?gBADLISTS ?gTOOFAR ?gNOENDS ?gRIGHT ?gLEFT ?gMOSTPOINT ?gMOSTPART ?gBEGIN ?FD ?D1 ?D2 ?D3 ?D4 ?D5 ?D6 ?D13 ?D14 ?D15 ?D16 ?D17 ?D18 ?D19 ?D20 ?D21 ?D22 ?D23 ?D24 ?D28 ?D29 ?D30 ?D31 ?D32 ?D36 ?D37 ?D38 ?D39 ?D40 ?D41 ?D42 ?D43 ?D47 ?D48 ?D49)
    case D1 =>
      refine' Cs.df_of KX G (fun _ _ _ _ _ _ us hl => match us, hl with | [_, _, _], _ => rfl) ?a ?l ?c ?k
      (case a => k_is); (case l => k_is); (case c => k_is); (case k => k_is)
    case D2 =>
      refine' Cs.df_of KX G (fun _ _ _ _ _ _ us hl => match us, hl with | [_, _], _ => rfl) ?a ?l ?c ?k
      (case a => k_is); (case l => k_is); (case c => k_is); (case k => k_is)
    case D3 =>
      refine' Cs.df_of KX G (fun _ _ _ _ _ _ us hl => match us, hl with | [_, _], _ => rfl) ?a ?l ?c ?k
      (case a => k_is); (case l => k_is); (case c => k_is); (case k => k_is)
    case D4 =>
      refine' Cs.df_of KX G (fun _ _ _ _ _ _ us hl => match us, hl with | [_, _], _ => rfl) ?a ?l ?c ?k
      (case a => k_is); (case l => k_is); (case c => k_is); (case k => k_is)
    case D5 =>
      refine' Cs.df_of KX G (fun _ _ _ _ _ _ us hl => match us, hl with | [_], _ => rfl) ?a ?l ?c ?k
      (case a => k_is); (case l => k_is); (case c => k_is); (case k => k_is)
    case D6 =>
      refine' Cs.df_of KX G (fun _ _ _ _ _ _ us hl => match us, hl with | [_], _ => rfl) ?a ?l ?c ?k
      (case a => k_is); (case l => k_is); (case c => k_is); (case k => k_is)
    case D13 =>
      refine' Cs.df_of KX G (fun _ _ _ _ _ _ us hl => match us, hl with | [_, _], _ => rfl) ?a ?l ?c ?k
      (case a => k_is); (case l => k_is); (case c => k_is); (case k => k_is)
    case D14 =>
      refine' Cs.df_of KX G (fun _ _ _ _ _ _ us hl => match us, hl with | [_], _ => rfl) ?a ?l ?c ?k
      (case a => k_is); (case l => k_is); (case c => k_is); (case k => k_is)
    case D15 =>
      refine' Cs.df_of KX G (fun _ _ _ _ _ _ us hl => match us, hl with | [_], _ => rfl) ?a ?l ?c ?k
      (case a => k_is); (case l => k_is); (case c => k_is); (case k => k_is)
    case D16 =>
      refine' Cs.df_of KX G (fun _ _ _ _ _ _ us hl => match us, hl with | [_], _ => rfl) ?a ?l ?c ?k
      (case a => k_is); (case l => k_is); (case c => k_is); (case k => k_is)
    case D17 =>
      refine' Cs.df_of KX G (fun _ _ _ _ _ _ us hl => match us, hl with | [_], _ => rfl) ?a ?l ?c ?k
      (case a => k_is); (case l => k_is); (case c => k_is); (case k => k_is)
    case D18 =>
      refine' Cs.df_of KX G (fun _ _ _ _ _ _ us hl => match us, hl with | [_], _ => rfl) ?a ?l ?c ?k
      (case a => k_is); (case l => k_is); (case c => k_is); (case k => k_is)
    case D19 =>
      refine' Cs.df_of KX G (fun _ _ _ _ _ _ us hl => match us, hl with | [_], _ => rfl) ?a ?l ?c ?k
      (case a => k_is); (case l => k_is); (case c => k_is); (case k => k_is)
    case D20 =>
      refine' Cs.df_of KX G (fun _ _ _ _ _ _ us hl => match us, hl with | [_], _ => rfl) ?a ?l ?c ?k
      (case a => k_is); (case l => k_is); (case c => k_is); (case k => k_is)
    case D21 =>
      refine' Cs.df_of KX G (fun _ _ _ _ _ _ us hl => match us, hl with | [_], _ => rfl) ?a ?l ?c ?k
      (case a => k_is); (case l => k_is); (case c => k_is); (case k => k_is)
    case D22 =>
      refine' Cs.df_of KX G (fun _ _ _ _ _ _ us hl => match us, hl with | [_, _], _ => rfl) ?a ?l ?c ?k
      (case a => k_is); (case l => k_is); (case c => k_is); (case k => k_is)
    case D23 =>
      refine' Cs.df_of KX G (fun _ _ _ _ _ _ us hl => match us, hl with | [_], _ => rfl) ?a ?l ?c ?k
      (case a => k_is); (case l => k_is); (case c => k_is); (case k => k_is)
    case D24 =>
      refine' Cs.df_of KX G (fun _ _ _ _ _ _ us hl => match us, hl with | [_, _], _ => rfl) ?a ?l ?c ?k
      (case a => k_is); (case l => k_is); (case c => k_is); (case k => k_is)
    case D28 =>
      refine' Cs.df_of KX G (fun _ _ _ _ _ _ us hl => match us, hl with | [_, _], _ => rfl) ?a ?l ?c ?k
      (case a => k_is); (case l => k_is); (case c => k_is); (case k => k_is)
    case D29 =>
      refine' Cs.df_of KX G (fun _ _ _ _ _ _ us hl => match us, hl with | [_, _], _ => rfl) ?a ?l ?c ?k
      (case a => k_is); (case l => k_is); (case c => k_is); (case k => k_is)
    case D30 =>
      refine' Cs.df_of KX G (fun _ _ _ _ _ _ us hl => match us, hl with | [_, _], _ => rfl) ?a ?l ?c ?k
      (case a => k_is); (case l => k_is); (case c => k_is); (case k => k_is)
    case D31 =>
      refine' Cs.df_of KX G (fun _ _ _ _ _ _ us hl => match us, hl with | [_, _], _ => rfl) ?a ?l ?c ?k
      (case a => k_is); (case l => k_is); (case c => k_is); (case k => k_is)
    case D32 =>
      refine' Cs.df_of KX G (fun _ _ _ _ _ _ us hl => match us, hl with | [_], _ => rfl) ?a ?l ?c ?k
      (case a => k_is); (case l => k_is); (case c => k_is); (case k => k_is)
    case D36 =>
      refine' Cs.df_of KX G (fun _ _ _ _ _ _ us hl => match us, hl with | [_], _ => rfl) ?a ?l ?c ?k
      (case a => k_is); (case l => k_is); (case c => k_is); (case k => k_is)
    case D37 =>
      refine' Cs.df_of KX G (fun _ _ _ _ _ _ us hl => match us, hl with | [_], _ => rfl) ?a ?l ?c ?k
      (case a => k_is); (case l => k_is); (case c => k_is); (case k => k_is)
    case D38 =>
      refine' Cs.df_of KX G (fun _ _ _ _ _ _ us hl => match us, hl with | [_], _ => rfl) ?a ?l ?c ?k
      (case a => k_is); (case l => k_is); (case c => k_is); (case k => k_is)
    case D39 =>
      refine' Cs.df_of KX G (fun _ _ _ _ _ _ us hl => match us, hl with | [_, _, _], _ => rfl) ?a ?l ?c ?k
      (case a => k_is); (case l => k_is); (case c => k_is); (case k => k_is)
    case D40 =>
      refine' Cs.df_of KX G (fun _ _ _ _ _ _ us hl => match us, hl with | [_], _ => rfl) ?a ?l ?c ?k
      (case a => k_is); (case l => k_is); (case c => k_is); (case k => k_is)
    case D41 =>
      refine' Cs.df_of KX G (fun _ _ _ _ _ _ us hl => match us, hl with | [_, _, _], _ => rfl) ?a ?l ?c ?k
      (case a => k_is); (case l => k_is); (case c => k_is); (case k => k_is)
    case D42 =>
      refine' Cs.df_of KX G (fun _ _ _ _ _ _ us hl => match us, hl with | [_, _, _, _], _ => rfl) ?a ?l ?c ?k
      (case a => k_is); (case l => k_is); (case c => k_is); (case k => k_is)
    case D43 =>
      refine' Cs.df_of KX G (fun _ _ _ _ _ _ us hl => match us, hl with | [_, _], _ => rfl) ?a ?l ?c ?k
      (case a => k_is); (case l => k_is); (case c => k_is); (case k => k_is)
    case D47 =>
      refine' Cs.df_of KX G (fun _ _ _ _ _ _ us hl => match us, hl with | [_], _ => rfl) ?a ?l ?c ?k
      (case a => k_is); (case l => k_is); (case c => k_is); (case k => k_is)
    case D48 =>
      refine' Cs.df_of KX G (fun _ _ _ _ _ _ us hl => match us, hl with | [_, _], _ => rfl) ?a ?l ?c ?k
      (case a => k_is); (case l => k_is); (case c => k_is); (case k => k_is)
    case D49 =>
      refine' Cs.df_of KX G (fun _ _ _ _ _ _ us hl => match us, hl with | [_, _, _, _], _ => rfl) ?a ?l ?c ?k
      (case a => k_is); (case l => k_is); (case c => k_is); (case k => k_is)
    case gMOSTEND =>
      refine' Cs.gi_of KX G ?a
      (case a => k_is)
    case gBADLISTS =>
      refine' Cs.gi_of KX G ?a
      (case a => k_is)
    case gTOOFAR =>
      refine' Cs.gi_of KX G ?a
      (case a => k_is)
    case gNOENDS =>
      refine' Cs.gi_of KX G ?a
      (case a => k_is)
    case gRIGHT =>
      refine' Cs.gi_of KX G ?a
      (case a => k_is)
    case gLEFT =>
      refine' Cs.gi_of KX G ?a
      (case a => k_is)
    case gMOSTPOINT =>
      refine' Cs.gi_of KX G ?a
      (case a => k_is)
    case gMOSTPART =>
      refine' Cs.gi_of KX G ?a
      (case a => k_is)
    case gBEGIN =>
      refine' Cs.gi_of KX G ?a
      (case a => k_is)
    case B =>
      refine' ⟨PySem.W.mg_none_of KX G ?a, PySem.W.mg_none_of KX G ?b, PySem.W.mg_none_of KX G ?c, PySem.W.mg_none_of KX G ?d⟩
      (case a => k_is); (case b => k_is); (case c => k_is); (case d => k_is)
    case FD =>
      refine' ⟨_, PySem.W.mg_of KX G ?a, Cs.forms_of ?l (Cs.tup_of ?x1 rfl rfl) (Cs.tup_of ?x2 rfl rfl) (Cs.tup_of ?x3 rfl rfl) (Cs.tup_of ?x4 rfl rfl) (Cs.tup_of ?x5 rfl rfl) (Cs.tup_of ?x6 rfl rfl) (Cs.tup_of ?x7 rfl rfl) (Cs.tup_of ?x8 rfl rfl) (Cs.tup_of ?x9 rfl rfl)⟩
      (case a => k_is); (case l => k_is)
      (case x1 => k_is); (case x2 => k_is); (case x3 => k_is); (case x4 => k_is); (case x5 => k_is); (case x6 => k_is); (case x7 => k_is); (case x8 => k_is); (case x9 => k_is)
    case CL =>
      refine' Cs.cl_of KX G ?aC ?pg ?hd ?po ?sa ?nF ?nS ?mk ?aI ?iI ?kC ?lI ?cI ?kI
      (case aC => k_is); (case pg => k_is); (case hd => k_is); (case po => k_is); (case sa => k_is); (case nF => k_is); (case nS => k_is)
      (case mk => k_is); (case aI => k_is); (case iI => k_is); (case kC => k_is); (case lI => k_is); (case cI => k_is); (case kI => k_is)
    (case aA => k_is); (case lA => k_is)
  case S =>
    intro K H xs a hO hwi hask hx
    cases hx with
    | cons h1 h2 =>
      cases h2
      cases h1 with
      | lst hs ha =>
        have e := L2.ints_dw a.1 _ ha
        subst e
        have q : ((Codec.inLen 0 16000 a.1 && a.1.all (Codec.inInt 0 18446744073709551615)) && true) = true := hwi
        rw [Bool.and_eq_true, Bool.and_eq_true] at q
        refine ⟨_, ⟨_, a.1, rfl, hs, fun x hx => (Codec.inInt_iff.mp (List.all_eq_true.mp q.1.2 x hx)).1, (Codec.inNat_iff.mp q.1.1).2, hask, rfl⟩, fun v H' e r => ?_⟩
        obtain ⟨p, rfl, hp⟩ := r
        exact .lst (L2.SqL.of hp) (L2.dw_ints _)
#print axioms PySem.Challenge.cw_conesails_s01_answers_holds
