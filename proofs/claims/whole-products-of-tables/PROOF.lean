import PyProof.Rows.All
import Wide.All
import OpenK.AllK
import Wide.FinOn
import HandS.ForExc
import HandS.Codes
import HandS.Comp
import HandS.Dict
import HandS.Wide
import HandS.IsInst
import HandS.CallLocal
import PySem.Challenge.RW_areawalks_k31_whole_products_of_tables
import HandS.Style
import HandS.Defaults
import PyProof.Fits
import HandS.Small
import HandS.Text
import PyProof.StrOps2
import HandS.Deep
import HandS.TryOnly
import HandS.Nested
import HandS.ExcInit
import HandS.WordsExc
import HandS.ExcSuper
import HandS.HotCalls
import KE.KExcSuper
import HandS.OwnEq
import HandS.RaiseMore
import HandS.ExcIs
import HandS.ExcField
import KE.KExcIs
import HandS.EndTab
set_option Elab.async false
/-! Plain mathematics 0: sizes of numbers. -/
namespace Wk

structure Fits (k : Nat) (x : Int) : Prop where
  lt : x.natAbs < 2 ^ k
theorem Fits.mono {a b : Nat} {x : Int} (h : Fits a x) (e : a ≤ b) : Fits b x := ⟨Nat.lt_of_lt_of_le h.lt (Nat.pow_le_pow_right (by decide) e)⟩
theorem two_le {a k : Nat} (h : a < k) : 2 ^ a + 2 ^ a ≤ 2 ^ k := by
  have e : 2 ^ (a + 1) = 2 ^ a + 2 ^ a := by rw [Nat.pow_succ]; omega
  rw [← e]
  exact Nat.pow_le_pow_right (by decide) h
theorem Fits.add {a b k : Nat} {x y : Int} (h : Fits a x) (h' : Fits b y) (ha : a < k) (hb : b < k) : Fits k (x + y) := by
  have l1 := h.lt
  have l2 := h'.lt
  refine ⟨?_⟩
  have e1 := two_le ha
  have e2 := two_le hb
  have e3 := Int.natAbs_add_le x y
  omega
theorem Fits.neg {a : Nat} {x : Int} (h : Fits a x) : Fits a (-x) := by
  refine ⟨?_⟩
  rw [Int.natAbs_neg]
  exact h.lt
theorem Fits.sub {a b k : Nat} {x y : Int} (h : Fits a x) (h' : Fits b y) (ha : a < k) (hb : b < k) : Fits k (x - y) := by
  rw [Int.sub_eq_add_neg]
  exact h.add h'.neg ha hb
theorem Fits.mul {a b k : Nat} {x y : Int} (h : Fits a x) (h' : Fits b y) (e : a + b ≤ k) : Fits k (x * y) := by
  refine Fits.mono (a := a + b) ?_ e
  refine ⟨?_⟩
  rw [Int.natAbs_mul, Nat.pow_add]
  exact Nat.mul_lt_mul'' h.lt h'.lt
theorem Fits.le {a : Nat} {x y : Int} (h : Fits a x) (e : y.natAbs ≤ x.natAbs) : Fits a y := ⟨Nat.lt_of_le_of_lt e h.lt⟩
theorem Fits.zero {a : Nat} : Fits a 0 := ⟨Nat.pow_pos (by decide)⟩
theorem Fits.one {a : Nat} (h : 0 < a) : Fits a 1 := by
  have : Fits 1 1 := ⟨by decide⟩
  exact this.mono h
theorem natAbs_quot {x g q : Int} (h : x = g * q) (g0 : g ≠ 0) : q.natAbs ≤ x.natAbs := by
  rw [h, Int.natAbs_mul]
  have : 0 < g.natAbs := Int.natAbs_pos.mpr g0
  exact Nat.le_mul_of_pos_left _ this
theorem fmod_of_neg {x y : Int} (h : y < 0) : y < x.fmod y ∧ x.fmod y ≤ 0 := by
  have e := Int.neg_fmod_neg (-x) (-y)
  rw [Int.neg_neg, Int.neg_neg] at e
  have h1 := Int.fmod_nonneg_of_pos (-x) (show 0 < -y by omega)
  have h2 := Int.fmod_lt_of_pos (-x) (show 0 < -y by omega)
  omega
theorem fmod_abs_lt {x y : Int} (h : y ≠ 0) : (x.fmod y).natAbs < y.natAbs := by
  rcases Int.lt_or_gt_of_ne h with hy | hy
  · have h1 := fmod_of_neg (x := x) hy
    omega
  · have h1 := Int.fmod_nonneg_of_pos x hy
    have h2 := Int.fmod_lt_of_pos x hy
    omega
theorem fdiv_abs_le (x y : Int) : (x.fdiv y).natAbs ≤ x.natAbs := by
  by_cases hy : y = 0
  · subst hy; simp
  have e := Int.mul_fdiv_add_fmod x y
  have h1 := fmod_abs_lt (x := x) hy
  by_cases hx : x = 0
  · subst hx; simp
  generalize hq : x.fdiv y = q at *
  generalize hr : x.fmod y = r at *
  -- y * q + r = x, |r| < |y|, r of y's sign
  have hs : 0 ≤ r * y := by
    rcases Int.lt_or_gt_of_ne hy with h | h
    · have := (fmod_of_neg (x := x) h).2
      rw [hr] at this
      exact Int.mul_nonneg_of_nonpos_of_nonpos this (by omega)
    · have := Int.fmod_nonneg_of_pos x h
      rw [hr] at this
      exact Int.mul_nonneg this (by omega)
  by_cases hq0 : q.natAbs ≤ 1
  · have : 0 < x.natAbs := Int.natAbs_pos.mpr hx
    omega
  · have h2 : (y * q).natAbs = y.natAbs * q.natAbs := Int.natAbs_mul y q
    have h3 : (y * q).natAbs ≤ x.natAbs + r.natAbs := by omega
    have h4 : 0 < y.natAbs := Int.natAbs_pos.mpr hy
    -- |y||q| ≤ |x| + |r| < |x| + |y|
    have h5 : y.natAbs * q.natAbs < x.natAbs + y.natAbs := by omega
    by_cases hy1 : y.natAbs = 1
    · have : r = 0 := by omega
      rw [hy1] at h2
      omega
    · -- |y| >= 2: |y|(|q|-1) < |x| and |q| <= 2(|q|-1)
      obtain ⟨m, hm⟩ : ∃ m, q.natAbs = m + 2 := ⟨q.natAbs - 2, by omega⟩
      obtain ⟨n, hn⟩ : ∃ n, y.natAbs = n + 2 := ⟨y.natAbs - 2, by omega⟩
      rw [hm, hn] at h5
      rw [hm]
      have : (n + 2) * (m + 2) = n * m + 2 * n + 2 * m + 4 := by grind
      have h6 : 0 ≤ n * m := Nat.zero_le _
      omega
theorem Fits.fdiv {a : Nat} {x : Int} (h : Fits a x) (y : Int) : Fits a (x.fdiv y) := h.le (fdiv_abs_le x y)
theorem Fits.fmod {a : Nat} {x y : Int} (h : Fits a y) (h0 : y ≠ 0) : Fits a (x.fmod y) := h.le (Nat.le_of_lt (fmod_abs_lt h0))
theorem Fits.of_lt {a b : Nat} {x : Int} (h : x.natAbs < b) (e : b ≤ 2 ^ a) : Fits a x := ⟨Nat.lt_of_lt_of_le h e⟩
theorem Fits.nat {a : Nat} {x : Int} (h : Fits a x) : x < 2 ^ a ∧ -(2 ^ a) < x := by
  have h := h.lt
  have e : ((2 ^ a : Nat) : Int) = (2 : Int) ^ a := by simp
  omega
theorem fits_iff {a : Nat} {x : Int} : Fits a x ↔ -((2 ^ a : Nat) : Int) < x ∧ x < ((2 ^ a : Nat) : Int) := ⟨fun h => by have := h.lt; omega, fun h => ⟨by omega⟩⟩
theorem gcd_step (a b : Int) : Int.gcd b (a.fmod b) = Int.gcd a b := by
  rw [Int.fmod_def, Int.gcd_comm, Int.gcd_sub_mul_left_left]
theorem fmod_zero_iff {a b : Int} : a.fmod b = 0 ↔ b ∣ a :=
  ⟨fun h => ⟨a.fdiv b, by have := Int.mul_fdiv_add_fmod a b; omega⟩, fun h => Int.fmod_eq_zero_of_dvd h⟩
theorem fdiv_exact {a g q : Int} (h : a = g * q) (h0 : g ≠ 0) : a.fdiv g = q := by
  have e := Int.mul_fdiv_cancel_of_fmod_eq_zero (fmod_zero_iff.mpr (⟨q, h⟩ : g ∣ a))
  rw [h] at e
  have e2 := Int.eq_of_mul_eq_mul_left h0 e
  rw [h]
  exact e2
end Wk
/-! Plain mathematics 1: the group of places, tables as sets of places. -/
namespace Wk

structure Pl where
  x : Int
  y : Int
  a : Int
deriving DecidableEq
theorem Pl.ext' {g h : Pl} (h1 : g.x = h.x) (h2 : g.y = h.y) (h3 : g.a = h.a) : g = h := by
  cases g; cases h; simp_all
def tri (n : Int) : Int := n * (n - 1) / 2
def Pl.mul (g h : Pl) : Pl := ⟨g.x + h.x, g.y + h.y, g.a + h.a + g.x * h.y⟩
def Pl.inv (g : Pl) : Pl := ⟨-g.x, -g.y, g.x * g.y - g.a⟩
def Pl.pow (g : Pl) (n : Int) : Pl := ⟨n * g.x, n * g.y, n * g.a + tri n * g.x * g.y⟩
def home : Pl := ⟨0, 0, 0⟩
theorem tri2 (n : Int) : 2 * tri n = n * (n - 1) := by
  unfold tri
  have h : n % 2 = 0 ∨ n % 2 = 1 := by omega
  rcases h with h | h
  · obtain ⟨k, rfl⟩ : ∃ k, n = 2 * k := ⟨n / 2, by omega⟩
    grind
  · obtain ⟨k, rfl⟩ : ∃ k, n = 2 * k + 1 := ⟨n / 2, by omega⟩
    grind
theorem tri_add (m n : Int) : tri (m + n) = tri m + tri n + m * n := by
  have := tri2 (m+n); have := tri2 m; have := tri2 n
  grind
theorem tri_neg (n : Int) : tri (-n) = tri n + n := by
  have := tri2 (-n); have := tri2 n
  grind
theorem tri_zero : tri 0 = 0 := by decide
theorem tri_one : tri 1 = 0 := by decide
theorem Pl.mul_assoc (g h k : Pl) : (g.mul h).mul k = g.mul (h.mul k) := by
  apply Pl.ext' <;> simp only [Pl.mul] <;> grind
theorem Pl.mul_home (g : Pl) : g.mul home = g := by
  apply Pl.ext' <;> simp only [Pl.mul, home] <;> grind
theorem Pl.home_mul (g : Pl) : home.mul g = g := by
  apply Pl.ext' <;> simp only [Pl.mul, home] <;> grind
theorem Pl.mul_inv (g : Pl) : g.mul g.inv = home := by
  apply Pl.ext' <;> simp only [Pl.mul, Pl.inv, home] <;> grind
theorem Pl.inv_mul (g : Pl) : g.inv.mul g = home := by
  apply Pl.ext' <;> simp only [Pl.mul, Pl.inv, home] <;> grind
theorem Pl.inv_inv (g : Pl) : g.inv.inv = g := by
  apply Pl.ext' <;> simp only [Pl.inv] <;> grind
theorem Pl.inv_of_mul (g h : Pl) : (g.mul h).inv = h.inv.mul g.inv := by
  apply Pl.ext' <;> simp only [Pl.mul, Pl.inv] <;> grind
theorem Pl.pow_add (g : Pl) (m n : Int) : g.pow (m + n) = (g.pow m).mul (g.pow n) := by
  have := tri_add m n
  apply Pl.ext' <;> simp only [Pl.mul, Pl.pow] <;> grind
theorem Pl.pow_zero (g : Pl) : g.pow 0 = home := by
  apply Pl.ext' <;> simp only [Pl.pow, home, tri_zero] <;> grind
theorem Pl.pow_one (g : Pl) : g.pow 1 = g := by
  apply Pl.ext' <;> simp only [Pl.pow, tri_one] <;> grind
theorem Pl.pow_neg (g : Pl) (n : Int) : g.pow (-n) = (g.pow n).inv := by
  have := tri_neg n
  have := tri2 n
  apply Pl.ext' <;> simp only [Pl.inv, Pl.pow] <;> grind
theorem Pl.pow_m1 (g : Pl) : g.pow (-1) = g.inv := by rw [Pl.pow_neg, Pl.pow_one]
theorem Pl.mul_pow_neg (g : Pl) (n : Int) : (g.pow n).mul (g.pow (-n)) = home := by rw [Pl.pow_neg, Pl.mul_inv]

/-- closed under the walks' operations -/
structure Clo (G : Pl → Prop) : Prop where
  one : G home
  mul : ∀ {g h}, G g → G h → G (g.mul h)
  inv : ∀ {g}, G g → G g.inv
theorem Clo.powN {G : Pl → Prop} (c : Clo G) {g : Pl} (h : G g) (n : Nat) : G (g.pow (n : Int)) := by
  induction n with
  | zero => have := c.one; rw [← Pl.pow_zero g] at this; exact this
  | succ n ih =>
    have e : ((n + 1 : Nat) : Int) = (n : Int) + 1 := by omega
    rw [e, Pl.pow_add, Pl.pow_one]
    exact c.mul ih h
theorem Clo.pow {G : Pl → Prop} (c : Clo G) {g : Pl} (h : G g) (n : Int) : G (g.pow n) := by
  rcases Int.le_total 0 n with hn | hn
  · obtain ⟨k, rfl⟩ : ∃ k : Nat, n = (k : Int) := ⟨n.toNat, by omega⟩
    exact c.powN h k
  · obtain ⟨k, rfl⟩ : ∃ k : Nat, n = -(k : Int) := ⟨(-n).toNat, by omega⟩
    rw [Pl.pow_neg]
    exact c.inv (c.powN h k)
/-- u * l ^ (-t) and l tell u -/
theorem Clo.back {G : Pl → Prop} (c : Clo G) {u l : Pl} {t : Int} (h1 : G (u.mul (l.pow t))) (h2 : G l) : G u := by
  have h := c.mul h1 (c.pow h2 (-t))
  rw [Pl.mul_assoc, Pl.mul_pow_neg, Pl.mul_home] at h
  exact h
theorem Clo.inv_iff {G : Pl → Prop} (c : Clo G) {u : Pl} : G u.inv ↔ G u := ⟨fun h => by have := c.inv h; rwa [Pl.inv_inv] at this, c.inv⟩

/-! ### tables -/
structure Tb where
  p : Int
  q : Int
  r : Int
  s : Int
  t : Int
  c : Int
structure Tb.Ok (T : Tb) : Prop where
  p0 : 0 ≤ T.p
  s0 : 0 ≤ T.s
  c0 : 0 ≤ T.c
  zp : T.p = 0 → T.q = 0 ∧ T.r = 0
  zs : T.s = 0 → T.t = 0
  two : 0 < T.p → 0 < T.s → 0 ≤ T.q ∧ T.q < T.s ∧ 0 < T.c
  dv : T.c ∣ T.p * T.s
  low : 0 < T.c → 0 ≤ T.r ∧ T.r < T.c ∧ 0 ≤ T.t ∧ T.t < T.c
def Tb.u (T : Tb) : Pl := ⟨T.p, T.q, T.r⟩
def Tb.v (T : Tb) : Pl := ⟨0, T.s, T.t⟩
def Tb.rows (T : Tb) : List Pl := (if 0 < T.p then [T.u] else []) ++ (if 0 < T.s then [T.v] else [])
def Tb.Mem (T : Tb) (g : Pl) : Prop := ∃ n m k : Int, g.x = n * T.p ∧ g.y = n * T.q + m * T.s ∧ g.a = n * T.r + tri n * (T.p * T.q) + m * T.t + k * T.c
def Tb.Lat (T : Tb) (x y : Int) : Prop := ∃ n m : Int, x = n * T.p ∧ y = n * T.q + m * T.s
theorem Tb.Mem.lat {T : Tb} {g : Pl} (h : T.Mem g) : T.Lat g.x g.y := by
  obtain ⟨n, m, k, h1, h2, _⟩ := h
  exact ⟨n, m, h1, h2⟩
theorem Tb.clo {T : Tb} (dv : T.c ∣ T.p * T.s) : Clo T.Mem := by
  obtain ⟨d, hd⟩ := dv
  refine ⟨⟨0, 0, 0, ?_, ?_, ?_⟩, ?_, ?_⟩
  · simp [home]
  · simp [home]
  · simp [home, tri_zero]
  · rintro g h ⟨n, m, k, h1, h2, h3⟩ ⟨n', m', k', h1', h2', h3'⟩
    refine ⟨n + n', m + m', k + k' + n * m' * d, ?_, ?_, ?_⟩
    · simp only [Pl.mul]; grind
    · simp only [Pl.mul]; grind
    · have := tri_add n n'
      simp only [Pl.mul]
      rw [h3, h3', h1, h2', this]
      have : n * T.p * (n' * T.q + m' * T.s) = n * n' * (T.p * T.q) + n * m' * (T.p * T.s) := by grind
      rw [this, hd]
      grind
  · rintro g ⟨n, m, k, h1, h2, h3⟩
    refine ⟨-n, -m, -k + n * m * d, ?_, ?_, ?_⟩
    · simp only [Pl.inv]; grind
    · simp only [Pl.inv]; grind
    · have e1 := tri_neg n
      have e2 := tri2 n
      simp only [Pl.inv]
      rw [h3, h1, h2, e1]
      have : n * T.p * (n * T.q + m * T.s) = n * n * (T.p * T.q) + n * m * (T.p * T.s) := by grind
      rw [this, hd]
      have e3 : n * n = 2 * tri n + n := by grind
      rw [e3]
      grind
theorem Tb.mem_u (T : Tb) : T.Mem T.u := ⟨1, 0, 0, by simp [Tb.u], by simp [Tb.u], by simp [Tb.u, tri_one]⟩
theorem Tb.mem_v (T : Tb) : T.Mem T.v := ⟨0, 1, 0, by simp [Tb.v], by simp [Tb.v], by simp [Tb.v, tri_zero]⟩
theorem Tb.mem_c (T : Tb) (k : Int) : T.Mem ⟨0, 0, k * T.c⟩ := ⟨0, 0, k, by simp, by simp, by simp [tri_zero]⟩
/-- over one end the areas differ by multiples of the home number -/
theorem Tb.Mem.area {T : Tb} (ok : T.Ok) {g h : Pl} (hg : T.Mem g) (hh : T.Mem h) (ex : g.x = h.x) (ey : g.y = h.y) : T.c ∣ g.a - h.a := by
  obtain ⟨n, m, k, h1, h2, h3⟩ := hg
  obtain ⟨n', m', k', h1', h2', h3'⟩ := hh
  by_cases hp : T.p = 0
  · obtain ⟨hq, hr⟩ := ok.zp hp
    by_cases hs : T.s = 0
    · have ht := ok.zs hs
      exact ⟨k - k', by rw [h3, h3', hq, hr, ht]; grind⟩
    · have : m = m' := by
        have : (m - m') * T.s = 0 := by rw [hq] at h2 h2'; rw [Int.sub_mul]; simp only [Int.mul_zero] at h2 h2'; omega
        rcases Int.mul_eq_zero.mp this with h | h
        · omega
        · exact absurd h hs
      subst this
      exact ⟨k - k', by rw [h3, h3', hq, hr]; grind⟩
  · have e : n = n' := by
      have : (n - n') * T.p = 0 := by rw [Int.sub_mul]; omega
      rcases Int.mul_eq_zero.mp this with h | h
      · omega
      · exact absurd h hp
    subst e
    by_cases hs : T.s = 0
    · have ht := ok.zs hs
      exact ⟨k - k', by rw [h3, h3', ht]; grind⟩
    · have : m = m' := by
        have : (m - m') * T.s = 0 := by rw [Int.sub_mul]; omega
        rcases Int.mul_eq_zero.mp this with h | h
        · omega
        · exact absurd h hs
      subst this
      exact ⟨k - k', by rw [h3, h3']; grind⟩
theorem Tb.Mem.shift {T : Tb} {g : Pl} (hg : T.Mem g) {b : Int} (h : T.c ∣ b - g.a) : T.Mem ⟨g.x, g.y, b⟩ := by
  obtain ⟨n, m, k, h1, h2, h3⟩ := hg
  obtain ⟨d, hd⟩ := h
  exact ⟨n, m, k + d, h1, h2, by show b = _; rw [show b = g.a + T.c * d by omega, h3]; grind⟩
end Wk
/-! Plain mathematics 2: points and rows that congruences leave; products of tables. -/
namespace Wk

abbrev P2 := Int × Int
def padd (a b : P2) : P2 := (a.1 + b.1, a.2 + b.2)
def psc (n : Int) (a : P2) : P2 := (n * a.1, n * a.2)
def comb : P2 → List P2 → List Int → P2
  | pt, r :: rs, n :: ns => comb (padd pt (psc n r)) rs ns
  | pt, _, _ => pt
def vsum : List Int → List Int → Int
  | v :: vs, n :: ns => v * n + vsum vs ns
  | _, _ => 0
/-- what steered tells -/
def StSpec (pt : P2) (rows : List P2) (vals : List Int) (goal m : Int) : Option (P2 × List P2) → Prop
  | none => ∀ ns : List Int, ns.length = rows.length → ¬ m ∣ vsum vals ns - goal
  | some (pt', rows') => (∀ ms : List Int, ms.length = rows'.length → ∃ ns : List Int, ns.length = rows.length ∧ m ∣ vsum vals ns - goal ∧ comb pt' rows' ms = comb pt rows ns) ∧
      (∀ ns : List Int, ns.length = rows.length → m ∣ vsum vals ns - goal → ∃ ms : List Int, ms.length = rows'.length ∧ comb pt' rows' ms = comb pt rows ns)
theorem len0 {α : Type} {l : List α} (h : l.length = 0) : l = [] := List.eq_nil_of_length_eq_zero h
theorem len1 {α : Type} {l : List α} (h : l.length = 1) : ∃ a, l = [a] := by
  match l, h with
  | [a], _ => exact ⟨a, rfl⟩
theorem len2 {α : Type} {l : List α} (h : l.length = 2) : ∃ a b, l = [a, b] := by
  match l, h with
  | [a, b], _ => exact ⟨a, b, rfl⟩
theorem zero_dvd_iff' {a : Int} : (0 : Int) ∣ a ↔ a = 0 := Int.zero_dvd
theorem st_nil_some {pt : P2} {goal m : Int} (h : m ∣ goal) : StSpec pt [] [] goal m (some (pt, [])) := by
  refine ⟨fun ms hm => ⟨[], rfl, ?_, ?_⟩, fun ns hn _ => ⟨[], rfl, ?_⟩⟩
  · simp only [vsum]; rw [Int.zero_sub]; exact Int.dvd_neg.mpr h
  · rw [len0 hm]
  · rw [len0 hn]
theorem st_nil_none {pt : P2} {goal m : Int} (h : ¬ m ∣ goal) : StSpec pt [] [] goal m none := by
  intro ns _ hd
  have : vsum [] ns = 0 := by cases ns <;> rfl
  rw [this, Int.zero_sub] at hd
  exact h (Int.dvd_neg.mp hd)
theorem st_one0 {pt row : P2} : StSpec pt [row] [0] 0 0 (some (pt, [row])) := by
  refine ⟨fun ms hm => ⟨ms, hm, ?_, rfl⟩, fun ns hn _ => ⟨ns, hn, rfl⟩⟩
  obtain ⟨a, rfl⟩ := len1 hm
  simp [vsum]
theorem st_one0_none {pt row : P2} {goal : Int} (h : goal ≠ 0) : StSpec pt [row] [0] goal 0 none := by
  intro ns hn hd
  obtain ⟨a, rfl⟩ := len1 hn
  simp only [vsum] at hd
  rw [Int.zero_dvd] at hd
  omega
theorem st_oneZ {pt row : P2} {value goal k : Int} (hv : value ≠ 0) (h : goal = k * value) : StSpec pt [row] [value] goal 0 (some (padd pt (psc k row), [])) := by
  refine ⟨fun ms hm => ⟨[k], rfl, ?_, ?_⟩, fun ns hn hd => ⟨[], rfl, ?_⟩⟩
  · simp only [vsum]; rw [h, Int.zero_dvd, Int.mul_comm]; omega
  · rw [len0 hm]; rfl
  · obtain ⟨a, rfl⟩ := len1 hn
    simp only [vsum] at hd
    rw [Int.zero_dvd] at hd
    have : a = k := by
      have : (a - k) * value = 0 := by rw [Int.sub_mul]; have := Int.mul_comm value a; omega
      rcases Int.mul_eq_zero.mp this with h | h
      · omega
      · exact absurd h hv
    subst this
    rfl
theorem st_oneZ_none {pt row : P2} {value goal : Int} (h : ¬ value ∣ goal) : StSpec pt [row] [value] goal 0 none := by
  intro ns hn hd
  obtain ⟨a, rfl⟩ := len1 hn
  simp only [vsum] at hd
  rw [Int.zero_dvd] at hd
  exact h ⟨a, by omega⟩
/-- the congruence of one row: g = s * value + t * m -/
theorem st_oneM {pt row : P2} {value goal m g s t mv mm k : Int} (hm : 0 < m) (hg : g = s * value + t * m) (hv : value = g * mv) (hmm : m = g * mm) (hk : goal = g * k) {count : Int} (hc : ∃ j, count = k * s + j * mm) :
    StSpec pt [row] [value] goal m (some (padd pt (psc count row), [psc mm row])) := by
  obtain ⟨j, hc⟩ := hc
  have g0 : g ≠ 0 := fun e => by rw [e] at hmm; omega
  have one : 1 = s * mv + t * mm := by
    have : g * (s * mv + t * mm - 1) = 0 := by grind
    rcases Int.mul_eq_zero.mp this with h | h
    · exact absurd h g0
    · omega
  have cmb : ∀ a : Int, comb (padd pt (psc count row)) [psc mm row] [a] = comb pt [row] [count + a * mm] := fun a => by
    simp only [comb, padd, psc]
    congr 1 <;> grind
  refine ⟨fun ms hms => ?_, fun ns hn hd => ?_⟩
  · obtain ⟨a, rfl⟩ := len1 hms
    refine ⟨[count + a * mm], rfl, ?_, cmb a⟩
    simp only [vsum]
    refine ⟨mv * (j + a) - k * t, ?_⟩
    rw [hc, hk, hmm, hv]
    have : k = k * (s * mv + t * mm) := by rw [← one]; omega
    generalize hz : g * k = z
    have hz' : z = g * (k * (s * mv + t * mm)) := by rw [← this, hz]
    rw [hz']
    grind
  · obtain ⟨b, rfl⟩ := len1 hn
    simp only [vsum] at hd
    obtain ⟨e, he⟩ := hd
    -- value * b - goal = m * e  =>  mv * b - k = mm * e
    have h1 : mv * b - k = mm * e := by
      have : g * (mv * b - k - mm * e) = 0 := by grind
      rcases Int.mul_eq_zero.mp this with h | h
      · exact absurd h g0
      · omega
    refine ⟨[s * e + t * b - j], rfl, ?_⟩
    rw [cmb]
    have : count + (s * e + t * b - j) * mm = b := by
      have h2 : b = b * (s * mv + t * mm) := by rw [← one]; omega
      have h3 : k = mv * b - mm * e := by omega
      rw [hc, h3]
      grind
    rw [this]
theorem st_oneM_none {pt row : P2} {value goal m g mv mm : Int} (hv : value = g * mv) (hmm : m = g * mm) (h : ¬ g ∣ goal) : StSpec pt [row] [value] goal m none := by
  intro ns hn hd
  obtain ⟨a, rfl⟩ := len1 hn
  simp only [vsum] at hd
  obtain ⟨e, he⟩ := hd
  exact h ⟨mv * a - mm * e, by rw [hv, hmm] at he; grind⟩
/-- two rows whose values are 0 -/
theorem st_two0 {pt r0 r1 : P2} {goal m : Int} (h : m ∣ goal) : StSpec pt [r0, r1] [0, 0] goal m (some (pt, [r0, r1])) := by
  refine ⟨fun ms hm => ⟨ms, hm, ?_, rfl⟩, fun ns hn _ => ⟨ns, hn, rfl⟩⟩
  obtain ⟨a, b, rfl⟩ := len2 hm
  simp only [vsum, Int.zero_mul, Int.zero_add, Int.zero_sub]
  exact Int.dvd_neg.mpr h
theorem st_two0_none {pt r0 r1 : P2} {goal m : Int} (h : ¬ m ∣ goal) : StSpec pt [r0, r1] [0, 0] goal m none := by
  intro ns hn hd
  obtain ⟨a, b, rfl⟩ := len2 hn
  simp only [vsum, Int.zero_mul, Int.zero_add, Int.zero_sub] at hd
  exact h (Int.dvd_neg.mp hd)
theorem two_eq {pt r0 r1 : P2} {w0 w1 s t j k : Int} (one : 1 = s * w0 + t * w1) (a b : Int) (hj : j = t * a - s * b) (hk : k = w0 * a + w1 * b) :
    padd (padd pt (psc j (padd (psc w1 r0) (psc (-w0) r1)))) (psc k (padd (psc s r0) (psc t r1))) = padd (padd pt (psc a r0)) (psc b r1) := by
  have ha : j * w1 + k * s = a := by
    have : a = a * (s * w0 + t * w1) := by rw [← one]; omega
    grind
  have hb : -(j * w0) + k * t = b := by
    have : b = b * (s * w0 + t * w1) := by rw [← one]; omega
    grind
  simp only [padd, psc]
  refine Prod.ext ?_ ?_
  · show pt.1 + j * (w1 * r0.1 + -w0 * r1.1) + k * (s * r0.1 + t * r1.1) = pt.1 + a * r0.1 + b * r1.1
    rw [← ha, ← hb]
    clear hj hk ha hb one
    grind
  · show pt.2 + j * (w1 * r0.2 + -w0 * r1.2) + k * (s * r0.2 + t * r1.2) = pt.2 + a * r0.2 + b * r1.2
    rw [← ha, ← hb]
    clear hj hk ha hb one
    grind
theorem padd_swap (a b c : P2) : padd (padd a b) c = padd (padd a c) b := by
  simp only [padd]
  refine Prod.ext ?_ ?_ <;> simp only [] <;> omega
/-- two rows: one along which the value stays, one along which it moves by g -/
theorem st_two {pt r0 r1 : P2} {v0 v1 goal m g s t w0 w1 : Int} (g0 : g ≠ 0) (hg : g = s * v0 + t * v1) (h0 : v0 = g * w0) (h1 : v1 = g * w1) {res : Option (P2 × List P2)}
    (h : StSpec pt [padd (psc s r0) (psc t r1)] [g] goal m res) :
    StSpec pt [r0, r1] [v0, v1] goal m (match res with | none => none | some (p, rs) => some (p, padd (psc w1 r0) (psc (-w0) r1) :: rs)) := by
  have one : 1 = s * w0 + t * w1 := by
    have : g * (s * w0 + t * w1 - 1) = 0 := by grind
    rcases Int.mul_eq_zero.mp this with h | h
    · exact absurd h g0
    · omega
  have vs : ∀ a b : Int, vsum [v0, v1] [a, b] = vsum [g] [w0 * a + w1 * b] := fun a b => by
    simp only [vsum]; rw [h0, h1]; grind
  -- moves pulled ahead
  have pull : ∀ (rs : List P2) (ms : List Int) (p d : P2), comb (padd p d) rs ms = padd (comb p rs ms) d := by
    intro rs
    induction rs with
    | nil => intro ms p d; cases ms <;> rfl
    | cons r rs ih =>
      intro ms p d
      cases ms with
      | nil => rfl
      | cons m ms =>
        simp only [comb]
        rw [padd_swap, ih]
  have cmb : ∀ a b : Int, comb pt [r0, r1] [a, b] = padd (comb pt [padd (psc s r0) (psc t r1)] [w0 * a + w1 * b]) (psc (t * a - s * b) (padd (psc w1 r0) (psc (-w0) r1))) := fun a b => by
    have e := two_eq (pt := pt) (r0 := r0) (r1 := r1) one a b rfl rfl
    simp only [comb]
    rw [← e, padd_swap]
  cases res with
  | none =>
    intro ns hn hd
    obtain ⟨a, b, rfl⟩ := len2 hn
    rw [vs] at hd
    exact h [w0 * a + w1 * b] rfl hd
  | some pr =>
    obtain ⟨p, rs⟩ := pr
    obtain ⟨S, C⟩ := h
    refine ⟨fun ms hm => ?_, fun ns hn hd => ?_⟩
    · cases ms with
      | nil => simp at hm
      | cons j ms =>
        obtain ⟨ns, e1, e2, e3⟩ := S ms (by simpa using hm)
        obtain ⟨k, rfl⟩ := len1 e1
        refine ⟨[j * w1 + k * s, -(j * w0) + k * t], rfl, ?_, ?_⟩
        · rw [vs]
          have : w0 * (j * w1 + k * s) + w1 * (-(j * w0) + k * t) = k := by
            have : k = k * (s * w0 + t * w1) := by rw [← one]; omega
            grind
          rw [this]
          exact e2
        · simp only [comb] at e3 ⊢
          rw [pull, e3]
          simp only [padd, psc]
          refine Prod.ext ?_ ?_
          · simp only []
            clear hg h0 h1 one vs pull cmb S C e2 e3
            grind
          · simp only []
            clear hg h0 h1 one vs pull cmb S C e2 e3
            grind
    · obtain ⟨a, b, rfl⟩ := len2 hn
      rw [vs] at hd
      obtain ⟨ms, e1, e2⟩ := C [w0 * a + w1 * b] rfl hd
      refine ⟨(t * a - s * b) :: ms, by simpa using e1, ?_⟩
      rw [cmb, ← e2]
      simp only [comb]
      rw [pull]
/-! ### which points -/
/-- point and rows tell just the points of P -/
def Rep (pt : P2) (rows : List P2) (P : P2 → Prop) : Prop := ∀ v, (∃ ns : List Int, ns.length = rows.length ∧ v = comb pt rows ns) ↔ P v
def fat (f : P2) (v : P2) : Int := f.1 * v.1 + f.2 * v.2
theorem fat_comb (f : P2) : ∀ (rows : List P2) (pt : P2) (ns : List Int), fat f (comb pt rows ns) = fat f pt + vsum (rows.map (fat f)) ns := by
  intro rows
  induction rows with
  | nil => intro pt ns; cases ns <;> simp [comb, vsum]
  | cons r rs ih =>
    intro pt ns
    cases ns with
    | nil => simp [comb, vsum]
    | cons n ns =>
      simp only [comb, vsum, List.map_cons]
      rw [ih]
      simp only [fat, padd, psc]
      grind
/-- a form's congruence keeps the points at which it holds -/
theorem Rep.step {pt : P2} {rows : List P2} {P : P2 → Prop} (R : Rep pt rows P) {f : P2} {goal m : Int} {res : Option (P2 × List P2)} (h : StSpec pt rows (rows.map (fat f)) (goal - fat f pt) m res) :
    match res with
    | none => ∀ v, P v → ¬ m ∣ fat f v - goal
    | some (pt', rows') => Rep pt' rows' fun v => P v ∧ m ∣ fat f v - goal := by
  have key : ∀ ns, fat f (comb pt rows ns) - goal = vsum (rows.map (fat f)) ns - (goal - fat f pt) := fun ns => by rw [fat_comb]; omega
  cases res with
  | none =>
    intro v hv hd
    obtain ⟨ns, hn, rfl⟩ := (R v).mpr hv
    rw [key] at hd
    exact h ns hn hd
  | some pr =>
    obtain ⟨pt', rows'⟩ := pr
    obtain ⟨S, C⟩ := h
    intro v
    constructor
    · rintro ⟨ms, hm, rfl⟩
      obtain ⟨ns, e1, e2, e3⟩ := S ms hm
      rw [e3]
      exact ⟨(R _).mp ⟨ns, e1, rfl⟩, by rw [key]; exact e2⟩
    · rintro ⟨hv, hd⟩
      obtain ⟨ns, hn, rfl⟩ := (R v).mpr hv
      rw [key] at hd
      obtain ⟨ms, e1, e2⟩ := C ns hn hd
      exact ⟨ms, e1, e2.symm⟩
end Wk
/-! Plain mathematics 3: which places are products of two tables. -/
namespace Wk

def Tb.LatP (T : Tb) (v : P2) : Prop := T.Lat v.1 v.2
theorem Tb.LatP.add {T : Tb} {v w : P2} (h : T.LatP v) (h' : T.LatP w) : T.LatP (padd v w) := by
  obtain ⟨n, m, e1, e2⟩ := h
  obtain ⟨n', m', e1', e2'⟩ := h'
  exact ⟨n + n', m + m', by simp only [padd]; grind, by simp only [padd]; grind⟩
theorem Tb.LatP.sc {T : Tb} {v : P2} (h : T.LatP v) (k : Int) : T.LatP (psc k v) := by
  obtain ⟨n, m, e1, e2⟩ := h
  exact ⟨k * n, k * m, by simp only [psc]; grind, by simp only [psc]; grind⟩
def psub (a b : P2) : P2 := (a.1 - b.1, a.2 - b.2)
theorem psub_eq (a b : P2) : psub a b = padd a (psc (-1) b) := by simp only [psub, padd, psc]; refine Prod.ext ?_ ?_ <;> simp only [] <;> omega
theorem Tb.LatP.sub {T : Tb} {v w : P2} (h : T.LatP v) (h' : T.LatP w) : T.LatP (psub v w) := by rw [psub_eq]; exact h.add (h'.sc _)

/-! ### forms -/
structure FormsOf (T : Tb) (f0 : P2) (m0 : Int) (f1 : P2) (m1 : Int) : Prop where
  n0 : 0 ≤ m0
  n1 : 0 ≤ m1
  iff : ∀ v : P2, T.LatP v ↔ m0 ∣ fat f0 v ∧ m1 ∣ fat f1 v
theorem forms_0 {T : Tb} (ok : T.Ok) (hp : ¬ 0 < T.p) (hs : ¬ 0 < T.s) : FormsOf T (1, 0) 0 (0, 1) 0 := by
  have p0 : T.p = 0 := by have := ok.p0; omega
  have s0 : T.s = 0 := by have := ok.s0; omega
  have q0 := (ok.zp p0).1
  refine ⟨by omega, by omega, fun v => ?_⟩
  simp only [fat, Int.zero_dvd]
  constructor
  · rintro ⟨n, m, h1, h2⟩
    rw [p0] at h1; rw [q0, s0] at h2
    simp at h1 h2
    omega
  · rintro ⟨h1, h2⟩
    exact ⟨0, 0, by omega, by omega⟩
theorem forms_1 {T : Tb} {a b g s t a' b' : Int} (lat : ∀ v : P2, T.LatP v ↔ ∃ k, v.1 = k * a ∧ v.2 = k * b) (g0 : 0 < g) (hg : g = s * a + t * b) (ha : a = g * a') (hb : b = g * b') : FormsOf T (-b', a') 0 (s, t) g := by
  have one : 1 = s * a' + t * b' := by
    have : g * (s * a' + t * b' - 1) = 0 := by grind
    rcases Int.mul_eq_zero.mp this with h | h <;> omega
  refine ⟨by omega, by omega, fun v => ?_⟩
  rw [lat]
  simp only [fat, Int.zero_dvd]
  constructor
  · rintro ⟨k, h1, h2⟩
    refine ⟨?_, k, ?_⟩
    · rw [h1, h2, ha, hb]; grind
    · rw [h1, h2, hg]; grind
  · rintro ⟨h1, k, h2⟩
    refine ⟨k, ?_, ?_⟩
    · -- v.1 = k a: v.1 = v.1 (s a' + t b') = a' (s v.1 + t v.2) + t (b' v.1 - a' v.2)
      have : v.1 = v.1 * (s * a' + t * b') := by rw [← one]; omega
      rw [ha]
      have h3 : a' * (s * v.1 + t * v.2) = a' * (g * k) := by rw [h2]
      grind
    · have : v.2 = v.2 * (s * a' + t * b') := by rw [← one]; omega
      rw [hb]
      have h3 : b' * (s * v.1 + t * v.2) = b' * (g * k) := by rw [h2]
      grind
theorem lat_p {T : Tb} (ok : T.Ok) (hs : ¬ 0 < T.s) (v : P2) : T.LatP v ↔ ∃ k, v.1 = k * T.p ∧ v.2 = k * T.q := by
  have s0 : T.s = 0 := by have := ok.s0; omega
  constructor
  · rintro ⟨n, m, h1, h2⟩
    exact ⟨n, h1, by rw [h2, s0]; omega⟩
  · rintro ⟨k, h1, h2⟩
    exact ⟨k, 0, h1, by rw [h2]; omega⟩
theorem lat_s {T : Tb} (ok : T.Ok) (hp : ¬ 0 < T.p) (v : P2) : T.LatP v ↔ ∃ k, v.1 = k * 0 ∧ v.2 = k * T.s := by
  have p0 : T.p = 0 := by have := ok.p0; omega
  have q0 := (ok.zp p0).1
  constructor
  · rintro ⟨n, m, h1, h2⟩
    exact ⟨m, by rw [h1, p0]; omega, by rw [h2, q0]; omega⟩
  · rintro ⟨k, h1, h2⟩
    exact ⟨0, k, by rw [h1]; omega, by rw [h2]; omega⟩
theorem forms_2 {T : Tb} (hp : 0 < T.p) (hs : 0 < T.s) : FormsOf T (1, 0) T.p (-T.q, T.p) (T.p * T.s) := by
  refine ⟨by omega, by have := Int.mul_pos hp hs; omega, fun v => ?_⟩
  simp only [fat]
  constructor
  · rintro ⟨n, m, h1, h2⟩
    exact ⟨⟨n, by rw [h1]; grind⟩, ⟨m, by rw [h1, h2]; grind⟩⟩
  · rintro ⟨⟨n, h1⟩, ⟨m, h2⟩⟩
    refine ⟨n, m, by grind, ?_⟩
    have h3 : v.1 = T.p * n := by omega
    have : T.p * (v.2 - n * T.q - m * T.s) = 0 := by rw [h3] at h2; grind
    rcases Int.mul_eq_zero.mp this with h | h <;> omega

/-! ### areas over points -/
/-- a place of the table over each end -/
def Over (T : Tb) (U : P2 → Int) : Prop := ∀ v, T.LatP v → T.Mem ⟨v.1, v.2, U v⟩
def Fa (U V : P2 → Int) (goal v : P2) : Int := U v + V (psub goal v) + v.1 * (goal.2 - v.2)
section
variable {T S : Tb} {U V : P2 → Int}
theorem over_add (ok : T.Ok) (o : Over T U) {v w : P2} (hv : T.LatP v) (hw : T.LatP w) : T.c ∣ U (padd v w) - (U v + U w + v.1 * w.2) := by
  have h1 := (T.clo ok.dv).mul (o v hv) (o w hw)
  have h2 := o _ (hv.add hw)
  exact h2.area ok h1 rfl rfl
theorem over_sc (ok : T.Ok) (o : Over T U) {v : P2} (hv : T.LatP v) (k : Int) : T.c ∣ U (psc k v) - (k * U v + tri k * v.1 * v.2) := by
  have h1 := (T.clo ok.dv).pow (o v hv) k
  have h2 := o _ (hv.sc k)
  exact h2.area ok h1 rfl rfl
theorem dvd_comb {g a b : Int} (h : g ∣ a) (h' : g ∣ b) (x : Int) (e : x = a + b) : g ∣ x := e ▸ Int.dvd_add h h'
/-- a move by d changes the area by U d - V d -/
theorem fa_move (okT : T.Ok) (okS : S.Ok) (oT : Over T U) (oS : Over S V) {g : Int} (hg1 : g ∣ T.c) (hg2 : g ∣ S.c) {goal v d : P2} (hv : T.LatP v) (hd : T.LatP d) (hd' : S.LatP d) (hw' : S.LatP (psub goal v)) :
    g ∣ Fa U V goal (padd v d) - (Fa U V goal v + (U d - V d)) := by
  have e1 := Int.dvd_trans hg1 (over_add okT oT hv hd)
  have hw : S.LatP (psub goal (padd v d)) := by
    have := hw'.sub hd'
    have e : psub (psub goal v) d = psub goal (padd v d) := by simp only [psub, padd]; refine Prod.ext ?_ ?_ <;> simp only [] <;> omega
    rwa [e] at this
  have e2 := Int.dvd_trans hg2 (over_add okS oS hd' hw)
  have e : padd d (psub goal (padd v d)) = psub goal v := by simp only [psub, padd]; refine Prod.ext ?_ ?_ <;> simp only [] <;> omega
  rw [e] at e2
  refine dvd_comb e1 (Int.dvd_neg.mpr e2) _ ?_
  simp only [Fa, psub, padd]
  grind
theorem d_sc (okT : T.Ok) (okS : S.Ok) (oT : Over T U) (oS : Over S V) {g : Int} (hg1 : g ∣ T.c) (hg2 : g ∣ S.c) {d : P2} (hd : T.LatP d) (hd' : S.LatP d) (k : Int) :
    g ∣ (U (psc k d) - V (psc k d)) - k * (U d - V d) := by
  have e1 := Int.dvd_trans hg1 (over_sc okT oT hd k)
  have e2 := Int.dvd_trans hg2 (over_sc okS oS hd' k)
  refine dvd_comb e1 (Int.dvd_neg.mpr e2) _ ?_
  grind
theorem fa_comb (okT : T.Ok) (okS : S.Ok) (oT : Over T U) (oS : Over S V) {g : Int} (hg1 : g ∣ T.c) (hg2 : g ∣ S.c) {goal : P2} : ∀ (rows : List P2) (ns : List Int) (v : P2), (∀ r ∈ rows, T.LatP r ∧ S.LatP r) → T.LatP v → S.LatP (psub goal v) →
    g ∣ Fa U V goal (comb v rows ns) - (Fa U V goal v + vsum (rows.map fun r => U r - V r) ns) := by
  intro rows
  induction rows with
  | nil => intro ns v _ _ _; cases ns <;> simp [comb, vsum]
  | cons r rs ih =>
    intro ns v hr hv hw
    cases ns with
    | nil => simp [comb, vsum]
    | cons n ns =>
      obtain ⟨r1, r2⟩ := hr r (by simp)
      have m1 := fa_move okT okS oT oS hg1 hg2 hv (r1.sc n) (r2.sc n) hw
      have m2 := d_sc okT okS oT oS hg1 hg2 r1 r2 n
      have hw2 : S.LatP (psub goal (padd v (psc n r))) := by
        have := hw.sub (r2.sc n)
        have e : psub (psub goal v) (psc n r) = psub goal (padd v (psc n r)) := by simp only [psub, padd]; refine Prod.ext ?_ ?_ <;> simp only [] <;> omega
        rwa [e] at this
      have i := ih ns (padd v (psc n r)) (fun r h => hr r (by simp [h])) (hv.add (r1.sc n)) hw2
      simp only [comb, vsum, List.map_cons]
      refine dvd_comb (dvd_comb i m1 _ rfl) m2 _ ?_
      grind
theorem vsum_cong {g : Int} : ∀ (a b ns : List Int), a.length = b.length → (∀ (i : Nat) (x y : Int), a[i]? = some x → b[i]? = some y → g ∣ x - y) → g ∣ vsum a ns - vsum b ns := by
  intro a
  induction a with
  | nil => intro b ns h _; cases b with
    | nil => simp
    | cons => simp at h
  | cons x a ih =>
    intro b ns h hi
    cases b with
    | nil => simp at h
    | cons y b =>
      cases ns with
      | nil => simp [vsum]
      | cons n ns =>
        have h0 := hi 0 x y rfl rfl
        have h1 := ih b ns (by simpa using h) fun i u v e1 e2 => hi (i + 1) u v (by simpa using e1) (by simpa using e2)
        simp only [vsum]
        have h2 : g ∣ (x - y) * n := by obtain ⟨k, hk⟩ := h0; exact ⟨k * n, by rw [hk, Int.mul_assoc]⟩
        refine dvd_comb h2 h1 _ ?_
        grind
/-- a step to one of the rows -/
theorem rep_row {pt : P2} {rows : List P2} {P : P2 → Prop} (R : Rep pt rows P) : P pt ∧ ∀ r ∈ rows, P (padd pt r) := by
  have z : ∀ (rows : List P2) (pt : P2), comb pt rows (rows.map fun _ => 0) = pt := by
    intro rows
    induction rows with
    | nil => intro pt; rfl
    | cons r rs ih => intro pt; simp only [comb, List.map_cons]; rw [ih]; simp only [padd, psc]; refine Prod.ext ?_ ?_ <;> simp only [] <;> omega
  have o : ∀ (rows : List P2) (pt r : P2), r ∈ rows → ∃ ns : List Int, ns.length = rows.length ∧ comb pt rows ns = padd pt r := by
    intro rows
    induction rows with
    | nil => intro pt r h; cases h
    | cons r' rs ih =>
      intro pt r h
      rcases List.mem_cons.mp h with rfl | h
      · exact ⟨1 :: rs.map fun _ => 0, by simp, by simp only [comb]; rw [z]; simp only [padd, psc]; refine Prod.ext ?_ ?_ <;> simp only [] <;> omega⟩
      · obtain ⟨ns, h1, h2⟩ := ih (padd pt (psc 0 r')) r h
        exact ⟨0 :: ns, by simp [h1], by simp only [comb]; rw [h2]; simp only [padd, psc]; refine Prod.ext ?_ ?_ <;> simp only [] <;> omega⟩
  refine ⟨(R pt).mp ⟨rows.map fun _ => 0, by simp, (z rows pt).symm⟩, fun r hr => ?_⟩
  obtain ⟨ns, h1, h2⟩ := o rows pt r hr
  exact (R _).mp ⟨ns, h1, h2.symm⟩
/-- the points at which both tables have ends -/
def Both (T S : Tb) (goal : P2) (v : P2) : Prop := T.LatP v ∧ S.LatP (psub goal v)
theorem rep_lat {pt goal : P2} {rows : List P2} (R : Rep pt rows (Both T S goal)) : ∀ r ∈ rows, T.LatP r ∧ S.LatP r := fun r hr => by
  obtain ⟨⟨a, b⟩, h⟩ := rep_row R
  obtain ⟨c, d⟩ := h r hr
  have e1 := c.sub a
  have e2 := b.sub d
  have q1 : psub (padd pt r) pt = r := by simp only [psub, padd]; refine Prod.ext ?_ ?_ <;> simp only [] <;> omega
  have q2 : psub (psub goal pt) (psub goal (padd pt r)) = r := by simp only [psub, padd]; refine Prod.ext ?_ ?_ <;> simp only [] <;> omega
  rw [q1] at e1; rw [q2] at e2
  exact ⟨e1, e2⟩
theorem fa_vals (okT : T.Ok) (okS : S.Ok) (oT : Over T U) (oS : Over S V) {g : Int} (hg1 : g ∣ T.c) (hg2 : g ∣ S.c) {goal pt : P2} {rows : List P2} (R : Rep pt rows (Both T S goal)) (ns : List Int) :
    g ∣ Fa U V goal (comb pt rows ns) - (Fa U V goal pt + vsum (rows.map fun r => Fa U V goal (padd pt r) - Fa U V goal pt) ns) := by
  have rl := rep_lat R
  obtain ⟨⟨a, b⟩, h⟩ := rep_row R
  have h1 := fa_comb okT okS oT oS hg1 hg2 rows ns pt rl a b
  have h2 : g ∣ vsum (rows.map fun r => U r - V r) ns - vsum (rows.map fun r => Fa U V goal (padd pt r) - Fa U V goal pt) ns := by
    refine vsum_cong _ _ ns (by simp) fun i x y e1 e2 => ?_
    rw [List.getElem?_map] at e1 e2
    cases e : rows[i]? with
    | none => rw [e] at e1; cases e1
    | some r =>
      rw [e] at e1 e2
      have hx : U r - V r = x := Option.some.inj e1
      have hy : Fa U V goal (padd pt r) - Fa U V goal pt = y := Option.some.inj e2
      have hr := List.mem_of_getElem? e
      have m := fa_move okT okS oT oS hg1 hg2 a (rl r hr).1 (rl r hr).2 b
      rw [← hx, ← hy]
      have m' := Int.dvd_neg.mpr m
      have e : U r - V r - (Fa U V goal (padd pt r) - Fa U V goal pt) = -(Fa U V goal (padd pt r) - (Fa U V goal pt + (U r - V r))) := by omega
      rw [e]
      exact m'
  exact dvd_comb h1 h2 _ (by omega)
/-- no point: no product -/
theorem prod_none (okT : T.Ok) (okS : S.Ok) (oT : Over T U) (oS : Over S V) {g : Int} (hg1 : g ∣ T.c) (hg2 : g ∣ S.c) {pl : Pl} {pt : P2} {rows : List P2} (R : Rep pt rows (Both T S (pl.x, pl.y)))
    (h : StSpec pt rows (rows.map fun r => Fa U V (pl.x, pl.y) (padd pt r) - Fa U V (pl.x, pl.y) pt) (pl.a - Fa U V (pl.x, pl.y) pt) g none) : ¬ ∃ a b, T.Mem a ∧ S.Mem b ∧ a.mul b = pl := by
  rintro ⟨a, b, ha, hb, rfl⟩
  have hv : Both T S ((a.mul b).x, (a.mul b).y) (a.x, a.y) := ⟨ha.lat, by
    have := hb.lat
    have e : psub ((a.mul b).x, (a.mul b).y) (a.x, a.y) = (b.x, b.y) := by simp only [psub, Pl.mul]; refine Prod.ext ?_ ?_ <;> simp only [] <;> omega
    rw [e]; exact this⟩
  obtain ⟨ns, hn, e⟩ := (R _).mpr hv
  have hF := fa_vals okT okS oT oS hg1 hg2 R ns
  rw [← e] at hF
  have hA : g ∣ U (a.x, a.y) - a.a := Int.dvd_trans hg1 ((oT (a.x, a.y) ha.lat).area okT ha rfl rfl)
  have eb : psub ((a.mul b).x, (a.mul b).y) (a.x, a.y) = (b.x, b.y) := by simp only [psub, Pl.mul]; refine Prod.ext ?_ ?_ <;> simp only [] <;> omega
  have hB : g ∣ V (b.x, b.y) - b.a := Int.dvd_trans hg2 ((oS (b.x, b.y) hb.lat).area okS hb rfl rfl)
  refine h ns hn ?_
  refine dvd_comb (dvd_comb hA hB _ rfl) (Int.dvd_neg.mpr hF) _ ?_
  have eF : Fa U V ((a.mul b).x, (a.mul b).y) (a.x, a.y) = U (a.x, a.y) + V (b.x, b.y) + a.x * b.y := by
    unfold Fa; rw [eb]; simp only [Pl.mul]; grind
  rw [eF]
  simp only [Pl.mul]
  grind
/-- a point: two places -/
theorem prod_some (okT : T.Ok) (okS : S.Ok) (oT : Over T U) (oS : Over S V) {g : Int} (hg1 : g ∣ T.c) (hg2 : g ∣ S.c) {pl : Pl} {pt pt' : P2} {rows rows' : List P2} (R : Rep pt rows (Both T S (pl.x, pl.y)))
    (h : StSpec pt rows (rows.map fun r => Fa U V (pl.x, pl.y) (padd pt r) - Fa U V (pl.x, pl.y) pt) (pl.a - Fa U V (pl.x, pl.y) pt) g (some (pt', rows'))) :
    Both T S (pl.x, pl.y) pt' ∧ g ∣ pl.a - Fa U V (pl.x, pl.y) pt' := by
  have z : ∀ (rows : List P2) (pt : P2), comb pt rows (rows.map fun _ => 0) = pt := by
    intro rows
    induction rows with
    | nil => intro pt; rfl
    | cons r rs ih => intro pt; simp only [comb, List.map_cons]; rw [ih]; simp only [padd, psc]; refine Prod.ext ?_ ?_ <;> simp only [] <;> omega
  obtain ⟨ns, hn, hd, e⟩ := h.1 (rows'.map fun _ => 0) (by simp)
  rw [z] at e
  have hF := fa_vals okT okS oT oS hg1 hg2 R ns
  rw [← e] at hF
  refine ⟨(R _).mp ⟨ns, hn, e⟩, ?_⟩
  have := dvd_comb (Int.dvd_neg.mpr hF) (Int.dvd_neg.mpr hd) (pl.a - Fa U V (pl.x, pl.y) pt') (by omega)
  exact this
theorem parted_right (oT : Over T U) (oS : Over S V) {g s t k count : Int} (hg : g = s * T.c + t * S.c) {pl : Pl} {pt : P2} (B : Both T S (pl.x, pl.y) pt) (hk : pl.a - Fa U V (pl.x, pl.y) pt = g * k) (hc : count * g = k * g) (hz : g = 0 → T.c = 0 ∧ S.c = 0)
    {a : Pl} (ha : a = ⟨pt.1, pt.2, U pt + count * s * T.c⟩) : T.Mem a ∧ S.Mem (a.inv.mul pl) ∧ a.mul (a.inv.mul pl) = pl := by
  subst ha
  refine ⟨(oT pt B.1).shift (b := U pt + count * s * T.c) ⟨count * s, by simp only []; grind⟩, ?_, ?_⟩
  · have hS := oS _ B.2
    have e : (Pl.mul (Pl.inv ⟨pt.1, pt.2, U pt + count * s * T.c⟩) pl) = ⟨(psub (pl.x, pl.y) pt).1, (psub (pl.x, pl.y) pt).2, V (psub (pl.x, pl.y) pt) + (pl.a - Fa U V (pl.x, pl.y) pt) - count * s * T.c⟩ := by
      apply Pl.ext' <;> simp only [Pl.mul, Pl.inv, psub, Fa] <;> grind
    rw [e]
    refine hS.shift (b := V (psub (pl.x, pl.y) pt) + (pl.a - Fa U V (pl.x, pl.y) pt) - count * s * T.c) ⟨count * t, ?_⟩
    simp only []
    by_cases hg0 : g = 0
    · obtain ⟨c1, c2⟩ := hz hg0
      rw [hk, hg0, c1, c2]
      omega
    · have e1 : count = k := by
        have : (count - k) * g = 0 := by rw [Int.sub_mul]; omega
        rcases Int.mul_eq_zero.mp this with h | h
        · omega
        · exact absurd h hg0
      rw [hk, e1, hg]
      grind
  · rw [← Pl.mul_assoc, Pl.mul_inv, Pl.home_mul]
end
end Wk
/-! Plain mathematics 4: what over and figures reckon. -/
namespace Wk

theorem Tb.clo' {T : Tb} (ok : T.Ok) : Clo T.Mem := T.clo ok.dv
theorem Tb.rows_mem {T : Tb} {g : Pl} (h : g ∈ T.rows) : T.Mem g := by
  unfold Tb.rows at h
  rcases List.mem_append.mp h with h | h
  · split at h
    · cases List.mem_singleton.mp h; exact T.mem_u
    · cases h
  · split at h
    · cases List.mem_singleton.mp h; exact T.mem_v
    · cases h
theorem Tb.mem_home {T : Tb} (ok : T.Ok) {a : Int} : T.Mem ⟨0, 0, a⟩ ↔ T.c ∣ a := by
  constructor
  · intro h
    have := h.area ok (T.clo' ok).one rfl rfl
    simpa [home] using this
  · rintro ⟨k, hk⟩
    have := T.mem_c k
    rw [hk, Int.mul_comm]
    exact this
/-! ### figures -/
def figW (r g : Pl) : Int × Int := if r.x ≠ 0 then (r.x, g.x) else (r.y, g.y)
def figL : List Pl → Pl → Option Pl
  | [], g => some g
  | r :: rs, g => if (figW r g).2.fmod (figW r g).1 ≠ 0 then none else figL rs ((r.pow (-((figW r g).2.fdiv (figW r g).1))).mul g)
def FigIn (rows : List Pl) (c : Int) (g : Pl) : Prop := ∃ l, figL rows g = some l ∧ l.x = 0 ∧ l.y = 0 ∧ c ∣ l.a
theorem figL_mem {T : Tb} (ok : T.Ok) : ∀ (rows : List Pl) (g l : Pl), (∀ r ∈ rows, T.Mem r) → figL rows g = some l → (T.Mem g ↔ T.Mem l) := by
  intro rows
  induction rows with
  | nil => intro g l _ h; cases (Option.some.inj h); exact Iff.rfl
  | cons r rs ih =>
    intro g l hr h
    unfold figL at h
    split at h
    · cases h
    · rw [← ih _ l (fun r h => hr r (List.mem_cons_of_mem _ h)) h]
      have hp := (T.clo' ok).pow (hr r List.mem_cons_self) (-((figW r g).2.fdiv (figW r g).1))
      constructor
      · intro hg; exact (T.clo' ok).mul hp hg
      · intro hg
        have := (T.clo' ok).mul ((T.clo' ok).inv hp) hg
        rwa [← Pl.mul_assoc, Pl.inv_mul, Pl.home_mul] at this
theorem figL_hit {r g : Pl} {rs : List Pl} {n : Int} (hw : (figW r g).1 ≠ 0) (h : (figW r g).2 = n * (figW r g).1) : figL (r :: rs) g = figL rs ((r.pow (-n)).mul g) := by
  have e : (figW r g).2 = (figW r g).1 * n := by rw [h, Int.mul_comm]
  show (if (figW r g).2.fmod (figW r g).1 ≠ 0 then none else figL rs ((r.pow (-((figW r g).2.fdiv (figW r g).1))).mul g)) = _
  rw [if_neg (fun z => z (fmod_zero_iff.mpr ⟨n, e⟩)), fdiv_exact e hw]
theorem figL_u {T : Tb} {g : Pl} {rs : List Pl} {n : Int} (hp : 0 < T.p) (h : g.x = n * T.p) : figL (T.u :: rs) g = figL rs ((T.u.pow (-n)).mul g) := by
  have e : figW T.u g = (T.p, g.x) := if_pos (show T.u.x ≠ 0 by show T.p ≠ 0; omega)
  exact figL_hit (by rw [e]; show T.p ≠ 0; omega) (by rw [e]; exact h)
theorem figL_v {T : Tb} {g : Pl} {rs : List Pl} {n : Int} (hs : 0 < T.s) (h : g.y = n * T.s) : figL (T.v :: rs) g = figL rs ((T.v.pow (-n)).mul g) := by
  have e : figW T.v g = (T.s, g.y) := if_neg (fun z => z rfl)
  exact figL_hit (by rw [e]; show T.s ≠ 0; omega) (by rw [e]; exact h)
theorem fig_in {T : Tb} (ok : T.Ok) (g : Pl) : FigIn T.rows T.c g ↔ T.Mem g := by
  constructor
  · rintro ⟨l, h1, h2, h3, h4⟩
    rw [figL_mem ok T.rows g l (fun r hr => T.rows_mem hr) h1]
    have e : l = ⟨0, 0, l.a⟩ := Pl.ext' h2 h3 rfl
    rw [e]
    exact (T.mem_home ok).mpr h4
  · intro hm
    have key : ∃ l, figL T.rows g = some l ∧ l.x = 0 ∧ l.y = 0 := by
      obtain ⟨n, m, k, h1, h2, h3⟩ := id hm
      unfold Tb.rows
      by_cases hp : 0 < T.p
      · rw [if_pos hp]
        by_cases hs : 0 < T.s
        · rw [if_pos hs]
          show ∃ l, figL [T.u, T.v] g = some l ∧ _
          rw [figL_u hp h1]
          have hx : ((T.u.pow (-n)).mul g).x = 0 := by simp only [Pl.mul, Pl.pow, Tb.u]; rw [h1]; grind
          have hy : ((T.u.pow (-n)).mul g).y = m * T.s := by simp only [Pl.mul, Pl.pow, Tb.u]; rw [h2]; grind
          rw [figL_v hs hy]
          refine ⟨_, rfl, ?_, ?_⟩
          · show -m * 0 + ((T.u.pow (-n)).mul g).x = 0
            rw [hx]; omega
          · show -m * T.s + ((T.u.pow (-n)).mul g).y = 0
            rw [hy]; grind
        · rw [if_neg hs]
          show ∃ l, figL [T.u] g = some l ∧ _
          have s0 : T.s = 0 := by have := ok.s0; omega
          rw [figL_u hp h1]
          refine ⟨_, rfl, ?_, ?_⟩
          · show -n * T.p + g.x = 0
            rw [h1]; grind
          · show -n * T.q + g.y = 0
            rw [h2, s0]; grind
      · rw [if_neg hp]
        have p0 : T.p = 0 := by have := ok.p0; omega
        have q0 := (ok.zp p0).1
        rw [p0] at h1
        rw [q0] at h2
        by_cases hs : 0 < T.s
        · rw [if_pos hs]
          show ∃ l, figL [T.v] g = some l ∧ _
          rw [figL_v hs (n := m) (by rw [h2]; omega)]
          refine ⟨_, rfl, ?_, ?_⟩
          · show -m * 0 + g.x = 0
            omega
          · show -m * T.s + g.y = 0
            rw [h2]; grind
        · rw [if_neg hs]
          have s0 : T.s = 0 := by have := ok.s0; omega
          rw [s0] at h2
          exact ⟨g, rfl, by omega, by omega⟩
    obtain ⟨l, h1, h2, h3⟩ := key
    refine ⟨l, h1, h2, h3, ?_⟩
    have := (figL_mem ok T.rows g l (fun r hr => T.rows_mem hr) h1).mp hm
    have e : l = ⟨0, 0, l.a⟩ := Pl.ext' h2 h3 rfl
    rw [e] at this
    exact (T.mem_home ok).mp this
/-! ### over -/
def ovT (g : Pl) (l : P2) : Int := if g.x ≠ 0 then l.1.fdiv g.x else l.2.fdiv g.y
def ovL : List Pl → P2 → Pl → P2 × Pl
  | [], l, f => (l, f)
  | g :: gs, l, f => ovL gs (l.1 - ovT g l * g.x, l.2 - ovT g l * g.y) (f.mul (g.pow (ovT g l)))
def overM (T : Tb) (v : P2) : Int := (ovL T.rows v home).2.a
theorem ovL_mem {T : Tb} (ok : T.Ok) : ∀ (rows : List Pl) (l : P2) (f : Pl), (∀ r ∈ rows, T.Mem r) → T.Mem f → T.Mem (ovL rows l f).2 := by
  intro rows
  induction rows with
  | nil => intro l f _ h; exact h
  | cons r rs ih =>
    intro l f hr h
    exact ih _ _ (fun r h => hr r (List.mem_cons_of_mem _ h)) ((T.clo' ok).mul h ((T.clo' ok).pow (hr r List.mem_cons_self) _))
theorem ovL_end : ∀ (rows : List Pl) (l : P2) (f : Pl), (ovL rows l f).2.x + (ovL rows l f).1.1 = f.x + l.1 ∧ (ovL rows l f).2.y + (ovL rows l f).1.2 = f.y + l.2 := by
  intro rows
  induction rows with
  | nil => intro l f; exact ⟨rfl, rfl⟩
  | cons r rs ih =>
    intro l f
    have := ih (l.1 - ovT r l * r.x, l.2 - ovT r l * r.y) (f.mul (r.pow (ovT r l)))
    simp only [Pl.mul, Pl.pow] at this
    show (ovL rs _ _).2.x + (ovL rs _ _).1.1 = _ ∧ (ovL rs _ _).2.y + (ovL rs _ _).1.2 = _
    simp only [Pl.mul, Pl.pow]
    omega
theorem ovT_u {T : Tb} {l : P2} {n : Int} (hp : 0 < T.p) (h : l.1 = n * T.p) : ovT T.u l = n := by
  unfold ovT
  rw [if_pos (show T.u.x ≠ 0 by show T.p ≠ 0; omega)]
  exact fdiv_exact (by rw [h, Int.mul_comm]; rfl) (by show T.p ≠ 0; omega)
theorem ovT_v {T : Tb} {l : P2} {n : Int} (hs : 0 < T.s) (h : l.2 = n * T.s) : ovT T.v l = n := by
  unfold ovT
  rw [if_neg (fun z => z rfl)]
  exact fdiv_exact (by rw [h, Int.mul_comm]; rfl) (by show T.s ≠ 0; omega)
theorem ovL_left {T : Tb} (ok : T.Ok) {v : P2} (h : T.LatP v) (f : Pl) : (ovL T.rows v f).1 = (0, 0) := by
  obtain ⟨n, m, h1, h2⟩ := h
  unfold Tb.rows
  by_cases hp : 0 < T.p
  · rw [if_pos hp]
    by_cases hs : 0 < T.s
    · rw [if_pos hs]
      show (ovL [T.u, T.v] v f).1 = (0, 0)
      unfold ovL
      rw [ovT_u hp h1]
      unfold ovL
      have e : ovT T.v (v.1 - n * T.u.x, v.2 - n * T.u.y) = m := ovT_v hs (by show v.2 - n * T.q = m * T.s; rw [h2]; omega)
      rw [e]
      unfold ovL
      refine Prod.ext ?_ ?_
      · show v.1 - n * T.p - m * 0 = 0
        rw [h1]; omega
      · show v.2 - n * T.q - m * T.s = 0
        rw [h2]; omega
    · rw [if_neg hs]
      show (ovL [T.u] v f).1 = (0, 0)
      have s0 : T.s = 0 := by have := ok.s0; omega
      unfold ovL
      rw [ovT_u hp h1]
      unfold ovL
      refine Prod.ext ?_ ?_
      · show v.1 - n * T.p = 0
        rw [h1]; omega
      · show v.2 - n * T.q = 0
        rw [h2, s0]; omega
  · rw [if_neg hp]
    have p0 : T.p = 0 := by have := ok.p0; omega
    have q0 := (ok.zp p0).1
    rw [p0] at h1
    rw [q0] at h2
    by_cases hs : 0 < T.s
    · rw [if_pos hs]
      show (ovL [T.v] v f).1 = (0, 0)
      unfold ovL
      rw [ovT_v hs (n := m) (by rw [h2]; omega)]
      unfold ovL
      refine Prod.ext ?_ ?_
      · show v.1 - m * 0 = 0
        omega
      · show v.2 - m * T.s = 0
        rw [h2]; omega
    · rw [if_neg hs]
      have s0 : T.s = 0 := by have := ok.s0; omega
      rw [s0] at h2
      show v = (0, 0)
      refine Prod.ext ?_ ?_
      · show v.1 = 0
        omega
      · show v.2 = 0
        omega
theorem over_ok {T : Tb} (ok : T.Ok) : Over T (overM T) := fun v hv => by
  have h1 := ovL_mem ok T.rows v home (fun r hr => T.rows_mem hr) (T.clo' ok).one
  have h2 := ovL_end T.rows v home
  rw [ovL_left ok hv] at h2
  simp only [home] at h2
  have e : (ovL T.rows v home).2 = ⟨v.1, v.2, overM T v⟩ := Pl.ext' (by show _ = v.1; simp only [home]; omega) (by show _ = v.2; simp only [home]; omega) rfl
  rw [← e]
  exact h1
/-! ### rows, points -/
def ends (T : Tb) : List P2 := T.rows.map fun g => (g.x, g.y)
theorem rows_cases (T : Tb) : (¬ 0 < T.p ∧ ¬ 0 < T.s ∧ T.rows = []) ∨ (0 < T.p ∧ ¬ 0 < T.s ∧ T.rows = [T.u]) ∨ (¬ 0 < T.p ∧ 0 < T.s ∧ T.rows = [T.v]) ∨ (0 < T.p ∧ 0 < T.s ∧ T.rows = [T.u, T.v]) := by
  unfold Tb.rows
  by_cases h1 : 0 < T.p
  · by_cases h2 : 0 < T.s
    · right; right; right; exact ⟨h1, h2, by rw [if_pos h1, if_pos h2]; rfl⟩
    · right; left; exact ⟨h1, h2, by rw [if_pos h1, if_neg h2]; rfl⟩
  · by_cases h2 : 0 < T.s
    · right; right; left; exact ⟨h1, h2, by rw [if_neg h1, if_pos h2]; rfl⟩
    · left; exact ⟨h1, h2, by rw [if_neg h1, if_neg h2]; rfl⟩
theorem rep_ends {T : Tb} (ok : T.Ok) : Rep (0, 0) (ends T) T.LatP := by
  intro v
  rcases rows_cases T with ⟨h1, h2, e⟩ | ⟨h1, h2, e⟩ | ⟨h1, h2, e⟩ | ⟨h1, h2, e⟩
  · have ee : ends T = [] := by unfold ends; rw [e]; rfl
    have p0 : T.p = 0 := by have := ok.p0; omega
    have s0 : T.s = 0 := by have := ok.s0; omega
    have q0 := (ok.zp p0).1
    rw [ee]
    constructor
    · rintro ⟨ns, hn, rfl⟩
      cases len0 hn
      exact ⟨0, 0, by simp [comb], by simp [comb]⟩
    · rintro ⟨n, m, a, b⟩
      rw [p0] at a; rw [q0, s0] at b
      exact ⟨[], rfl, Prod.ext (by show v.1 = 0; omega) (by show v.2 = 0; omega)⟩
  · have ee : ends T = [(T.p, T.q)] := by unfold ends; rw [e]; rfl
    rw [ee, lat_p ok h2]
    constructor
    · rintro ⟨ns, hn, rfl⟩
      obtain ⟨a, rfl⟩ := len1 hn
      exact ⟨a, by show 0 + a * T.p = _; omega, by show 0 + a * T.q = _; omega⟩
    · rintro ⟨k, a, b⟩
      exact ⟨[k], rfl, Prod.ext (by show v.1 = 0 + k * T.p; omega) (by show v.2 = 0 + k * T.q; omega)⟩
  · have ee : ends T = [(0, T.s)] := by unfold ends; rw [e]; rfl
    rw [ee, lat_s ok h1]
    constructor
    · rintro ⟨ns, hn, rfl⟩
      obtain ⟨a, rfl⟩ := len1 hn
      exact ⟨a, by show 0 + a * 0 = _; omega, by show 0 + a * T.s = _; omega⟩
    · rintro ⟨k, a, b⟩
      exact ⟨[k], rfl, Prod.ext (by show v.1 = 0 + k * 0; omega) (by show v.2 = 0 + k * T.s; omega)⟩
  · have ee : ends T = [(T.p, T.q), (0, T.s)] := by unfold ends; rw [e]; rfl
    rw [ee]
    constructor
    · rintro ⟨ns, hn, rfl⟩
      obtain ⟨a, b, rfl⟩ := len2 hn
      exact ⟨a, b, by show 0 + a * T.p + b * 0 = _; omega, by show 0 + a * T.q + b * T.s = _; omega⟩
    · rintro ⟨n, m, a, b⟩
      exact ⟨[n, m], rfl, Prod.ext (by show v.1 = 0 + n * T.p + m * 0; omega) (by show v.2 = 0 + n * T.q + m * T.s; omega)⟩
theorem fat_sub (f a b : P2) : fat f (psub a b) = fat f a - fat f b := by simp only [fat, psub]; grind
theorem dvd_sub_comm {m a b : Int} : m ∣ a - b ↔ m ∣ b - a := by
  constructor
  · rintro ⟨k, h⟩; exact ⟨-k, by rw [Int.mul_neg]; omega⟩
  · rintro ⟨k, h⟩; exact ⟨-k, by rw [Int.mul_neg]; omega⟩
/-- both forms at a point, from the goal: the rest is an end of the table -/
theorem both_iff {S U : Tb} {f0 f1 goal : P2} {m0 m1 : Int} (F : FormsOf U f0 m0 f1 m1) (v : P2) : Both S U goal v ↔ (S.LatP v ∧ m0 ∣ fat f0 v - fat f0 goal) ∧ m1 ∣ fat f1 v - fat f1 goal := by
  unfold Both
  rw [F.iff, fat_sub, fat_sub, dvd_sub_comm (a := fat f0 goal), dvd_sub_comm (a := fat f1 goal)]
  exact ⟨fun ⟨a, b, c⟩ => ⟨⟨a, b⟩, c⟩, fun ⟨⟨a, b⟩, c⟩ => ⟨a, b, c⟩⟩
theorem prod_both {S U : Tb} {g : Pl} (h : ∃ a b, S.Mem a ∧ U.Mem b ∧ a.mul b = g) : ∃ v, Both S U (g.x, g.y) v := by
  obtain ⟨a, b, ha, hb, rfl⟩ := h
  refine ⟨(a.x, a.y), ha.lat, ?_⟩
  have e : psub ((a.mul b).x, (a.mul b).y) (a.x, a.y) = (b.x, b.y) := by simp only [psub, Pl.mul]; refine Prod.ext ?_ ?_ <;> simp only [] <;> omega
  rw [e]
  exact hb.lat
theorem gcd_fits {k : Nat} {a b : Int} (ha : Fits k a) (hb : Fits k b) : Fits k ((Int.gcd a b : Nat) : Int) := by
  by_cases h : a = 0
  · subst h
    exact hb.le (by simp)
  · exact ha.le (by
      have := Int.gcd_le_natAbs_left b h
      omega)
end Wk
namespace Wk
set_option linter.all false
set_option maxRecDepth 100000
/-! Plain mathematics 5: the leading down, and what is gathered. -/
def quo (prt : Pl → Int) (u l : Pl) : Int := (prt u).fdiv (prt l)
def led1 (prt : Pl → Int) (u l : Pl) : Pl := u.mul (l.pow (-quo prt u l))
/-- n steps down lead from one pair to another -/
inductive Led (prt : Pl → Int) (u0 l0 : Pl) : Nat → Pl → Pl → Prop
  | start : Led prt u0 l0 0 u0 l0
  | step {n : Nat} {u l : Pl} : Led prt u0 l0 n u l → prt l ≠ 0 → Led prt u0 l0 (n + 1) l (led1 prt u l)
def Lin (prt : Pl → Int) (u0 l0 : Pl) : Prop := ∀ n u l, Led prt u0 l0 n u l → prt (led1 prt u l) = prt u - quo prt u l * prt l
theorem Led.clo {prt : Pl → Int} {u0 l0 : Pl} {n : Nat} {u l : Pl} (h : Led prt u0 l0 n u l) {G : Pl → Prop} (c : Clo G) : (G u0 ∧ G l0) ↔ (G u ∧ G l) := by
  induction h with
  | start => exact Iff.rfl
  | step h _ ih =>
    refine ih.trans ⟨fun h => ⟨h.2, c.mul h.1 (c.pow h.2 _)⟩, fun h => ⟨c.back h.2 h.1, h.1⟩⟩
theorem pow_x (g : Pl) (n : Int) : (g.pow n).x = n * g.x := rfl
theorem lin_x {u0 l0 : Pl} : Lin Pl.x u0 l0 := fun n u l _ => by simp only [led1, Pl.mul, Pl.pow]; grind
theorem lin_y {u0 l0 : Pl} : Lin Pl.y u0 l0 := fun n u l _ => by simp only [led1, Pl.mul, Pl.pow]; grind
theorem zer_clo : Clo fun g : Pl => g.x = 0 := ⟨rfl, fun h1 h2 => by simp only [Pl.mul] at *; omega, fun h => by simp only [Pl.inv] at *; omega⟩
theorem zery_clo : Clo fun g : Pl => g.y = 0 := ⟨rfl, fun h1 h2 => by simp only [Pl.mul] at *; omega, fun h => by simp only [Pl.inv] at *; omega⟩
theorem Led.x0 {prt : Pl → Int} {u0 l0 : Pl} (hu : u0.x = 0) (hl : l0.x = 0) {n : Nat} {u l : Pl} (h : Led prt u0 l0 n u l) : u.x = 0 ∧ l.x = 0 := (h.clo zer_clo).mp ⟨hu, hl⟩
theorem Led.y0 {prt : Pl → Int} {u0 l0 : Pl} (hu : u0.y = 0) (hl : l0.y = 0) {n : Nat} {u l : Pl} (h : Led prt u0 l0 n u l) : u.y = 0 ∧ l.y = 0 := (h.clo zery_clo).mp ⟨hu, hl⟩
theorem area_x0 {u l : Pl} (hu : u.x = 0) (hl : l.x = 0) (t : Int) : (u.mul (l.pow t)).a = u.a + t * l.a := by simp only [Pl.mul, Pl.pow]; rw [hu, hl]; grind
theorem lin_a {u0 l0 : Pl} (hu : u0.x = 0) (hl : l0.x = 0) : Lin Pl.a u0 l0 := fun n u l h => by
  obtain ⟨h1, h2⟩ := h.x0 hu hl
  unfold led1
  rw [area_x0 h1 h2]
  generalize quo Pl.a u l = q
  grind
theorem led_mod {prt : Pl → Int} {u0 l0 : Pl} (L : Lin prt u0 l0) {n : Nat} {u l : Pl} (h : Led prt u0 l0 n u l) : prt (led1 prt u l) = (prt u).fmod (prt l) := by
  rw [L n u l h]
  unfold quo
  have := Int.fmod_add_fdiv_mul (prt u) (prt l)
  omega
/-- quotient and remainder by sizes -/
theorem quo_any (a b : Int) (hb : b ≠ 0) : (a.fdiv b).natAbs * b.natAbs ≤ a.natAbs + b.natAbs ∧ 0 ≤ b * a.fmod b := by
  have h := Int.fmod_add_fdiv_mul a b
  have h2 := fmod_abs_lt (x := a) hb
  constructor
  · rw [← Int.natAbs_mul]
    have : a.fdiv b * b = a - a.fmod b := by omega
    rw [this]
    omega
  · rcases Int.lt_trichotomy b 0 with hb | hb | hb
    · have := (fmod_of_neg (x := a) hb).2
      exact Int.mul_nonneg_of_nonpos_of_nonpos (by omega) this
    · omega
    · exact Int.mul_nonneg (by omega) (Int.fmod_nonneg_of_pos a hb)
theorem quo_same (a b : Int) (hb : b ≠ 0) (h0 : 0 ≤ a * b) : (a.fdiv b).natAbs * b.natAbs + (a.fmod b).natAbs = a.natAbs := by
  have h := Int.fmod_add_fdiv_mul a b
  rw [← Int.natAbs_mul]
  rcases Int.lt_trichotomy b 0 with hb | hb | hb
  · have h1 := fmod_of_neg (x := a) hb
    have ha : a ≤ 0 := by
      rcases Int.lt_or_le 0 a with ha | ha
      · have := Int.mul_neg_of_pos_of_neg ha hb; omega
      · exact ha
    have q0 : 0 ≤ a.fdiv b := by
      rcases Int.lt_or_le (a.fdiv b) 0 with hq | hq
      · have : 1 * (-b) ≤ (-(a.fdiv b)) * (-b) := Int.mul_le_mul_of_nonneg_right (by omega) (by omega)
        rw [Int.neg_mul_neg] at this
        omega
      · exact hq
    have : a.fdiv b * b ≤ 0 := Int.mul_nonpos_of_nonneg_of_nonpos q0 (by omega)
    omega
  · omega
  · have h1 := Int.fmod_nonneg_of_pos a hb
    have h2 := Int.fmod_lt_of_pos a hb
    have ha : 0 ≤ a := by
      rcases Int.lt_or_le a 0 with ha | ha
      · have := Int.mul_neg_of_neg_of_pos ha hb; omega
      · exact ha
    have q0 : 0 ≤ a.fdiv b := by
      rcases Int.lt_or_le (a.fdiv b) 0 with hq | hq
      · have : 1 * b ≤ (-(a.fdiv b)) * b := Int.mul_le_mul_of_nonneg_right (by omega) (by omega)
        rw [Int.neg_mul] at this
        omega
      · exact hq
    have : 0 ≤ a.fdiv b * b := Int.mul_nonneg q0 (by omega)
    omega
/-- what holds after a step -/
structure LedI (prt : Pl → Int) (u0 l0 : Pl) (n : Nat) (u l : Pl) : Prop where
  same : 0 ≤ prt u * prt l
  less : (prt l).natAbs < (prt u).natAbs
  top : (prt u).natAbs ≤ (prt l0).natAbs
  half : (prt u).natAbs * (prt l).natAbs * 2 ^ n ≤ (prt l0).natAbs * (prt l0).natAbs
  count : n = 0 ∨ 2 ^ (n - 1) ≤ (prt l0).natAbs * (prt l0).natAbs
theorem led_inv {prt : Pl → Int} {u0 l0 : Pl} (L : Lin prt u0 l0) {n : Nat} {u l : Pl} (h : Led prt u0 l0 n u l) : (n = 0 ∧ u = u0 ∧ l = l0) ∨ ∃ m, n = m + 1 ∧ LedI prt u0 l0 m u l := by
  induction h with
  | start => exact .inl ⟨rfl, rfl, rfl⟩
  | @step n u l h hl ih =>
    refine .inr ⟨n, rfl, ?_⟩
    have e := led_mod L h
    have lt := fmod_abs_lt (x := prt u) hl
    rcases ih with ⟨rfl, rfl, rfl⟩ | ⟨m, rfl, I⟩
    · refine ⟨by rw [e]; exact (quo_any _ _ hl).2, by rw [e]; exact lt, Nat.le_refl _, ?_, .inl rfl⟩
      rw [e, Nat.pow_zero, Nat.mul_one]
      exact Nat.mul_le_mul_left _ (Nat.le_of_lt lt)
    · refine ⟨by rw [e]; exact (quo_any _ _ hl).2, by rw [e]; exact lt, by have := I.less; have := I.top; omega, ?_, .inr ?_⟩
      · have hq := quo_same (prt u) (prt l) hl I.same
        rw [e]
        have q1 : 1 ≤ ((prt u).fdiv (prt l)).natAbs := by
          rcases Nat.eq_zero_or_pos ((prt u).fdiv (prt l)).natAbs with h0 | h0
          · rw [h0] at hq
            have := I.less
            omega
          · exact h0
        have h3 : (prt l).natAbs ≤ ((prt u).fdiv (prt l)).natAbs * (prt l).natAbs := Nat.le_mul_of_pos_left _ q1
        have h4 : 2 * ((prt u).fmod (prt l)).natAbs ≤ (prt u).natAbs := by omega
        calc (prt l).natAbs * ((prt u).fmod (prt l)).natAbs * 2 ^ (m + 1) = ((prt l).natAbs * (2 * ((prt u).fmod (prt l)).natAbs)) * 2 ^ m := by rw [Nat.pow_succ]; grind
          _ ≤ ((prt l).natAbs * (prt u).natAbs) * 2 ^ m := Nat.mul_le_mul_right _ (Nat.mul_le_mul_left _ h4)
          _ = (prt u).natAbs * (prt l).natAbs * 2 ^ m := by rw [Nat.mul_comm (prt l).natAbs]
          _ ≤ _ := I.half
      · have : 1 * 1 * 2 ^ m ≤ (prt u).natAbs * (prt l).natAbs * 2 ^ m := Nat.mul_le_mul_right _ (Nat.mul_le_mul (by have := I.less; omega) (by omega))
        have := I.half
        rw [Nat.add_sub_cancel]
        omega
theorem led_count {prt : Pl → Int} {u0 l0 : Pl} (L : Lin prt u0 l0) {k : Nat} (hk : Fits k (prt l0)) {n : Nat} {u l : Pl} (h : Led prt u0 l0 n u l) : n ≤ 2 * k + 2 := by
  rcases led_inv L h with ⟨rfl, _, _⟩ | ⟨m, rfl, I⟩
  · omega
  rcases I.count with rfl | h1
  · omega
  · have h2 : (prt l0).natAbs * (prt l0).natAbs ≤ 2 ^ k * 2 ^ k := Nat.mul_le_mul (Nat.le_of_lt hk.lt) (Nat.le_of_lt hk.lt)
    rw [← Nat.pow_add] at h2
    have h3 := (Nat.pow_le_pow_iff_right (by decide : 1 < 2)).mp (Nat.le_trans h1 h2)
    omega
theorem led_part {prt : Pl → Int} {u0 l0 : Pl} (L : Lin prt u0 l0) {k : Nat} (hu : Fits k (prt u0)) (hl : Fits k (prt l0)) {n : Nat} {u l : Pl} (h : Led prt u0 l0 n u l) : Fits k (prt u) ∧ Fits k (prt l) := by
  rcases led_inv L h with ⟨_, rfl, rfl⟩ | ⟨m, rfl, I⟩
  · exact ⟨hu, hl⟩
  · have := I.less
    have := I.top
    exact ⟨hl.le (by omega), hl.le (by omega)⟩
theorem led_zero {prt : Pl → Int} {u0 l0 : Pl} {n : Nat} {u l : Pl} (h : Led prt u0 l0 n u l) (L : Lin prt u0 l0) : (n = 0 ∧ u = u0 ∧ l = l0) ∨ prt u ≠ 0 := by
  rcases led_inv L h with h | ⟨m, rfl, I⟩
  · exact .inl h
  · right
    have := I.less
    omega
/-- a weight that a step does not raise but by the quotient -/
def Wts (prt : Pl → Int) (u0 l0 : Pl) (w : Pl → Nat) : Prop := ∀ n u l, Led prt u0 l0 n u l → w (led1 prt u l) ≤ w u + (quo prt u l).natAbs * w l
theorem led_wt {prt : Pl → Int} {u0 l0 : Pl} (L : Lin prt u0 l0) {w : Pl → Nat} (W : Wts prt u0 l0 w) {a c : Nat} (hu : w u0 < 2 ^ a) (hl : w l0 < 2 ^ a) (pu : Fits c (prt u0)) (pl : Fits c (prt l0)) {n : Nat} {u l : Pl} (h : Led prt u0 l0 n u l) :
    w u < 2 ^ (a + c + 2) ∧ w l < 2 ^ (a + c + 2) := by
  have big : 2 ^ a ≤ 2 ^ (a + c + 2) := Nat.pow_le_pow_right (by decide) (by omega)
  have bc : w u0 * (prt l0).natAbs + w l0 * ((prt u0).natAbs + 2 * (prt l0).natAbs) < 2 ^ (a + c + 2) := by
    have pa : 0 < 2 ^ a := Nat.pow_pos (by decide)
    have pc : 0 < 2 ^ c := Nat.pow_pos (by decide)
    have h1 : w u0 * (prt l0).natAbs ≤ (2 ^ a) * (2 ^ c - 1) := Nat.mul_le_mul (Nat.le_of_lt hu) (by have := pl.lt; omega)
    have h2 : w l0 * ((prt u0).natAbs + 2 * (prt l0).natAbs) ≤ (2 ^ a) * (3 * (2 ^ c - 1)) := Nat.mul_le_mul (Nat.le_of_lt hl) (by have := pl.lt; have := pu.lt; omega)
    have h3 : (2 ^ a) * (2 ^ c - 1) + (2 ^ a) * (3 * (2 ^ c - 1)) = 2 ^ a * (4 * (2 ^ c - 1)) := by rw [← Nat.mul_add]; congr 1; omega
    have h4 : 2 ^ a * (4 * (2 ^ c - 1)) < 2 ^ a * (4 * 2 ^ c) := Nat.mul_lt_mul_of_pos_left (by omega) pa
    have h5 : 2 ^ a * (4 * 2 ^ c) = 2 ^ (a + c + 2) := by rw [Nat.pow_add, Nat.pow_add]; grind
    omega
  have key : (n = 0 ∧ u = u0 ∧ l = l0) ∨ (w u < 2 ^ (a + c + 2) ∧ w l < 2 ^ (a + c + 2) ∧ w u * (prt l).natAbs + w l * (prt u).natAbs ≤ w u0 * (prt l0).natAbs + w l0 * ((prt u0).natAbs + 2 * (prt l0).natAbs)) := by
    induction h with
    | start => exact .inl ⟨rfl, rfl, rfl⟩
    | @step n u l h hl' ih =>
      right
      have e := led_mod L h
      have lt := fmod_abs_lt (x := prt u) hl'
      have ww := W n u l h
      have hs : w l * ((prt u).fmod (prt l)).natAbs + w (led1 prt u l) * (prt l).natAbs ≤ w u0 * (prt l0).natAbs + w l0 * ((prt u0).natAbs + 2 * (prt l0).natAbs) := by
        have h1 : w (led1 prt u l) * (prt l).natAbs ≤ (w u + (quo prt u l).natAbs * w l) * (prt l).natAbs := Nat.mul_le_mul_right _ ww
        have h2 : (w u + (quo prt u l).natAbs * w l) * (prt l).natAbs = w u * (prt l).natAbs + w l * ((quo prt u l).natAbs * (prt l).natAbs) := by grind
        rcases led_inv L h with ⟨_, rfl, rfl⟩ | ⟨m, rfl, I⟩
        · have h3 := (quo_any (prt u) (prt l) hl').1
          have h4 : w l * ((prt u).fmod (prt l)).natAbs + w l * ((quo prt u l).natAbs * (prt l).natAbs) ≤ w l * ((prt u).natAbs + 2 * (prt l).natAbs) := by
            rw [← Nat.mul_add]
            refine Nat.mul_le_mul_left _ ?_
            show _ + ((prt u).fdiv (prt l)).natAbs * _ ≤ _
            omega
          omega
        · have h3 := quo_same (prt u) (prt l) hl' I.same
          have h4 : w l * ((prt u).fmod (prt l)).natAbs + w l * ((quo prt u l).natAbs * (prt l).natAbs) = w l * (prt u).natAbs := by
            rw [← Nat.mul_add]
            congr 1
            show _ + ((prt u).fdiv (prt l)).natAbs * _ = _
            omega
          rcases ih with ⟨h0, _⟩ | ih
          · omega
          · omega
      rw [e]
      refine ⟨?_, ?_, hs⟩
      · rcases ih with ⟨_, _, rfl⟩ | ih
        · omega
        · exact ih.2.1
      · have : w (led1 prt u l) * 1 ≤ w (led1 prt u l) * (prt l).natAbs := Nat.mul_le_mul_left _ (by omega)
        omega
  rcases key with ⟨_, rfl, rfl⟩ | k
  · exact ⟨by omega, by omega⟩
  · exact ⟨k.1, k.2.1⟩
theorem wts_y {u0 l0 : Pl} {prt : Pl → Int} : Wts prt u0 l0 fun g => g.y.natAbs := fun n u l _ => by
  show (u.mul (l.pow _)).y.natAbs ≤ _
  simp only [Pl.mul, Pl.pow]
  have := Int.natAbs_add_le u.y (-quo prt u l * l.y)
  rw [Int.natAbs_mul, Int.natAbs_neg] at this
  exact this
def twist (u l : Pl) : Int := u.x * l.y - l.x * u.y
theorem twist_led {prt : Pl → Int} {u0 l0 : Pl} {n : Nat} {u l : Pl} (h : Led prt u0 l0 n u l) : (twist u l).natAbs = (twist u0 l0).natAbs := by
  induction h with
  | start => rfl
  | @step n u l h _ ih =>
    rw [← ih, ← Int.natAbs_neg]
    congr 1
    simp only [twist, led1, Pl.mul, Pl.pow]
    grind
def bent (g : Pl) : Int := 2 * g.a - g.x * g.y
theorem wts_b {u0 l0 : Pl} {prt : Pl → Int} : Wts prt u0 l0 fun g => (bent g).natAbs + (twist u0 l0).natAbs := fun n u l h => by
  have e : bent (led1 prt u l) = bent u + (-quo prt u l) * (bent l + twist u l) := by
    simp only [bent, led1, Pl.mul, Pl.pow, twist]
    generalize -quo prt u l = t
    have := tri2 t
    grind
  have h1 := Int.natAbs_add_le (bent u) ((-quo prt u l) * (bent l + twist u l))
  rw [Int.natAbs_mul, Int.natAbs_neg] at h1
  have h2 := Int.natAbs_add_le (bent l) (twist u l)
  rw [twist_led h] at h2
  have h3 := Nat.mul_le_mul_left (quo prt u l).natAbs h2
  show (bent (led1 prt u l)).natAbs + _ ≤ (bent u).natAbs + (twist u0 l0).natAbs + (quo prt u l).natAbs * ((bent l).natAbs + (twist u0 l0).natAbs)
  rw [e]
  omega
theorem wts_a {u0 l0 : Pl} {prt : Pl → Int} (hu : u0.x = 0) (hl : l0.x = 0) : Wts prt u0 l0 fun g => g.a.natAbs := fun n u l h => by
  obtain ⟨h1, h2⟩ := h.x0 hu hl
  show (u.mul (l.pow _)).a.natAbs ≤ _
  rw [area_x0 h1 h2]
  have := Int.natAbs_add_le u.a (-quo prt u l * l.a)
  rw [Int.natAbs_mul, Int.natAbs_neg] at this
  exact this
end Wk
namespace Wk
set_option linter.all false
set_option maxRecDepth 100000
def FPl (k : Nat) (g : Pl) : Prop := Fits k g.x ∧ Fits k g.y ∧ Fits k g.a
theorem FPl.mono {a b : Nat} {g : Pl} (h : FPl a g) (e : a ≤ b) : FPl b g := ⟨h.1.mono e, h.2.1.mono e, h.2.2.mono e⟩
/-- all pairs on the way down are small, the way is short -/
structure LedOk (prt : Pl → Int) (u0 l0 : Pl) (N : Nat) : Prop where
  lin : Lin prt u0 l0
  all : ∀ n u l, Led prt u0 l0 n u l → FPl 3000 u ∧ FPl 3000 l ∧ n ≤ N ∧ Fits 3000 (prt u) ∧ Fits 3000 (prt l)
theorem fits_half {k : Nat} {a b : Int} (h : Fits k (2 * a - b)) (h' : Fits k b) : Fits k a := by
  have h1 := h.lt
  have h2 := h'.lt
  exact ⟨by omega⟩
theorem area_of_bent {k : Nat} {g : Pl} (h : Fits k (bent g)) (h' : Fits k (g.x * g.y)) : Fits k g.a := fits_half h h'
/-- closed and full in the middle -/
structure Mid (G : Pl → Prop) : Prop extends Clo G where
  mid : ∀ a, G ⟨0, 0, a⟩
structure ToldB (g : Pl) : Prop where
  x : Fits 57 g.x
  y : Fits 57 g.y
  a : Fits 120 g.a
structure G1 (told : List Pl) (k : Nat) (U L : Pl) : Prop where
  iff : ∀ G, Mid G → ((∀ i g, i < k → told[i]? = some g → G g) ↔ G U ∧ G L)
  lx : L.x = 0
  fx : Fits 57 U.x
  fy : Fits (57 + 60 * k) U.y
  fb : Fits (122 + 61 * k) (bent U)
  ly : Fits (57 + 60 * k) L.y
  la : Fits (500 + 360 * k) L.a
theorem G1.start {told : List Pl} : G1 told 0 home home := ⟨fun G m => ⟨fun _ => ⟨m.one, m.one⟩, fun _ i g h => absurd h (Nat.not_lt_zero _)⟩, rfl, .zero, .zero, .zero, .zero, .zero⟩
section
variable {told : List Pl} {k : Nat} {U L g : Pl}
theorem nat2 {a b k : Nat} {x y : Nat} (h : x < 2 ^ a) (h' : y < 2 ^ b) (ha : a < k) (hb : b < k) : x + y < 2 ^ k := by
  have h1 : 2 ^ a ≤ 2 ^ (max a b) := Nat.pow_le_pow_right (by decide) (Nat.le_max_left _ _)
  have h2 : 2 ^ b ≤ 2 ^ (max a b) := Nat.pow_le_pow_right (by decide) (Nat.le_max_right _ _)
  have := two_le (a := max a b) (k := k) (by omega)
  omega
/-- sizes of the first leading -/
theorem G1.sz (I : G1 told k U L) (hk : k ≤ 4) (b : ToldB g) {n : Nat} {u l : Pl} (h : Led Pl.x U g n u l) : (Fits 57 u.x ∧ Fits 57 l.x) ∧ (Fits (57 + 60 * (k + 1)) u.y ∧ Fits (57 + 60 * (k + 1)) l.y) ∧ (Fits (122 + 61 * (k + 1)) (bent u) ∧ Fits (122 + 61 * (k + 1)) (bent l)) := by
  have L1 : Lin Pl.x U g := lin_x
  have hx := led_part L1 I.fx b.x h
  have hy := led_wt L1 wts_y (a := 57 + 60 * k) (c := 57) I.fy.lt (b.y.mono (by omega : 57 ≤ 57 + 60 * k)).lt I.fx b.x h
  have ft : Fits (115 + 60 * k) (twist U g) := (I.fx.mul b.y (k := 114) (by omega)).sub (b.x.mul I.fy (k := 114 + 60 * k) (by omega)) (by omega) (by omega)
  have fg : Fits 122 (bent g) := by
    have h1 : Fits 121 (g.a + g.a) := b.a.add b.a (by omega) (by omega)
    have h2 : Fits 122 ((g.a + g.a) - g.x * g.y) := h1.sub (b.x.mul b.y (k := 114) (by omega)) (by omega) (by omega)
    have e : bent g = (g.a + g.a) - g.x * g.y := by unfold bent; omega
    rw [e]
    exact h2
  have hb := led_wt L1 wts_b (a := 123 + 61 * k) (c := 57) (nat2 I.fb.lt ft.lt (by omega) (by omega)) (nat2 fg.lt ft.lt (by omega) (by omega)) I.fx b.x h
  have e1 : 2 ^ (57 + 60 * k + 57 + 2) ≤ 2 ^ (57 + 60 * (k + 1)) := Nat.pow_le_pow_right (by decide) (by omega)
  have e2 : 2 ^ (123 + 61 * k + 57 + 2) ≤ 2 ^ (122 + 61 * (k + 1)) := Nat.pow_le_pow_right (by decide) (by omega)
  refine ⟨hx, ⟨⟨Nat.lt_of_lt_of_le hy.1 e1⟩, ⟨Nat.lt_of_lt_of_le hy.2 e1⟩⟩, ⟨?_⟩, ⟨?_⟩⟩
  · have := hb.1
    omega
  · have := hb.2
    omega
theorem G1.led (I : G1 told k U L) (hk : k ≤ 4) (b : ToldB g) : LedOk Pl.x U g 116 := ⟨lin_x, fun n u l h => by
  obtain ⟨⟨x1, x2⟩, ⟨y1, y2⟩, b1, b2⟩ := I.sz hk b h
  have a1 : Fits 500 u.a := area_of_bent (b1.mono (by omega)) (x1.mul y1 (by omega))
  have a2 : Fits 500 l.a := area_of_bent (b2.mono (by omega)) (x2.mul y2 (by omega))
  exact ⟨⟨x1.mono (by omega), y1.mono (by omega), a1.mono (by omega)⟩, ⟨x2.mono (by omega), y2.mono (by omega), a2.mono (by omega)⟩, led_count lin_x b.x h, x1.mono (by omega), x2.mono (by omega)⟩⟩
theorem G1.sz2 (I : G1 told k U L) (hk : k ≤ 4) (b : ToldB g) {n : Nat} {U' R : Pl} (h : Led Pl.x U g n U' R) (hR : R.x = 0) {m : Nat} {u l : Pl} (h' : Led Pl.y L R m u l) :
    (u.x = 0 ∧ l.x = 0) ∧ (Fits (57 + 60 * (k + 1)) u.y ∧ Fits (57 + 60 * (k + 1)) l.y) ∧ (Fits (500 + 360 * (k + 1)) u.a ∧ Fits (500 + 360 * (k + 1)) l.a) := by
  obtain ⟨⟨x1, x2⟩, ⟨y1, y2⟩, b1, b2⟩ := I.sz hk b h
  have aR : Fits (500 + 360 * k) R.a := (area_of_bent (k := 122 + 61 * (k + 1)) b2 (by rw [hR, Int.zero_mul]; exact .zero)).mono (by omega)
  have x0 := h'.x0 I.lx hR
  have fy := led_part lin_y (I.ly.mono (by omega : 57 + 60 * k ≤ 57 + 60 * (k + 1))) y2 h'
  have fa := led_wt lin_y (wts_a I.lx hR) (a := 500 + 360 * k) (c := 57 + 60 * (k + 1)) I.la.lt aR.lt (I.ly.mono (by omega)) y2 h'
  have e1 : 2 ^ (500 + 360 * k + (57 + 60 * (k + 1)) + 2) ≤ 2 ^ (500 + 360 * (k + 1)) := Nat.pow_le_pow_right (by decide) (by omega)
  exact ⟨x0, fy, ⟨Nat.lt_of_lt_of_le fa.1 e1⟩, ⟨Nat.lt_of_lt_of_le fa.2 e1⟩⟩
theorem G1.led2 (I : G1 told k U L) (hk : k ≤ 4) (b : ToldB g) {n : Nat} {U' R : Pl} (h : Led Pl.x U g n U' R) (hR : R.x = 0) : LedOk Pl.y L R 716 := ⟨lin_y, fun m u l h' => by
  obtain ⟨⟨x1, x2⟩, ⟨y1, y2⟩, a1, a2⟩ := I.sz2 hk b h hR h'
  have yR := (I.sz hk b h).2.1.2
  have c := led_count lin_y (yR.mono (by omega : 57 + 60 * (k + 1) ≤ 357)) h'
  exact ⟨⟨by rw [x1]; exact .zero, y1.mono (by omega), a1.mono (by omega)⟩, ⟨by rw [x2]; exact .zero, y2.mono (by omega), a2.mono (by omega)⟩, c, y1.mono (by omega), y2.mono (by omega)⟩⟩
theorem mid_of {G : Pl → Prop} (m : Mid G) {g : Pl} (hx : g.x = 0) (hy : g.y = 0) : G g := by
  have e : g = ⟨0, 0, g.a⟩ := Pl.ext' hx hy rfl
  rw [e]
  exact m.mid _
theorem G1.next (I : G1 told k U L) (hk : k ≤ 4) (b : ToldB g) (hg : told[k]? = some g) {n : Nat} {U' R : Pl} (h : Led Pl.x U g n U' R) (hR : R.x = 0) {m : Nat} {L' Z : Pl} (h' : Led Pl.y L R m L' Z) (hZ : Z.y = 0) : G1 told (k + 1) U' L' := by
  obtain ⟨⟨x1, x2⟩, ⟨y1, y2⟩, b1, b2⟩ := I.sz hk b h
  obtain ⟨⟨z1, z2⟩, ⟨z3, z4⟩, z5, z6⟩ := I.sz2 hk b h hR h'
  refine ⟨fun G M => ?_, z1, x1, y1, b1, z3, z5⟩
  have e1 : (∀ i g, i < k + 1 → told[i]? = some g → G g) ↔ (∀ i g, i < k → told[i]? = some g → G g) ∧ G g := by
    constructor
    · exact fun f => ⟨fun i g hi e => f i g (by omega) e, f k g (by omega) hg⟩
    · rintro ⟨f, fg⟩ i g' hi e
      rcases Nat.lt_or_ge i k with h1 | h1
      · exact f i g' h1 e
      · have : i = k := by omega
        subst this
        rw [hg] at e
        cases e
        exact fg
  have e2 := h.clo M.toClo
  have e3 := h'.clo M.toClo
  have e4 := mid_of M z2 hZ
  rw [e1, I.iff G M]
  constructor
  · rintro ⟨⟨a, b⟩, c⟩
    have := e2.mp ⟨a, c⟩
    have := e3.mp ⟨b, this.2⟩
    exact ⟨(e2.mp ⟨a, c⟩).1, this.1⟩
  · rintro ⟨a, b⟩
    have q := e3.mpr ⟨b, e4⟩
    have := e2.mpr ⟨a, q.2⟩
    exact ⟨⟨this.1, q.1⟩, this.2⟩
end
/-- turned to the right side -/
def Right (prt : Pl → Int) (h h' : Pl) : Prop := prt h < 0 ∧ h' = h.inv ∨ 0 ≤ prt h ∧ h' = h
theorem Right.clo {prt : Pl → Int} {h h' : Pl} (r : Right prt h h') {G : Pl → Prop} (c : Clo G) : G h ↔ G h' := by
  rcases r with ⟨_, rfl⟩ | ⟨_, rfl⟩
  · exact c.inv_iff.symm
  · exact Iff.rfl
structure G2 (told : List Pl) (U L : Pl) : Prop where
  iff : ∀ G, Mid G → ((∀ g ∈ told, G g) ↔ G U ∧ G L)
  lx : L.x = 0
  p0 : 0 ≤ U.x
  s0 : 0 ≤ L.y
  u0 : U.x = 0 → U = home
  l0 : L.y = 0 → L = home
  q0 : 0 < U.x → 0 < L.y → 0 ≤ U.y ∧ U.y < L.y
  fx : Fits 57 U.x
  fy : Fits 358 U.y
  fs : Fits 357 L.y
  fa : Fits 2665 U.a
  ft : Fits 2301 L.a
/-- the first row's second number below the second row's -/
def cut (U L : Pl) : Pl := U.mul (L.pow (-(U.y.fdiv L.y)))
def upr (U L : Pl) : Pl := if U.x ≠ 0 ∧ L.y ≠ 0 then cut U L else U
theorem fits357 {a b : Nat} {x : Int} (h : Fits a x) (e : a ≤ b) : Fits b x := h.mono e
theorem G1.done {told : List Pl} {U L U1 L1 : Pl} (I : G1 told told.length U L) (h5 : told.length ≤ 5) (hU : U = home ∨ U.x ≠ 0) (hL : L = home ∨ L.y ≠ 0) (rU : Right Pl.x U U1) (rL : Right Pl.y L L1) :
    G2 told (upr U1 L1) L1 ∧ FPl 3000 U1 ∧ FPl 3000 L1 ∧ Fits 358 (U1.y.fdiv L1.y) ∧ 0 ≤ U1.x ∧ 0 ≤ L1.y := by
  have aU : Fits 500 U.a := area_of_bent (I.fb.mono (by omega)) (I.fx.mul I.fy (by omega))
  have x1 : Fits 57 U1.x := by
    rcases rU with ⟨_, rfl⟩ | ⟨_, rfl⟩
    · exact I.fx.neg
    · exact I.fx
  have y1 : Fits 357 U1.y := by
    rcases rU with ⟨_, rfl⟩ | ⟨_, rfl⟩
    · exact (I.fy.mono (by omega)).neg
    · exact I.fy.mono (by omega)
  have a1 : Fits 501 U1.a := by
    rcases rU with ⟨_, rfl⟩ | ⟨_, rfl⟩
    · exact (I.fx.mul I.fy (k := 500) (by omega)).sub aU (by omega) (by omega)
    · exact aU.mono (by omega)
  have p1 : 0 ≤ U1.x := by 
    rcases rU with ⟨h, rfl⟩ | ⟨h, rfl⟩
    · show 0 ≤ -U.x; omega
    · exact h
  have s1 : 0 ≤ L1.y := by 
    rcases rL with ⟨h, rfl⟩ | ⟨h, rfl⟩
    · show 0 ≤ -L.y; omega
    · exact h
  have lx1 : L1.x = 0 := (rL.clo zer_clo).mp I.lx
  have ly1 : Fits 357 L1.y := by
    rcases rL with ⟨_, rfl⟩ | ⟨_, rfl⟩
    · exact (I.ly.mono (by omega)).neg
    · exact I.ly.mono (by omega)
  have la1 : Fits 2301 L1.a := by
    rcases rL with ⟨_, rfl⟩ | ⟨_, rfl⟩
    · show Fits 2301 (L.x * L.y - L.a)
      rw [I.lx, Int.zero_mul]
      exact (Fits.zero (a := 2300)).sub (I.la.mono (by omega : 500 + 360 * told.length ≤ 2300)) (by omega) (by omega)
    · exact I.la.mono (by omega)
  have hU1 : U1.x = 0 → U1 = home := fun z => by
    rcases rU with ⟨h, rfl⟩ | ⟨h, rfl⟩
    · simp only [Pl.inv] at z; omega
    · rcases hU with h | h
      · exact h
      · exact absurd z h
  have hL1 : L1.y = 0 → L1 = home := fun z => by
    rcases rL with ⟨h, rfl⟩ | ⟨h, rfl⟩
    · simp only [Pl.inv] at z; omega
    · rcases hL with h | h
      · exact h
      · exact absurd z h
  have ft : Fits 358 (U1.y.fdiv L1.y) := (y1.fdiv _).mono (by omega)
  have all : ∀ G : Pl → Prop, (∀ i g, i < told.length → told[i]? = some g → G g) ↔ ∀ g ∈ told, G g := fun G => ⟨fun h g hg => by
    obtain ⟨i, hi⟩ := List.getElem?_of_mem hg
    exact h i g (List.getElem?_eq_some_iff.mp hi).1 hi, fun h i g _ e => h g (List.mem_of_getElem? e)⟩
  have iff1 : ∀ G, Mid G → ((∀ g ∈ told, G g) ↔ G U1 ∧ G L1) := fun G M => by
    rw [← all, I.iff G M, rU.clo M.toClo, rL.clo M.toClo]
  refine ⟨?_, ⟨x1.mono (by omega), y1.mono (by omega), a1.mono (by omega)⟩, ⟨by rw [lx1]; exact .zero, ly1.mono (by omega), la1.mono (by omega)⟩, ft, p1, s1⟩
  unfold upr
  by_cases c : U1.x ≠ 0 ∧ L1.y ≠ 0
  · rw [if_pos c]
    have ex : (cut U1 L1).x = U1.x := by simp only [cut, Pl.mul, Pl.pow, lx1]; omega
    have ey : (cut U1 L1).y = U1.y.fmod L1.y := by
      simp only [cut, Pl.mul, Pl.pow]
      have := Int.fmod_add_fdiv_mul U1.y L1.y
      generalize U1.y.fdiv L1.y = t at *
      rw [Int.neg_mul]
      omega
    have sp : 0 < L1.y := by omega
    have e1 := Int.fmod_nonneg_of_pos U1.y sp
    have e2 := Int.fmod_lt_of_pos U1.y sp
    refine ⟨fun G M => (iff1 G M).trans ⟨fun h => ⟨M.mul h.1 (M.toClo.pow h.2 _), h.2⟩, fun h => ⟨M.toClo.back h.1 h.2, h.2⟩⟩, lx1, by rw [ex]; exact p1, s1, fun z => absurd (ex ▸ z) c.1, hL1, fun _ _ => by rw [ey]; exact ⟨e1, e2⟩, by rw [ex]; exact x1, ?_, ly1, ?_, la1⟩
    · rw [ey]
      exact (ly1.fmod c.2).mono (by omega)
    · simp only [cut, Pl.mul, Pl.pow]
      rw [lx1]
      have t1 : Fits 358 (-(U1.y.fdiv L1.y)) := ft.neg
      have f1 : Fits 2660 (-(U1.y.fdiv L1.y) * L1.a) := t1.mul la1 (by omega)
      have f2 : Fits 2660 (tri (-(U1.y.fdiv L1.y)) * 0 * L1.y) := by rw [Int.mul_zero, Int.zero_mul]; exact .zero
      have f3 : Fits 2660 (U1.x * (-(U1.y.fdiv L1.y) * L1.y)) := x1.mul (t1.mul ly1 (k := 715) (by omega)) (by omega)
      exact ((a1.mono (by omega : 501 ≤ 2662)).add (f1.add f2 (k := 2661) (by omega) (by omega)) (k := 2663) (by omega) (by omega)).add f3 (by omega) (by omega)
  · rw [if_neg c]
    exact ⟨iff1, lx1, p1, s1, hU1, hL1, fun h1 h2 => absurd ⟨by omega, by omega⟩ c, x1, y1.mono (by omega), ly1, a1.mono (by omega), la1⟩
end Wk
namespace Wk
set_option linter.all false
set_option maxRecDepth 100000
/-! the middles -/
def hm1 (U g : Pl) : Pl := if U.x ≠ 0 then g.mul (U.pow (-(g.x.fdiv U.x))) else g
def hm2 (L g : Pl) : Pl := if L.y ≠ 0 then g.mul (L.pow (-(g.y.fdiv L.y))) else g
def hm (U L g : Pl) : Pl := hm2 L (hm1 U g)
theorem hm1_clo {G : Pl → Prop} (c : Clo G) {U g : Pl} (hU : G U) : G g ↔ G (hm1 U g) := by
  unfold hm1
  split
  · exact ⟨fun h => c.mul h (c.pow hU _), fun h => c.back h hU⟩
  · exact Iff.rfl
theorem hm2_clo {G : Pl → Prop} (c : Clo G) {U g : Pl} (hU : G U) : G g ↔ G (hm2 U g) := by
  unfold hm2
  split
  · exact ⟨fun h => c.mul h (c.pow hU _), fun h => c.back h hU⟩
  · exact Iff.rfl
theorem hm_clo {G : Pl → Prop} (c : Clo G) {U L g : Pl} (hU : G U) (hL : G L) : G g ↔ G (hm U L g) := (hm1_clo c hU).trans (hm2_clo c hL)
/-- the ends that the two rows make -/
def Span (U L : Pl) (g : Pl) : Prop := ∃ n m : Int, g.x = n * U.x ∧ g.y = n * U.y + m * L.y
theorem span_mid (U L : Pl) : Mid (Span U L) := by
  refine ⟨⟨⟨0, 0, by simp [home], by simp [home]⟩, ?_, ?_⟩, fun a => ⟨0, 0, by simp, by simp⟩⟩
  · rintro g h ⟨n, m, a, b⟩ ⟨n', m', a', b'⟩
    exact ⟨n + n', m + m', by simp only [Pl.mul]; rw [a, a', Int.add_mul], by simp only [Pl.mul]; rw [b, b', Int.add_mul, Int.add_mul]; omega⟩
  · rintro g ⟨n, m, a, b⟩
    exact ⟨-n, -m, by simp only [Pl.inv]; rw [a, Int.neg_mul], by simp only [Pl.inv]; rw [b, Int.neg_mul, Int.neg_mul]; omega⟩
section
variable {told : List Pl} {U L g : Pl}
theorem G2.span (I : G2 told U L) (h : g ∈ told) : Span U L g :=
  ((I.iff _ (span_mid U L)).mpr ⟨⟨1, 0, by simp, by simp⟩, ⟨0, 1, by rw [I.lx]; simp, by simp⟩⟩) g h
theorem fdiv_mul_r {n p : Int} (h : p ≠ 0) : (n * p).fdiv p = n := by rw [Int.mul_comm]; exact fdiv_exact rfl h
theorem G2.hm1_x (I : G2 told U L) (h : g ∈ told) : (hm1 U g).x = 0 ∧ ∃ m, (hm1 U g).y = m * L.y := by
  obtain ⟨n, m, a, b⟩ := I.span h
  unfold hm1
  by_cases hp : U.x = 0
  · rw [if_neg (by omega)]
    have := I.u0 hp
    refine ⟨by rw [a, hp, Int.mul_zero], m, ?_⟩
    rw [b, this]
    show n * 0 + _ = _
    omega
  · rw [if_pos hp, a, fdiv_mul_r hp]
    refine ⟨by simp only [Pl.mul, Pl.pow]; rw [a, Int.neg_mul]; omega, m, ?_⟩
    simp only [Pl.mul, Pl.pow]
    rw [b, Int.neg_mul]
    omega
theorem G2.hm_0 (I : G2 told U L) (h : g ∈ told) : (hm U L g).x = 0 ∧ (hm U L g).y = 0 := by
  obtain ⟨x0, m, hy⟩ := I.hm1_x h
  unfold hm hm2
  by_cases hs : L.y = 0
  · rw [if_neg (by omega)]
    exact ⟨x0, by rw [hy, hs, Int.mul_zero]⟩
  · rw [if_pos hs, hy, fdiv_mul_r hs]
    refine ⟨by simp only [Pl.mul, Pl.pow]; rw [x0, I.lx]; omega, ?_⟩
    simp only [Pl.mul, Pl.pow]
    rw [hy, Int.neg_mul]
    omega
theorem G2.fpU (I : G2 told U L) : FPl 3000 U := ⟨I.fx.mono (by omega), I.fy.mono (by omega), I.fa.mono (by omega)⟩
theorem G2.fpL (I : G2 told U L) : FPl 3000 L := ⟨by rw [I.lx]; exact .zero, I.fs.mono (by omega), I.ft.mono (by omega)⟩
theorem G2.fp1 (I : G2 told U L) (h : g ∈ told) (b : ToldB g) : (hm1 U g).x = 0 ∧ Fits 416 (hm1 U g).y ∧ Fits 2726 (hm1 U g).a := by
  have hx := (I.hm1_x h).1
  refine ⟨hx, ?_⟩
  unfold hm1
  have t1 : Fits 57 (-(g.x.fdiv U.x)) := (b.x.fdiv _).neg
  split
  · refine ⟨?_, ?_⟩
    · exact (b.y.mono (by omega : 57 ≤ 415)).add (t1.mul I.fy (k := 415) (by omega)) (by omega) (by omega)
    · simp only [Pl.mul, Pl.pow]
      have f1 : Fits 2722 (-(g.x.fdiv U.x) * U.a) := t1.mul I.fa (by omega)
      have f2 : Fits 2722 (tri (-(g.x.fdiv U.x)) * U.x * U.y) := ((fits_tri' t1).mul I.fx (k := 173) (by omega)).mul I.fy (by omega)
      have f3 : Fits 2722 (g.x * (-(g.x.fdiv U.x) * U.y)) := b.x.mul (t1.mul I.fy (k := 415) (by omega)) (by omega)
      exact ((b.a.mono (by omega : 120 ≤ 2724)).add (f1.add f2 (k := 2723) (by omega) (by omega)) (k := 2725) (by omega) (by omega)).add f3 (by omega) (by omega)
  · exact ⟨b.y.mono (by omega), b.a.mono (by omega)⟩
where
  fits_tri' {k : Nat} {n : Int} (h : Fits k n) : Fits (2 * k + 2) (tri n) := by
    unfold tri
    have h1 : Fits (2 * k + 2) (n * (n - 1)) := h.mul (h.sub (Fits.one (a := 1) (by decide)) (k := k + 2) (by omega) (by omega)) (by omega)
    have e := fdiv_abs_le (n * (n - 1)) 2
    rw [Int.fdiv_eq_ediv_of_nonneg _ (by decide)] at e
    exact h1.le e
theorem G2.fp2 (I : G2 told U L) (h : g ∈ told) (b : ToldB g) : Fits 2728 (hm U L g).a := by
  obtain ⟨x0, fy, fa⟩ := I.fp1 h b
  unfold hm hm2
  split
  · have t1 : Fits 416 (-((hm1 U g).y.fdiv L.y)) := (fy.fdiv _).neg
    rw [area_x0 x0 I.lx]
    exact (fa.mono (by omega : 2726 ≤ 2727)).add (t1.mul I.ft (k := 2717) (by omega)) (by omega) (by omega)
  · exact fa.mono (by omega)
/-- the meeting of the two rows -/
def meet (U L : Pl) : Pl := ((U.mul (L.pow 1)).mul (U.pow (-1))).mul (L.pow (-1))
theorem G2.meet_is (I : G2 told U L) : meet U L = ⟨0, 0, U.x * L.y⟩ := by
  have h1 : tri (-1) = 1 := by decide
  apply Pl.ext' <;> simp only [meet, Pl.mul, Pl.pow, I.lx, tri_one, h1] <;> grind
end
/-! the root of the middles -/
structure G3 (U L : Pl) (homes : List Pl) (k : Nat) (R : Pl) : Prop where
  x : R.x = 0
  y : R.y = 0
  a : Fits 2730 R.a
  iff : ∀ G, Clo G → ((∀ i g, i < k → homes[i]? = some g → G g) ↔ G R)
theorem led_eq0 {g : Pl} (h1 : g.x = 0) (h2 : g.y = 0) (h3 : g.a = 0) : g = home := Pl.ext' h1 h2 h3
section
variable {U L R h : Pl} {homes : List Pl} {k : Nat}
theorem G3.start : G3 U L homes 0 home := ⟨rfl, rfl, .zero, fun G c => ⟨fun _ => c.one, fun _ i g h => absurd h (Nat.not_lt_zero _)⟩⟩
theorem G3.led (I : G3 U L homes k R) (h1 : h.x = 0) (h2 : h.y = 0) (h3 : Fits 2730 h.a) : LedOk Pl.a R h 5462 := ⟨lin_a I.x h1, fun n u l ld => by
  have L1 := lin_a I.x h1
  obtain ⟨x1, x2⟩ := ld.x0 I.x h1
  obtain ⟨y1, y2⟩ := ld.y0 I.y h2
  obtain ⟨a1, a2⟩ := led_part L1 I.a h3 ld
  exact ⟨⟨by rw [x1]; exact .zero, by rw [y1]; exact .zero, a1.mono (by omega)⟩, ⟨by rw [x2]; exact .zero, by rw [y2]; exact .zero, a2.mono (by omega)⟩, led_count L1 h3 ld, a1.mono (by omega), a2.mono (by omega)⟩⟩
theorem G3.next (I : G3 U L homes k R) (hk : homes[k]? = some h) (h1 : h.x = 0) (h2 : h.y = 0) (h3 : Fits 2730 h.a) {n : Nat} {R' Z : Pl} (ld : Led Pl.a R h n R' Z) (hz : Z.a = 0) : G3 U L homes (k + 1) R' := by
  obtain ⟨x1, x2⟩ := ld.x0 I.x h1
  obtain ⟨y1, y2⟩ := ld.y0 I.y h2
  obtain ⟨a1, a2⟩ := led_part (lin_a I.x h1) I.a h3 ld
  have z0 : Z = home := led_eq0 x2 y2 hz
  refine ⟨x1, y1, a1, fun G c => ?_⟩
  have e1 : (∀ i g, i < k + 1 → homes[i]? = some g → G g) ↔ (∀ i g, i < k → homes[i]? = some g → G g) ∧ G h := by
    constructor
    · exact fun f => ⟨fun i g hi e => f i g (by omega) e, f k h (by omega) hk⟩
    · rintro ⟨f, fg⟩ i g' hi e
      rcases Nat.lt_or_ge i k with h1 | h1
      · exact f i g' h1 e
      · have : i = k := by omega
        subst this
        rw [hk] at e
        cases e
        exact fg
  rw [e1, I.iff G c, ld.clo c, z0]
  exact ⟨fun h => h.1, fun h => ⟨h, c.one⟩⟩
end
/-! the table at last -/
def fitRow (R g : Pl) : Pl := if R.a ≠ 0 then g.mul (R.pow (-(g.a.fdiv R.a))) else g
def isEnd (g : Pl) : Bool := decide (g.x ≠ 0 ∨ g.y ≠ 0)
def tbOf (U L R : Pl) : Tb := ⟨U.x, U.y, if U.x = 0 then 0 else (fitRow R U).a, L.y, if L.y = 0 then 0 else (fitRow R L).a, R.a⟩
structure G4 (told : List Pl) (U L R : Pl) : Prop where
  two : G2 told U L
  x : R.x = 0
  y : R.y = 0
  a0 : 0 ≤ R.a
  fa : Fits 2731 R.a
  mem : ∀ g ∈ told, R.a ∣ (hm U L g).a
  ps : R.a ∣ U.x * L.y
theorem fitRow_is {R g : Pl} (hx : R.x = 0) (hy : R.y = 0) (h0 : 0 ≤ R.a) : (fitRow R g).x = g.x ∧ (fitRow R g).y = g.y ∧ (∃ k, (fitRow R g).a = g.a + k * R.a) ∧ (0 < R.a → 0 ≤ (fitRow R g).a ∧ (fitRow R g).a < R.a) := by
  unfold fitRow
  by_cases h : R.a = 0
  · rw [if_neg (by omega)]
    exact ⟨rfl, rfl, ⟨0, by omega⟩, fun z => absurd h (by omega)⟩
  · rw [if_pos h]
    have e : (g.mul (R.pow (-(g.a.fdiv R.a)))).a = g.a + -(g.a.fdiv R.a) * R.a := by
      simp only [Pl.mul, Pl.pow, hx, hy]
      grind
    have p : 0 < R.a := by omega
    have d := Int.fmod_add_fdiv_mul g.a R.a
    have e1 := Int.fmod_nonneg_of_pos g.a p
    have e2 := Int.fmod_lt_of_pos g.a p
    refine ⟨?_, ?_, ⟨_, e⟩, fun _ => ?_⟩
    · simp only [Pl.mul, Pl.pow, hx]; omega
    · simp only [Pl.mul, Pl.pow, hy]; omega
    · rw [e]
      generalize g.a.fdiv R.a = t at *
      rw [Int.neg_mul]
      omega
section
variable {told : List Pl} {U L R : Pl}
theorem G4.ok (I : G4 told U L R) : (tbOf U L R).Ok := by
  have fU := fitRow_is (g := U) I.x I.y I.a0
  have fL := fitRow_is (g := L) I.x I.y I.a0
  refine ⟨I.two.p0, I.two.s0, I.a0, fun h => ⟨?_, if_pos h⟩, fun h => if_pos h, fun h1 h2 => ?_, I.ps, fun h => ?_⟩
  · have := I.two.u0 h
    show U.y = 0
    rw [this]
    rfl
  · have h1' : 0 < U.x := h1
    have h2' : 0 < L.y := h2
    have q := I.two.q0 h1' h2'
    refine ⟨q.1, q.2, ?_⟩
    show 0 < R.a
    rcases Int.lt_or_eq_of_le I.a0 with h | h
    · exact h
    · exfalso
      have := I.ps
      rw [← h] at this
      have := Int.zero_dvd.mp this
      rcases Int.mul_eq_zero.mp this with z | z <;> omega
  · have h' : 0 < R.a := h
    show 0 ≤ (if U.x = 0 then 0 else (fitRow R U).a) ∧ (if U.x = 0 then 0 else (fitRow R U).a) < R.a ∧ 0 ≤ (if L.y = 0 then 0 else (fitRow R L).a) ∧ (if L.y = 0 then 0 else (fitRow R L).a) < R.a
    have a1 := fU.2.2.2 h'
    have a2 := fL.2.2.2 h'
    refine ⟨?_, ?_, ?_, ?_⟩ <;> split <;> omega
theorem G4.u (I : G4 told U L R) (h : U.x ≠ 0) : (tbOf U L R).u = fitRow R U := by
  have f := fitRow_is (g := U) I.x I.y I.a0
  apply Pl.ext'
  · exact f.1.symm
  · exact f.2.1.symm
  · show (if U.x = 0 then 0 else (fitRow R U).a) = _
    rw [if_neg h]
theorem G4.v (I : G4 told U L R) (h : L.y ≠ 0) : (tbOf U L R).v = fitRow R L := by
  have f := fitRow_is (g := L) I.x I.y I.a0
  apply Pl.ext'
  · exact I.two.lx.symm.trans f.1.symm
  · exact f.2.1.symm
  · show (if L.y = 0 then 0 else (fitRow R L).a) = _
    rw [if_neg h]
theorem isEnd_U (I : G4 told U L R) : isEnd U = decide (U.x ≠ 0) := by
  unfold isEnd
  by_cases h : U.x = 0
  · have := I.two.u0 h
    subst this
    decide
  · rw [decide_eq_true h, decide_eq_true (Or.inl h)]
theorem isEnd_L (I : G4 told U L R) : isEnd L = decide (L.y ≠ 0) := by
  unfold isEnd
  have := I.two.lx
  by_cases h : L.y = 0
  · rw [decide_eq_false (by omega), decide_eq_false (by omega)]
  · rw [decide_eq_true h, decide_eq_true (Or.inr h)]
theorem G4.rows (I : G4 told U L R) : (([U, L].filter isEnd).map (fitRow R)) = (tbOf U L R).rows := by
  have p0 := I.two.p0
  have s0 := I.two.s0
  have e1 : decide (U.x ≠ 0) = decide (0 < (tbOf U L R).p) := by
    show _ = decide (0 < U.x)
    by_cases h : U.x = 0
    · rw [decide_eq_false (by omega), decide_eq_false (by omega)]
    · rw [decide_eq_true h, decide_eq_true (by omega)]
  have e2 : decide (L.y ≠ 0) = decide (0 < (tbOf U L R).s) := by
    show _ = decide (0 < L.y)
    by_cases h : L.y = 0
    · rw [decide_eq_false (by omega), decide_eq_false (by omega)]
    · rw [decide_eq_true h, decide_eq_true (by omega)]
  unfold Tb.rows
  simp only [List.filter, isEnd_U I, isEnd_L I, e1, e2]
  by_cases h1 : 0 < (tbOf U L R).p
  · have h1' : U.x ≠ 0 := by have : 0 < U.x := h1; omega
    by_cases h2 : 0 < (tbOf U L R).s
    · have h2' : L.y ≠ 0 := by have : 0 < L.y := h2; omega
      simp [h1, h2, I.u h1', I.v h2']
    · simp [h1, h2, I.u h1']
  · by_cases h2 : 0 < (tbOf U L R).s
    · have h2' : L.y ≠ 0 := by have : 0 < L.y := h2; omega
      simp [h1, h2, I.v h2']
    · simp [h1, h2]
theorem G4.memC (I : G4 told U L R) {g : Pl} (hx : g.x = 0) (hy : g.y = 0) (ha : R.a ∣ g.a) : (tbOf U L R).Mem g := by
  obtain ⟨k, hk⟩ := ha
  have e : g = ⟨0, 0, k * (tbOf U L R).c⟩ := Pl.ext' hx hy (by rw [hk, Int.mul_comm]; rfl)
  rw [e]
  exact Tb.mem_c _ k
theorem G4.memF (I : G4 told U L R) {g : Pl} (h : (tbOf U L R).Mem (fitRow R g)) : (tbOf U L R).Mem g := by
  obtain ⟨h1, h2, ⟨k, h3⟩, _⟩ := fitRow_is (g := g) I.x I.y I.a0
  have := h.shift (b := g.a) ⟨-k, by rw [h3]; show _ = R.a * -k; grind⟩
  rw [h1, h2] at this
  exact this
theorem G4.memU (I : G4 told U L R) : (tbOf U L R).Mem U := by
  by_cases h : U.x = 0
  · have h0 := (Tb.clo I.ok.dv).one
    rwa [← I.two.u0 h] at h0
  · refine I.memF ?_
    rw [← I.u h]
    exact Tb.mem_u _
theorem G4.memL (I : G4 told U L R) : (tbOf U L R).Mem L := by
  by_cases h : L.y = 0
  · have h0 := (Tb.clo I.ok.dv).one
    rwa [← I.two.l0 h] at h0
  · refine I.memF ?_
    rw [← I.v h]
    exact Tb.mem_v _
theorem G4.told_mem (I : G4 told U L R) {g : Pl} (h : g ∈ told) : (tbOf U L R).Mem g :=
  (hm_clo (Tb.clo I.ok.dv) I.memU I.memL).mpr (I.memC (I.two.hm_0 h).1 (I.two.hm_0 h).2 (I.mem g h))
/-- a form that is nothing at all that is told is nothing at the rows -/
theorem line_mid (a b : Int) : Mid fun g : Pl => a * g.x + b * g.y = 0 := by
  refine ⟨⟨by simp [home], fun h1 h2 => ?_, fun h => ?_⟩, fun c => by simp⟩
  · simp only [Pl.mul]; grind
  · simp only [Pl.inv]; grind
theorem fits_dvd {k : Nat} {a b : Int} (h : Fits k b) (d : a ∣ b) (hb : b ≠ 0) : Fits k a := by
  have := Nat.le_of_dvd (Int.natAbs_pos.mpr hb) (Int.natAbs_dvd_natAbs.mpr d)
  exact h.le this
theorem G2.ends (I : G2 told U L) (hb : ∀ g ∈ told, ToldB g) : Fits 118 U.x ∧ Fits 118 U.y ∧ Fits 118 L.y := by
  have iff := I.iff
  by_cases hp : U.x = 0
  · have hu := I.u0 hp
    refine ⟨by rw [hp]; exact .zero, by rw [hu]; exact .zero, ?_⟩
    by_cases hs : L.y = 0
    · rw [hs]; exact .zero
    · -- some told point has a second number
      have : ∃ g ∈ told, g.y ≠ 0 := by
        refine Classical.byContradiction fun hn => hs ?_
        have := ((iff _ (line_mid 0 1)).mp fun g hg => by
          have : ¬ g.y ≠ 0 := fun z => hn ⟨g, hg, z⟩
          have : g.y = 0 := by omega
          simp [this]).2
        omega
      obtain ⟨g, hg, hy⟩ := this
      obtain ⟨n, m, a, b⟩ := I.span hg
      have e : U.y = 0 := by rw [hu]; rfl
      rw [e] at b
      exact fits_dvd ((hb g hg).y.mono (by omega)) ⟨m, by rw [b]; grind⟩ hy
  · -- some told point has a first number
    obtain ⟨g, hg, hx⟩ : ∃ g ∈ told, g.x ≠ 0 := by
      refine Classical.byContradiction fun hn => hp ?_
      have := ((iff _ (line_mid 1 0)).mp fun g hg => by
        have : ¬ g.x ≠ 0 := fun z => hn ⟨g, hg, z⟩
        have : g.x = 0 := by omega
        simp [this]).1
      omega
    obtain ⟨n, m, a, b⟩ := I.span hg
    have fx := I.fx.mono (by omega : 57 ≤ 118)
    by_cases hs : L.y = 0
    · refine ⟨fx, ?_, by rw [hs]; exact .zero⟩
      rw [hs, Int.mul_zero, Int.add_zero] at b
      have n0 : n ≠ 0 := fun z => hx (by rw [a, z, Int.zero_mul])
      by_cases hy : g.y = 0
      · rw [hy] at b
        rcases Int.mul_eq_zero.mp b.symm with z | z
        · exact absurd z n0
        · rw [z]; exact .zero
      · exact fits_dvd ((hb g hg).y.mono (by omega)) ⟨n, by rw [b]; grind⟩ hy
    · obtain ⟨g', hg', hm⟩ : ∃ g' ∈ told, g.x * g'.y - g.y * g'.x ≠ 0 := by
        refine Classical.byContradiction fun hn => hs ?_
        have h2 := ((iff _ (line_mid (-g.y) g.x)).mp fun g' hg' => by
          have h3 : ¬ (g.x * g'.y - g.y * g'.x ≠ 0) := fun z => hn ⟨g', hg', z⟩
          have h4 : g.x * g'.y - g.y * g'.x = 0 := by omega
          show -g.y * g'.x + g.x * g'.y = 0
          rw [Int.neg_mul]
          omega).2
        have h5 : -g.y * L.x + g.x * L.y = 0 := h2
        rw [I.lx, Int.mul_zero, Int.zero_add] at h5
        rcases Int.mul_eq_zero.mp h5 with z | z
        · exact absurd z hx
        · exact z
      obtain ⟨n', m', a', b'⟩ := I.span hg'
      have fm : Fits 115 (g.x * g'.y - g.y * g'.x) := ((hb g hg).x.mul (hb g' hg').y (k := 114) (by omega)).sub ((hb g hg).y.mul (hb g' hg').x (k := 114) (by omega)) (by omega) (by omega)
      have fs : Fits 118 L.y := fits_dvd (fm.mono (by omega)) ⟨U.x * (n * m' - m * n'), by rw [a, a', b, b']; grind⟩ hm
      have q := I.q0 (by have := I.p0; omega) (by have := I.s0; omega)
      exact ⟨fx, fs.le (by omega), fs⟩
theorem dvd_mid (c : Int) : Clo fun g : Pl => g.x = 0 ∧ g.y = 0 ∧ c ∣ g.a := by
  refine ⟨⟨rfl, rfl, ⟨0, by simp [home]⟩⟩, fun h1 h2 => ?_, fun h => ?_⟩
  · obtain ⟨a, b, c⟩ := h1
    obtain ⟨a', b', c'⟩ := h2
    refine ⟨by simp only [Pl.mul]; omega, by simp only [Pl.mul]; omega, ?_⟩
    simp only [Pl.mul]
    rw [a, Int.zero_mul, Int.add_zero]
    exact Int.dvd_add c c'
  · obtain ⟨a, b, c⟩ := h
    refine ⟨by simp only [Pl.inv]; omega, by simp only [Pl.inv]; omega, ?_⟩
    simp only [Pl.inv]
    rw [a, Int.zero_mul, Int.zero_sub]
    exact Int.dvd_neg.mpr c
/-- the middles of all that is told, and the meeting of two rows -/
def homesOf (told : List Pl) (U L : Pl) : List Pl := told.map (hm U L) ++ (if U.x ≠ 0 ∧ L.y ≠ 0 then [meet U L] else [])
theorem G2.done {R R1 : Pl} (I : G2 told U L) (h : G3 U L (homesOf told U L) (homesOf told U L).length R) (r : Right Pl.a R R1) : G4 told U L R1 := by
  have xy : R1.x = 0 ∧ R1.y = 0 := ⟨(r.clo zer_clo).mp h.x, (r.clo zery_clo).mp h.y⟩
  have a0 : 0 ≤ R1.a := by
    rcases r with ⟨h1, rfl⟩ | ⟨h1, rfl⟩
    · show 0 ≤ R.x * R.y - R.a
      rw [h.x, Int.zero_mul]
      omega
    · exact h1
  have fa : Fits 2731 R1.a := by
    rcases r with ⟨h1, rfl⟩ | ⟨h1, rfl⟩
    · show Fits 2731 (R.x * R.y - R.a)
      rw [h.x, Int.zero_mul]
      exact (Fits.zero (a := 2730)).sub h.a (by omega) (by omega)
    · exact h.a.mono (by omega)
  have all : ∀ g ∈ homesOf told U L, R1.a ∣ g.a := fun g hg => by
    obtain ⟨i, hi⟩ := List.getElem?_of_mem hg
    have c := dvd_mid R1.a
    exact ((h.iff _ c).mpr ((r.clo c).mpr ⟨xy.1, xy.2, Int.dvd_refl _⟩) i g (List.getElem?_eq_some_iff.mp hi).1 hi).2.2
  refine ⟨I, xy.1, xy.2, a0, fa, fun g hg => all _ (List.mem_append_left _ (List.mem_map_of_mem hg)), ?_⟩
  by_cases c : U.x ≠ 0 ∧ L.y ≠ 0
  · have := all (meet U L) (List.mem_append_right _ (by rw [if_pos c]; exact List.mem_singleton.mpr rfl))
    rw [I.meet_is] at this
    exact this
  · have : U.x = 0 ∨ L.y = 0 := by omega
    have e : U.x * L.y = 0 := Int.mul_eq_zero.mpr this
    rw [e]
    exact Int.dvd_zero _
theorem G2.homes_ok (I : G2 told U L) (hb : ∀ g ∈ told, ToldB g) {g : Pl} (hg : g ∈ homesOf told U L) : g.x = 0 ∧ g.y = 0 ∧ Fits 2730 g.a := by
  rcases List.mem_append.mp hg with h | h
  · obtain ⟨g', h', rfl⟩ := List.mem_map.mp h
    exact ⟨(I.hm_0 h').1, (I.hm_0 h').2, (I.fp2 h' (hb g' h')).mono (by omega)⟩
  · split at h
    · cases List.mem_singleton.mp h
      rw [I.meet_is]
      exact ⟨rfl, rfl, I.fx.mul I.fs (by omega)⟩
    · cases h
end
end Wk
namespace Wk
set_option linter.all false
set_option maxRecDepth 100000
set_option maxHeartbeats 4000000
open PySem L2
def top (i : Nat) : Stmt := PySem.Challenge.pw_areawalks_k31_whole_products_of_tables.main.body.getD i (.Pass ⟨0, 0, 0, 0⟩)

/-! ### steps: a reading from the left -/
section
variable {t u : TS} {N : L2.St → Hp → Prop} {R : VK} {B C : L2.St → Hp → Prop} {σ : L2.St} {H : Hp} {te ta tb : TE} {tt tu : TT} {tr : TA} {Q : VK} {v x y : V}
theorem rd_seq (h : t ⟨u ⟨N, R, B, C⟩, R, B, C⟩ σ H) : tSeq t u ⟨N, R, B, C⟩ σ H := h
theorem rd_asg {i : Nat} (h : te σ H fun x H1 => N (σ.set i (some x)) H1) : tAsg te (gName i) ⟨N, R, B, C⟩ σ H := h
theorem rd_asgG {g : TG} (h : te σ H fun x H1 => g x σ H1 N) : tAsg te g ⟨N, R, B, C⟩ σ H := h
theorem rd_par {i j : Nat} {e1 e2 : TE} (h : e1 σ H fun v H1 => e2 σ H1 fun w H2 => N ((σ.set i (some v)).set j (some w)) H2) : tPar i j (tCons e1 (tCons e2 tNil)) ⟨N, R, B, C⟩ σ H := by
  show e1 σ H fun v H1 => e2 σ H1 fun w H2 => ∃ v' w', [v, w] = [v', w'] ∧ N ((σ.set i (some v')).set j (some w')) H2
  have e : (fun v H1 => e2 σ H1 fun w H2 => ∃ v' w', [v, w] = [v', w'] ∧ N ((σ.set i (some v')).set j (some w')) H2) = fun v H1 => e2 σ H1 fun w H2 => N ((σ.set i (some v)).set j (some w)) H2 := by
    funext v H1
    congr 1
    funext w H2
    refine propext ⟨fun ⟨v', w', e, h⟩ => ?_, fun h => ⟨v, w, rfl, h⟩⟩
    have e1 := List.cons.inj e
    have e2 := (List.cons.inj e1.2).1
    rw [e1.1, e2]
    exact h
  rw [e]
  exact h
theorem rd_ret (h : te σ H R) : tRet te ⟨N, R, B, C⟩ σ H := h
theorem rd_retN (h : R .non H) : tRetN ⟨N, R, B, C⟩ σ H := h
theorem rd_drop (h : te σ H fun _ H1 => N σ H1) : tDrop te ⟨N, R, B, C⟩ σ H := h
theorem rd_next (h : N σ H) : tNext ⟨N, R, B, C⟩ σ H := h
theorem rd_ifs (h : tt σ H fun b H1 => if b = true then t ⟨N, R, B, C⟩ σ H1 else u ⟨N, R, B, C⟩ σ H1) : tIfS tt t u ⟨N, R, B, C⟩ σ H := h
theorem rd_var {i : Nat} (e : σ[i]? = some (some v)) (h : Q v H) : tVar i σ H Q := ⟨v, e, h⟩
theorem rd_c (h : Q v H) : tC v σ H Q := h
theorem rd_op {r : R2} (h : ta σ H fun x H1 => tb σ H1 fun y H2 => r x y H2 Q) : tOp r ta tb σ H Q := h
theorem rd_un {r : V → Hp → VK → Prop} (h : ta σ H fun x H1 => r x H1 Q) : tUn r ta σ H Q := h
theorem rd_cb {r : List V → Hp → VK → Prop} (h : tr σ H fun vs H1 => r vs H1 Q) : tCB r tr σ H Q := h
theorem rd_nil {Q : List V → Hp → Prop} (h : Q [] H) : tNil σ H Q := h
theorem rd_cons {Q : List V → Hp → Prop} (h : te σ H fun x H1 => tr σ H1 fun xs H2 => Q (x :: xs) H2) : tCons te tr σ H Q := h
theorem rd_I0 {g : Int → Int → V} {i j : Int} (h : Q (g i j) H) : rI0 g (.int i) (.int j) H Q := ⟨i, j, rfl, rfl, h⟩
theorem rd_I {P : Int → Int → Prop} {g : Int → Int → V} {i j : Int} (c : P i j) (h : Q (g i j) H) : rI P g (.int i) (.int j) H Q := ⟨i, j, rfl, rfl, c, h⟩
theorem rd_U {g : Int → V} {i : Int} (h : Q (g i) H) : rU g (.int i) H Q := ⟨i, rfl, h⟩
theorem rd_eq (c : scal x y = true) (h : Q (.bl (decide (x = y))) H) : rEq x y H Q := ⟨c, h⟩
theorem rd_ne (c : scal x y = true) (h : Q (.bl (!decide (x = y))) H) : rNe x y H Q := ⟨c, h⟩
theorem int_eq_dec (i j : Int) : decide (V.int i = V.int j) = decide (i = j) := by
  by_cases h : i = j
  · subst h; simp
  · rw [decide_eq_false h, decide_eq_false]
    intro e
    exact h (V.int.inj e)
theorem rd_eqI {i j : Int} (h : Q (.bl (decide (i = j))) H) : rEq (.int i) (.int j) H Q := ⟨rfl, by rw [int_eq_dec]; exact h⟩
theorem rd_neI {i j : Int} (h : Q (.bl (!decide (i = j))) H) : rNe (.int i) (.int j) H Q := ⟨rfl, by rw [int_eq_dec]; exact h⟩
theorem rd_test {Q : Bool → Hp → Prop} (h : te σ H fun x H1 => ∃ k, x = .bl k ∧ Q k H1) : tTest te σ H Q := h
theorem rd_bl {b : Bool} {Q : Bool → Prop} (h : Q b) : ∃ k, V.bl b = .bl k ∧ Q k := ⟨b, rfl, h⟩
theorem rd_not {Q : Bool → Hp → Prop} (h : tt σ H fun c H1 => Q (!c) H1) : tNot tt σ H Q := h
theorem rd_and {Q : Bool → Hp → Prop} (h : tt σ H fun c H1 => if c = true then tu σ H1 Q else Q false H1) : tAnd tt tu σ H Q := h
theorem rd_or {Q : Bool → Hp → Prop} (h : tt σ H fun c H1 => if c = true then Q true H1 else tu σ H1 Q) : tOr tt tu σ H Q := h
theorem rd_if (h : tt σ H fun c H1 => if c = true then ta σ H1 Q else tb σ H1 Q) : tIf tt ta tb σ H Q := h
theorem rd_truI {i : Int} {Q : Bool → Prop} {K : PySem.W.Frag} (h : Q (i != 0)) : ∃ k, TruV K (.int i) H k ∧ Q k := ⟨_, rfl, h⟩
theorem rd_join {b : Bool} {f g : TE} {x y : V} (hf : ∀ Q : VK, Q x H → f σ H Q) (hg : ∀ Q : VK, Q y H → g σ H Q) (h : Q (if b = true then x else y) H) : if b = true then f σ H Q else g σ H Q := by
  cases b with
  | true => exact hf _ h
  | false => exact hg _ h
theorem rd_joinD {c : Prop} [Decidable c] {f g : TE} {x y : V} (hf : c → ∀ Q : VK, Q x H → f σ H Q) (hg : ¬ c → ∀ Q : VK, Q y H → g σ H Q) (h : Q (if decide c = true then x else y) H) : if decide c = true then f σ H Q else g σ H Q := by
  by_cases hc : c
  · rw [decide_eq_true hc] at h ⊢; exact hf hc _ h
  · rw [decide_eq_false hc] at h ⊢; exact hg hc _ h
theorem rd_joinB {i : Int} {f g : TE} {x y : V} (hf : i ≠ 0 → ∀ Q : VK, Q x H → f σ H Q) (hg : i = 0 → ∀ Q : VK, Q y H → g σ H Q) (h : Q (if (i != 0) = true then x else y) H) : if (i != 0) = true then f σ H Q else g σ H Q := by
  by_cases hc : i = 0
  · subst hc; exact hg rfl _ h
  · have e : (i != 0) = true := by simp [hc]
    rw [e] at h ⊢
    exact hf hc _ h
theorem rd_joinT {i : Int} {f g : TE} {w : List V} {r : List V → Hp → VK → Prop} (hf : i ≠ 0 → ∀ Q : VK, r w H Q → f σ H Q) (hg : i = 0 → ∀ Q : VK, r w H Q → g σ H Q) (h : r w H Q) : if (i != 0) = true then f σ H Q else g σ H Q := by
  by_cases hc : i = 0
  · subst hc; exact hg rfl _ h
  · have e : (i != 0) = true := by simp [hc]
    rw [e]
    exact hf hc _ h
theorem rd_ixT {K : PySem.W.Frag} {p : Addr} {xs : List V} {i : Int} (h : H p = some (.tup xs)) (e : atI xs i = some v) (k : Q v H) : rIxT K (.ref p) (.int i) H Q := ⟨p, xs, i, v, rfl, rfl, SqT.of h, e, k⟩
theorem rd_ixL {K : PySem.W.Frag} {p : Addr} {xs : List V} {i : Int} (h : H p = some (.lst xs)) (e : atI xs i = some v) (k : Q v H) : rIxL K (.ref p) (.int i) H Q := ⟨p, xs, i, v, rfl, rfl, SqL.of h, e, k⟩
def rFld (K : PySem.W.Frag) (f : Str) : V → Hp → VK → Prop := fun x H1 Q => ∃ a C dx fs v, x = .ref a ∧ H1 a = some (.ins C dx fs) ∧ Cls K C ∧ NoAttr K C f ∧ fs.lookup f = some v ∧ Q v H1
theorem rd_fld {K : PySem.W.Frag} {f : Str} (h : te σ H fun x H1 => rFld K f x H1 Q) : tFld K te f σ H Q := h
theorem rd_gtup {K : PySem.W.Frag} {n : Nat} {g : TGs} {p : Addr} {xs : List V} {G : L2.St → Hp → Prop} (h : H p = some (.tup xs)) (l : xs.length = n) (k : g xs σ H G) : gTup K n g (.ref p) σ H G := ⟨p, xs, rfl, SqT.of h, l, k⟩
theorem rd_gcons {t : TG} {u : TGs} {v : V} {r : List V} {G : L2.St → Hp → Prop} (k : t v σ H fun σ' H' => u r σ' H' G) : gCons t u (v :: r) σ H G := ⟨v, r, rfl, k⟩
theorem rd_gnil {G : L2.St → Hp → Prop} (k : G σ H) : gNil [] σ H G := ⟨rfl, k⟩
theorem rd_gname {i : Nat} {v : V} {G : L2.St → Hp → Prop} (k : G (σ.set i (some v)) H) : gName i v σ H G := k
theorem rd_t {X Y : Prop} (h : X) : if true = true then X else Y := h
theorem rd_f {X Y : Prop} (h : Y) : if false = true then X else Y := h
theorem rd_nt {X Y : Prop} (h : Y) : if (!true) = true then X else Y := h
theorem rd_nf {X Y : Prop} (h : X) : if (!false) = true then X else Y := h
theorem rd_andV (h : ta σ H fun x H1 => ∃ c, x = .bl c ∧ if c = true then tb σ H1 Q else Q (.bl false) H1) : tAndV ta tb σ H Q := h
theorem rd_orV (h : ta σ H fun x H1 => ∃ c, x = .bl c ∧ if c = true then Q (.bl true) H1 else tb σ H1 Q) : tOrV ta tb σ H Q := h
theorem rd_notV (h : ta σ H fun x H1 => ∃ c, x = .bl c ∧ Q (.bl (!c)) H1) : tNotV ta σ H Q := h
theorem rd_B {Q : Bool → Hp → Prop} (h : te σ H fun x H1 => ∃ c, x = .bl c ∧ Q c H1) : tB te σ H Q := h
/-! loops and comprehensions -/
def forBody (σ : L2.St) (g : TG) (tb : TS) (N : L2.St → Hp → Prop) (R : VK) (J : It) (H1 : Hp) : Prop := ∃ W : Nat → Nat → L2.St → Hp → Prop, (∃ m, W 0 m σ H1) ∧ ∀ i m σ H, W i m σ H →
  (J.stop i H ∧ N σ H) ∨ (J.go i H ∧ ∃ M : L2.St → Hp → Prop, (∀ σ' H', M σ' H' → ∃ m', m' < m ∧ W (i + 1) m' σ' H') ∧ ∀ x H', J.yld i H x H' → g x σ H' fun σ2 H2 => tb ⟨M, R, N, M⟩ σ2 H2)
theorem rd_for {wi : TI} {g : TG} {tb : TS} (h : wi σ H (forBody σ g tb N R)) : tFor wi g tb ⟨N, R, B, C⟩ σ H := h
def rItT (K : PySem.W.Frag) (F : It → Hp → Prop) (x : V) (H1 : Hp) : Prop := ∃ a, x = .ref a ∧ (∃ xs, SqT K H1 a xs) ∧ F (Itt K a) H1
def rItL (K : PySem.W.Frag) (F : It → Hp → Prop) (x : V) (H1 : Hp) : Prop := ∃ a, x = .ref a ∧ (∃ xs, SqL K H1 a xs) ∧ F (Itl K a) H1
theorem rd_iT {K : PySem.W.Frag} {F : It → Hp → Prop} (h : te σ H (rItT K F)) : iTup K te σ H F := h
theorem rd_iL {K : PySem.W.Frag} {F : It → Hp → Prop} (h : te σ H (rItL K F)) : iList K te σ H F := h
theorem rd_forT {K : PySem.W.Frag} {g : TG} {tb : TS} {p : Addr} {xs : List V} (h : H p = some (.tup xs)) (Pv : Nat → L2.St → Hp → Prop) (h0 : Pv 0 σ H) (hl : ∀ i σ' H', i ≤ xs.length → Pv i σ' H' → H' p = some (.tup xs))
    (hs : ∀ i x σ' H', xs[i]? = some x → Pv i σ' H' → g x σ' H' fun σ2 H2 => tb ⟨Pv (i + 1), R, N, Pv (i + 1)⟩ σ2 H2) (hd : ∀ σ' H', Pv xs.length σ' H' → N σ' H') : rItT K (forBody σ g tb N R) (.ref p) H :=
  ⟨p, rfl, ⟨xs, SqT.of h⟩, for_tup (D := ⟨N, R, fun _ _ => False, fun _ _ => False⟩) Pv h0 (fun i σ' H' hi q => SqT.of (hl i σ' H' hi q)) hs hd⟩
theorem rd_forL {K : PySem.W.Frag} {g : TG} {tb : TS} {p : Addr} {xs : List V} (h : H p = some (.lst xs)) (Pv : Nat → L2.St → Hp → Prop) (h0 : Pv 0 σ H) (hl : ∀ i σ' H', i ≤ xs.length → Pv i σ' H' → H' p = some (.lst xs))
    (hs : ∀ i x σ' H', xs[i]? = some x → Pv i σ' H' → g x σ' H' fun σ2 H2 => tb ⟨Pv (i + 1), R, N, Pv (i + 1)⟩ σ2 H2) (hd : ∀ σ' H', Pv xs.length σ' H' → N σ' H') : rItL K (forBody σ g tb N R) (.ref p) H :=
  ⟨p, rfl, ⟨xs, SqL.of h⟩, for_list (D := ⟨N, R, fun _ _ => False, fun _ _ => False⟩) Pv h0 (fun i σ' H' hi q => SqL.of (hl i σ' H' hi q)) hs hd⟩
theorem rd_forR1 {ta : TA} {g : TG} {tb : TS} (h : ta σ H fun vs H1 => ∃ j : Int, vs = [.int j] ∧ -(2 ^ 62) ≤ j ∧ j < 2 ^ 62 ∧ forBody σ g tb N R (Itr 0 j.toNat) H1) : tFor (iRng1 ta) g tb ⟨N, R, B, C⟩ σ H := h
theorem rd_forR2 {ta : TA} {g : TG} {tb : TS} (h : ta σ H fun vs H1 => ∃ i j : Int, vs = [.int i, .int j] ∧ (-(2 ^ 62) ≤ i ∧ i < 2 ^ 62 ∧ -(2 ^ 62) ≤ j ∧ j < 2 ^ 62) ∧ forBody σ g tb N R (Itr i (j - i).toNat) H1) : tFor (iRng2 ta) g tb ⟨N, R, B, C⟩ σ H := h
theorem rd_rng {g : TG} {tb : TS} {lo : Int} {n : Nat} (Pv : Nat → L2.St → Hp → Prop) (h0 : Pv 0 σ H)
    (hs : ∀ i σ' H', i < n → Pv i σ' H' → g (.int (lo + (i : Int))) σ' H' fun σ2 H2 => tb ⟨Pv (i + 1), R, N, Pv (i + 1)⟩ σ2 H2) (hd : ∀ σ' H', Pv n σ' H' → N σ' H') : forBody σ g tb N R (Itr lo n) H :=
  for_range (D := ⟨N, R, fun _ _ => False, fun _ _ => False⟩) Pv h0 hs hd
def lcBody (σ : L2.St) (g : TG) (te : TE) (vs : List Nat) (Q : VK) (J : It) (H1 : Hp) : Prop := ∀ D, H1 D = none → ∃ W : Nat → Nat → Hp → Prop, (∃ m, W 0 m (upd H1 D (.lst []))) ∧ ∀ i m H, W i m H →
  (J.stop i H ∧ Q (.ref D) H) ∨ (J.go i H ∧ ∃ Nx : Hp → Prop, (∀ H', Nx H' → ∃ m', m' < m ∧ W (i + 1) m' H') ∧ ∀ x H', J.yld i H x H' → g x (wipe σ vs) H' fun σ2 H2 => wipe σ2 vs = wipe σ vs ∧ tYes σ2 H2 fun b H3 =>
    if b = true then te σ2 H3 fun y H4 => ∃ acc, H4 D = some (.lst acc) ∧ acc.length < sizeLine ∧ Nx (upd H4 D (.lst (acc ++ [y]))) else Nx H3)
theorem rd_lc {wi : TI} {g : TG} {vs : List Nat} (h : wi σ H (lcBody σ g te vs Q)) : tLc wi g tYes te vs σ H Q := h
def rTru (K : PySem.W.Frag) (Q : Bool → Hp → Prop) (x : V) (H1 : Hp) : Prop := ∃ k, TruV K x H1 k ∧ Q k H1
def tTru (K : PySem.W.Frag) (te : TE) : TT := fun σ H Q => te σ H (rTru K Q)
theorem rd_tru {K : PySem.W.Frag} {Q : Bool → Hp → Prop} (h : te σ H (rTru K Q)) : tTru K te σ H Q := h
theorem rd_truInt {K : PySem.W.Frag} {Q : Bool → Hp → Prop} {i : Int} (h : Q (i != 0) H) : rTru K Q (.int i) H := ⟨_, rfl, h⟩
theorem rd_while {c : TT} {tb : TS} (W : Nat → L2.St → Hp → Prop) (m0 : Nat) (h0 : W m0 σ H)
    (hs : ∀ m σ' H', W m σ' H' → c σ' H' fun b H1 => if b = true then ∃ M : L2.St → Hp → Prop, (∀ σ2 H2, M σ2 H2 → ∃ m', m' < m ∧ W m' σ2 H2) ∧ tb ⟨M, R, N, M⟩ σ' H1 else N σ' H1) : tWhile c tb ⟨N, R, B, C⟩ σ H :=
  ⟨W, ⟨m0, h0⟩, hs⟩
theorem rd_turn {tb : TS} {W : Nat → L2.St → Hp → Prop} {m : Nat} (h : tb ⟨fun σ2 H2 => ∃ m', m' < m ∧ W m' σ2 H2, R, N, fun σ2 H2 => ∃ m', m' < m ∧ W m' σ2 H2⟩ σ H) :
    ∃ M : L2.St → Hp → Prop, (∀ σ2 H2, M σ2 H2 → ∃ m', m' < m ∧ W m' σ2 H2) ∧ tb ⟨M, R, N, M⟩ σ H := ⟨_, fun _ _ h => h, h⟩
theorem rd_dec {c : Prop} [Decidable c] {X Y : Prop} (h1 : c → X) (h2 : ¬ c → Y) : if decide c = true then X else Y := by
  by_cases h : c
  · rw [decide_eq_true h]; exact h1 h
  · rw [decide_eq_false h]; exact h2 h
theorem rd_ndec {c : Prop} [Decidable c] {X Y : Prop} (h1 : ¬ c → X) (h2 : c → Y) : if (!decide c) = true then X else Y := by
  by_cases h : c
  · rw [decide_eq_true h]; exact h2 h
  · rw [decide_eq_false h]; exact h1 h
theorem rd_bne {i : Int} {X Y : Prop} (h1 : i ≠ 0 → X) (h2 : i = 0 → Y) : if (i != 0) = true then X else Y := by
  by_cases h : i = 0
  · subst h; exact h2 rfl
  · have e : (i != 0) = true := by simp [h]
    rw [e]; exact h1 h
theorem rd_nbne {i : Int} {X Y : Prop} (h1 : i = 0 → X) (h2 : i ≠ 0 → Y) : if (!(i != 0)) = true then X else Y := by
  by_cases h : i = 0
  · subst h; exact h1 rfl
  · have e : (i != 0) = true := by simp [h]
    rw [e]; exact h2 h
end
theorem same_new {H : Hp} {p : Addr} {o : HO} (h : H p = none) : Same H (upd H p o) := fun b u e => by rw [upd_ne (ne_of_none e h)]; exact e
/-! ### rules of our own -/
theorem opImp {X : Cx} {f : Value → Value → Sem Value} {r r' : R2} (h : OpR X f r) (w : ∀ x y H Q, r' x y H Q → r x y H Q) : OpR X f r' := fun pins s σ H x y v u Q I r1 r2 z => h pins s σ H x y v u Q I r1 r2 (w _ _ _ _ z)
theorem clImp {X : Cx} {f : Value} {r r' : List V → Hp → VK → Prop} (h : CallR X f r) (w : ∀ xs H Q, r' xs H Q → r xs H Q) : CallR X f r' := fun pins s σ H xs us Q I r1 z => h pins s σ H xs us Q I r1 (w _ _ _ z)
/-- items laid in a new tuple, a new list -/
def rTup : List V → Hp → VK → Prop := fun vs H Q => vs.length ≤ sizeLine ∧ ∀ p H', H p = none → Same H H' → H' p = some (.tup vs) → Q (.ref p) H'
def rLst : List V → Hp → VK → Prop := fun vs H Q => vs.length ≤ sizeLine ∧ ∀ p H', H p = none → Same H H' → H' p = some (.lst vs) → Q (.ref p) H'
section
variable {X : Cx} {e : Expr} {es : List Expr} {te ta : TE} {t : TA} {pos p : Pos} {x : Str}
theorem tupS {k} (h : PA X es t) : PE X (.Tuple es k pos) (tCB rTup t) where
  run := fun pins s σ H Q I hq => wpAny_Tuple_spliced <| thn (h.run pos pins s σ H _ I hq) fun us s1 ⟨xs, H1, I1, r, z, q⟩ => by
    have hf := I1.hok.fresh (Nat.le_refl s1.heap.objs.size)
    refine ⟨r.length ▸ z, .ref s1.heap.objs.size, _, I1.laid (o := .tup xs) (t' := s1.toks) (fun b u => Heap.get?_push_of_some _) (Nat.le_refl _) ⟨z, us, r, _, Heap.get?_push_size _ rfl, rfl, _, rfl⟩, rfl, ?_⟩
    exact q _ _ hf (same_new hf) upd_same
theorem lstS (h : PA X es t) : PE X (.List es pos) (tCB rLst t) where
  run := fun pins s σ H Q I hq => wpAny_List_spliced <| thn (h.run pos pins s σ H _ I hq) fun us s1 ⟨xs, H1, I1, r, z, q⟩ => by
    have hf := I1.hok.fresh (Nat.le_refl s1.heap.objs.size)
    refine ⟨r.length ▸ z, .ref s1.heap.objs.size, _, I1.laid (o := .lst xs) (t' := s1.toks) (fun b u => Heap.get?_push_of_some _) (Nat.le_refl _) ⟨z, us, 0, r, Heap.get?_push_size _ rfl⟩, rfl, ?_⟩
    exact q _ _ hf (same_new hf) upd_same
/-- a def that may be called by its name; a class that may be made; a method -/
structure Cal (P : Program) (w : World) (K : PySem.W.Frag) (mg : Str → Option Value) (base : Heap) (CX : CXT) (k : Nat) (x : Str) (sp : Sp) : Prop where
  ex : ∃ (f : Addr) (fd : FuncData) (ps : List Str), FnOk P w K mg base CX k f fd ps sp ∧ mg x = some (.ref f) ∧ PySem.W.keepIn K (.ref f) = true ∧ Binds K fd ps []
structure Mth (P : Program) (w : World) (K : PySem.W.Frag) (mg : Str → Option Value) (base : Heap) (CX : CXT) (k : Nat) (C : Addr) (m : Str) (sp : Sp) : Prop where
  ex : ∃ (f : Addr) (fd : FuncData) (ps : List Str), Cls K C ∧ Meth K C m f ∧ FnOk P w K mg base CX k f fd ps sp ∧ Binds K fd ps []
structure Mkc (P : Program) (w : World) (K : PySem.W.Frag) (mg : Str → Option Value) (base : Heap) (CX : CXT) (k : Nat) (x : Str) (C : Addr) (sp : Sp) : Prop where
  ex : ∃ (f : Addr) (fd : FuncData) (ps : List Str), Mk K C f ∧ FnOk P w K mg base CX k f fd ps sp ∧ mg x = some (.ref C) ∧ Binds K fd ps []
theorem nilApp {Q : VK} {E : XK} {sp : Sp} {f : List V → List V} : (fun (vs : List V) (H : Hp) => sp (f (vs ++ [])) H Q E) = fun vs H => sp (f vs) H Q E := by
  funext vs H
  rw [List.append_nil]
variable {CX : CXT} {k j : Nat} {sp : Sp} {E : XK} {C : Addr} {m : Str} {o : Expr} {apos : Pos}
theorem calS (c : Cal X.prog X.w X.K X.mg X.base CX k x sp) (hx : Passes CX X E) (hr : Room j X.A) (hk : k ≤ j) (hg : Gl X x) (ha : PA X (e :: es) t) (hd : (x == ("__debug__" : Str)) = false := by decide)
    (h1 : starEach (e :: es) X.env = (false, eval e X.env) :: starEach es X.env := by rfl) (h2 : (backTo pos (starEach es X.env)).any (·.1) = false := by rfl) :
    PE X (.Call (.Name x p) (e :: es) [] pos) (tCB (fun vs H Q => sp vs H Q E) t) where
  run := fun pins s σ H Q I h => by
    obtain ⟨f, fd, ps, F, hm, kp, b⟩ := c.ex
    refine (pe_call (dvs := []) F (hr.mono hk) hg hm kp b .nil hx ha hd h1 h2).run pins s σ H Q I ?_
    unfold tCall
    rw [nilApp (f := fun vs => vs)]
    exact h
theorem cal0S (c : Cal X.prog X.w X.K X.mg X.base CX k x sp) (hx : Passes CX X E) (hr : Room j X.A) (hk : k ≤ j) (hg : Gl X x) (hd : (x == ("__debug__" : Str)) = false := by decide) :
    PE X (.Call (.Name x p) [] [] pos) (fun _ H Q => sp [] H Q E) where
  run := fun pins s σ H Q I h => by
    obtain ⟨f, fd, ps, F, hm, kp, b⟩ := c.ex
    exact (pe_call0 (dvs := []) F (hr.mono hk) hg hm kp b .nil hx hd).run pins s σ H Q I h
def tMt (C : Addr) (m : Str) (sp : Sp) (E : XK) (te : TE) (t : TA) : TE := fun σ H Q => te σ H fun x H1 => (∃ a dx fs, x = .ref a ∧ H1 a = some (.ins C dx fs) ∧ fs.lookup m = none) ∧ t σ H1 fun vs H2 => sp (x :: vs) H2 Q E
theorem mthS {pl : Sem Bool} (c : Mth X.prog X.w X.K X.mg X.base CX k C m sp) (hx : Passes CX X E) (hr : Room j X.A) (hk : k ≤ j) (ho : PE X o te) (ha : PA X (e :: es) t)
    (h1 : starEach (e :: es) X.env = (false, eval e X.env) :: starEach es X.env := by rfl) (h2 : (backTo pos (starEach es X.env)).any (·.1) = false := by rfl)
    (h3 : eval (.Call (.Attribute o m apos) (e :: es) [] pos) X.env = (do
      let ov ← eval o X.env
      standAt apos.atName
      let (f, first) ← holding [ov] (getMethod ov m pl)
      callWith pos f first (backTo pos (starEach (e :: es) X.env)) (backToKw pos (keywordEach [] X.env))) := by rfl) :
    PE X (.Call (.Attribute o m apos) (e :: es) [] pos) (tMt C m sp E te t) := by
  obtain ⟨f, fd, ps, cl, me, F, b⟩ := c.ex
  have P := pe_meth (dvs := []) (pl := pl) ho cl me F (hr.mono hk) b .nil hx ha h1 h2 h3
  have z : tMeth C m sp [] E te t = tMt C m sp E te t := by
    funext σ H Q
    unfold tMeth tMt
    congr 1
    funext x H1
    rw [nilApp (f := fun vs => x :: vs)]
    refine propext ⟨fun ⟨a, dx, fs, h1, h2, h3, h4⟩ => ⟨⟨a, dx, fs, h1, h2, h3⟩, h4⟩, fun ⟨⟨a, dx, fs, h1, h2, h3⟩, h4⟩ => ⟨a, dx, fs, h1, h2, h3, h4⟩⟩
  rw [← z]
  exact P
theorem mth0S {pl : Sem Bool} (c : Mth X.prog X.w X.K X.mg X.base CX k C m sp) (hx : Passes CX X E) (hr : Room j X.A) (hk : k ≤ j) (ho : PE X o te)
    (h3 : eval (.Call (.Attribute o m apos) [] [] pos) X.env = (do
      let ov ← eval o X.env
      standAt apos.atName
      let (f, first) ← holding [ov] (getMethod ov m pl)
      callWith pos f first (backTo pos (starEach [] X.env)) (backToKw pos (keywordEach [] X.env))) := by rfl) :
    PE X (.Call (.Attribute o m apos) [] [] pos) (tMt C m sp E te tNil) := by
  obtain ⟨f, fd, ps, cl, me, F, b⟩ := c.ex
  have P := pe_meth0 (dvs := []) (pl := pl) ho cl me F (hr.mono hk) b .nil hx h3
  have z : tMeth C m sp [] E te tNil = tMt C m sp E te tNil := by
    funext σ H Q
    unfold tMeth tMt
    congr 1
    funext x H1
    rw [nilApp (f := fun vs => x :: vs)]
    refine propext ⟨fun ⟨a, dx, fs, h1, h2, h3, h4⟩ => ⟨⟨a, dx, fs, h1, h2, h3⟩, h4⟩, fun ⟨⟨a, dx, fs, h1, h2, h3⟩, h4⟩ => ⟨a, dx, fs, h1, h2, h3, h4⟩⟩
  rw [← z]
  exact P
/-- a class is made: what is promised of the new object, in the promise r of our own -/
theorem mkcS {r : List V → Hp → VK → Prop} (c : Mkc X.prog X.w X.K X.mg X.base CX k x C sp) (hx : Passes CX X E) (hr : Room j X.A) (hk : k + 1 ≤ j) (hg : Gl X x)
    (w : ∀ vs H Q, r vs H Q → ∀ a dx, H a = none → H dx = none → dx ≠ a → sp (.ref a :: vs) (upd (upd H dx (.own a)) a (.ins C dx [])) (fun v H2 => v = .non ∧ Q (.ref a) H2) E)
    (ha : PA X (e :: es) t) (hd : (x == ("__debug__" : Str)) = false := by decide)
    (h1 : starEach (e :: es) X.env = (false, eval e X.env) :: starEach es X.env := by rfl) (h2 : (backTo pos (starEach es X.env)).any (·.1) = false := by rfl) :
    PE X (.Call (.Name x p) (e :: es) [] pos) (tCB r t) where
  run := fun pins s σ H Q I h => by
    obtain ⟨f, fd, ps, M, F, hm, b⟩ := c.ex
    refine wpAny_Call_Name_kw (ld_glob I hg hm ?_ hd)
    refine PySem.W.callWith_K (h₀ := X.base) I.ok.mod.kin M.kp (thn (ha.run pos pins s σ H _ I h) fun us s1 ⟨vs, H1, I1, rr, q⟩ => ⟨I1.kIn, ?_⟩) h1 h2
    refine run_make (dvs := []) M F (hr.mono hk) b .nil hx I1 rr fun a dx n1 n2 n3 => ?_
    rw [List.append_nil]
    exact w vs H1 Q q a dx n1 n2 n3
def rMt (C : Addr) (m : Str) (sp : Sp) (E : XK) (t : TA) (σ : L2.St) (Q : VK) (x : V) (H1 : Hp) : Prop := (∃ a dx fs, x = .ref a ∧ H1 a = some (.ins C dx fs) ∧ fs.lookup m = none) ∧ t σ H1 fun vs H2 => sp (x :: vs) H2 Q E
theorem rd_mt {σ : L2.St} {H : Hp} {Q : VK} (h : te σ H (rMt C m sp E t σ Q)) : tMt C m sp E te t σ H Q := h
theorem rd_mtB {σ : L2.St} {H : Hp} {Q : VK} {p : Addr} (h : ∃ a dx fs, V.ref p = .ref a ∧ H a = some (.ins C dx fs) ∧ fs.lookup m = none) (k : t σ H fun vs H2 => sp (.ref p :: vs) H2 Q E) : rMt C m sp E t σ Q (.ref p) H := ⟨h, k⟩
def rBm (K : PySem.W.Frag) (T : String) (r : V → List V → Hp → VK → Prop) (t : TA) (σ : L2.St) (Q : VK) (x : V) (H1 : Hp) : Prop := tyV K T x H1 ∧ t σ H1 fun xs H2 => r x xs H2 Q
theorem rd_bm {K : PySem.W.Frag} {T : String} {r : V → List V → Hp → VK → Prop} {σ : L2.St} {H : Hp} {Q : VK} (h : te σ H (rBm K T r t σ Q)) : tBM K T r te t σ H Q := h
theorem rd_bmL {K : PySem.W.Frag} {r : V → List V → Hp → VK → Prop} {σ : L2.St} {H : Hp} {Q : VK} {l : Addr} {xs : List V} (h : H l = some (.lst xs)) (k : t σ H fun vs H2 => r (.ref l) vs H2 Q) : rBm K "list" r t σ Q (.ref l) H := ⟨Or.inl ⟨rfl, _, SqL.of h⟩, k⟩
/-- x * y by the class's own def; ~x; y in x -/
def rOwn2 (C : Addr) (sp : Sp) (E : XK) : R2 := fun x y H Q => ∃ a dx fs b dy gs, x = .ref a ∧ y = .ref b ∧ H a = some (.ins C dx fs) ∧ H b = some (.ins C dy gs) ∧ sp [x, y] H Q E
theorem cmpBack_of {pins : List (Addr × Obj)} {σ : L2.St} {Q : VK} {u : Value} {s' : Shared} (h : EP X pins σ Q u s') : PySem.W.CmpBack (EP X pins σ Q) u s' := by
  obtain ⟨v, H', I, r, q⟩ := h
  cases v with
  | non => cases (show u = Value.none from r); exact ⟨.non, H', I, rfl, q⟩
  | bl b => cases (show u = Value.bool b from r); exact ⟨.bl b, H', I, rfl, q⟩
  | int i => obtain ⟨t, e⟩ := (show ∃ t, u = Value.int i t from r); cases e; exact ⟨.int i, H', I, ⟨t, rfl⟩, q⟩
  | str z => obtain ⟨t, e⟩ := (show ∃ t, u = Value.str z t from r); cases e; exact ⟨.str z, H', I, ⟨t, rfl⟩, q⟩
  | byt b => obtain ⟨t, e⟩ := (show ∃ t, u = Value.bytes b t from r); cases e; exact ⟨.byt b, H', I, ⟨t, rfl⟩, q⟩
  | flt b => obtain ⟨t, e⟩ := (show ∃ t, u = Value.float b t from r); cases e; exact ⟨.flt b, H', I, ⟨t, rfl⟩, q⟩
  | ref a => cases (show u = Value.ref a from r); exact ⟨.ref a, H', I, rfl, q⟩
  | ty n => cases (show u = Value.type n from r); exact ⟨.ty n, H', I, rfl, q⟩
theorem inst_of {pins : List (Addr × Obj)} {σ : L2.St} {H : Hp} {s : Shared} {a dx : Addr} {fs : List (Str × V)} (I : Inv X pins σ H s) (h : H a = some (.ins C dx fs)) : ∃ ox od, PySem.W.InstAt s.heap a ox C od := by
  obtain ⟨mA, O, _⟩ := ins_get I.hok h
  obtain ⟨od, J, _⟩ := O.look
  exact ⟨_, od, J⟩
theorem op_own2 {op : Operator} {nm : Str} (c : Mth X.prog X.w X.K X.mg X.base CX k C nm sp) (hx : Passes CX X E) (hr : Room j X.A) (hk : k ≤ j) (hn : PySem.dunder op.info.2 = nm) (hc : PySem.W.selfFirst X.K C = true) : OpR X (binaryOp op) (rOwn2 C sp E) := fun pins s σ H x y v u Q I rx ry h => by
  obtain ⟨f, fd, ps, cl, me, F, b⟩ := c.ex
  obtain ⟨a1, dx, fs, a2, dy, gs, rfl, rfl, i1, i2, q⟩ := h
  cases (show v = Value.ref a1 from rx)
  cases (show u = Value.ref a2 from ry)
  obtain ⟨ox, od, J⟩ := inst_of I i1
  obtain ⟨oy, od', J'⟩ := inst_of I i2
  obtain ⟨m, hF⟩ := I.fr
  refine PySem.W.binop_K hF I.ok.mod.kin J J'.type hc (by rw [hn]; exact me.at_) me.fn ?_
  exact wpAny_mono (run_fn (dvs := []) (us := [.ref a1, .ref a2]) (vs := [.ref a1, .ref a2]) F (hr.mono hk) b .nil hx I (.cons rfl (.cons rfl .nil)) q) (fun _ _ z => cmpBack_of z) fun _ _ z => z
def rOwn1 (C : Addr) (sp : Sp) (E : XK) : V → Hp → VK → Prop := fun x H Q => ∃ a dx fs, x = .ref a ∧ H a = some (.ins C dx fs) ∧ sp [x] H Q E
theorem un_own1 (c : Mth X.prog X.w X.K X.mg X.base CX k C "__invert__" sp) (hx : Passes CX X E) (hr : Room j X.A) (hk : k ≤ j) : UnR X (unaryOp .Invert) (rOwn1 C sp E) := fun pins s σ H x v Q I rx h => by
  obtain ⟨f, fd, ps, cl, me, F, b⟩ := c.ex
  obtain ⟨a1, dx, fs, rfl, i1, q⟩ := h
  cases (show v = Value.ref a1 from rx)
  obtain ⟨ox, od, J⟩ := inst_of I i1
  obtain ⟨m, hF⟩ := I.fr
  exact PySem.W.ksp_inv hF I.ok.mod.kin J me.at_ me.fn (run_fn (dvs := []) (us := [.ref a1]) (vs := [.ref a1]) F (hr.mono hk) b .nil hx I (.cons rfl .nil) q)
def rOwnIn (C : Addr) (sp : Sp) (E : XK) : R2 := fun y x H Q => ∃ a dx fs, x = .ref a ∧ H a = some (.ins C dx fs) ∧ sp [x, y] H (fun v H' => ∃ k, v = .bl k ∧ Q (.bl k) H') E
theorem op_ownIn (c : Mth X.prog X.w X.K X.mg X.base CX k C "__contains__" sp) (hx : Passes CX X E) (hr : Room j X.A) (hk : k ≤ j) : OpR X (compareOp .In) (rOwnIn C sp E) := fun pins s σ H y x u v Q I ry rx h => by
  obtain ⟨f, fd, ps, cl, me, F, b⟩ := c.ex
  obtain ⟨a1, dx, fs, rfl, i1, q⟩ := h
  cases (show v = Value.ref a1 from rx)
  obtain ⟨ox, od, J⟩ := inst_of I i1
  obtain ⟨m, hF⟩ := I.fr
  refine PySem.W.in_K hF I.ok.mod.kin J me.at_ me.fn ?_
  refine wpAny_mono (run_fn (dvs := []) (us := [.ref a1, u]) (vs := [.ref a1, y]) F (hr.mono hk) b .nil hx I (.cons rfl (.cons ry .nil)) q) (fun w s' z => ?_) fun _ _ z => z
  obtain ⟨v, H', I', r, k, e, q'⟩ := z
  subst e
  cases (show w = Value.bool k from r)
  exact wpAny_truthy_bool ⟨.bl k, H', I', rfl, q'⟩
end
theorem rd_new {xs : List V} {H : Hp} {Q : VK} (k : ∀ p H', H p = none → Same H H' → H' p = some (.tup xs) → Q (.ref p) H') (l : xs.length ≤ sizeLine := by first | (show 2 ≤ sizeLine; decide) | (show 3 ≤ sizeLine; decide) | (show 1 ≤ sizeLine; decide) | (show 0 ≤ sizeLine; decide) | (show 6 ≤ sizeLine; decide)) : rTup xs H Q := ⟨l, k⟩
theorem rd_newL {xs : List V} {H : Hp} {Q : VK} (k : ∀ p H', H p = none → Same H H' → H' p = some (.lst xs) → Q (.ref p) H') (l : xs.length ≤ sizeLine := by first | (show 2 ≤ sizeLine; decide) | (show 3 ≤ sizeLine; decide) | (show 1 ≤ sizeLine; decide) | (show 0 ≤ sizeLine; decide) | (show 6 ≤ sizeLine; decide)) : rLst xs H Q := ⟨l, k⟩
theorem at_mono {H H' : Hp} {p : Addr} {o : HO} (s : Same H H') (h : H p = some o) : H' p = some o := s _ _ h
/-- a comprehension whose elements make objects and change nothing -/
def SameB (D : Addr) (H H' : Hp) : Prop := ∀ b o, b ≠ D → H b = some o → H' b = some o
def LcI (H : Hp) (R : Nat → V → Hp → Prop) (D : Addr) (i : Nat) (H' : Hp) : Prop := H D = none ∧ Same H H' ∧ ∃ ys, H' D = some (.lst ys) ∧ ys.length = i ∧ ∀ (k : Nat) y, ys[k]? = some y → R k y H'
theorem lc_turn {σ2 : L2.St} {H H1 : Hp} {te : TE} {R : Nat → V → Hp → Prop} {D : Addr} {i n : Nat} (hi : i < n) (hn : n ≤ 1000) (mono : ∀ k y H H', Same H H' → R k y H → R k y H') (wr : ∀ k y (H : Hp) (D : Addr) xs ys, H D = some (.lst xs) → R k y H → R k y (upd H D (.lst ys)))
    (q : LcI H R D i H1) (turn : ∀ F : VK, (∀ y H2, Same H1 H2 → R i y H2 → F y H2) → te σ2 H1 F) :
    te σ2 H1 fun y H4 => ∃ acc, H4 D = some (.lst acc) ∧ acc.length < sizeLine ∧ LcI H R D (i + 1) (upd H4 D (.lst (acc ++ [y]))) := by
  obtain ⟨n0, s1, ys, h1, h2, h3⟩ := q
  refine turn _ fun y H2 s2 ry => ⟨ys, s2 _ _ h1, Nat.lt_of_lt_of_le (show ys.length < 100000 by omega) (by decide), n0, fun b o e => ?_, ys ++ [y], upd_same, by rw [List.length_append, h2]; rfl, fun k z hz => ?_⟩
  · rw [upd_ne (ne_of_none e n0)]
    exact s2 _ _ (s1 _ _ e)
  · refine wr k z H2 D ys _ (s2 _ _ h1) ?_
    by_cases hk : k < ys.length
    · rw [List.getElem?_append_left hk] at hz
      exact mono _ _ _ _ s2 (h3 k z hz)
    · have hk' : k = ys.length := by
        have := (List.getElem?_eq_some_iff.mp hz).1
        rw [List.length_append] at this
        have e1 : [y].length = 1 := rfl
        omega
      subst hk'
      rw [List.getElem?_append_right (Nat.le_refl _), Nat.sub_self] at hz
      cases (Option.some.inj hz : y = z)
      rw [h2]
      exact ry
theorem SameB.of {D : Addr} {H : Hp} {o : HO} : SameB D H (upd H D o) := fun b u hb e => by rw [upd_ne hb]; exact e
theorem SameB.same {D : Addr} {H0 H H' : Hp} (n : H0 D = none) (s : Same H0 H) (b : SameB D H H') : Same H0 H' := fun a o e => b a o (ne_of_none e n) (s a o e)
theorem SameB.trans {D : Addr} {H H1 H2 : Hp} (a : SameB D H H1) (b : SameB D H1 H2) : SameB D H H2 := fun c o h e => b c o h (a c o h e)
theorem Same.b {D : Addr} {H H1 : Hp} (a : Same H H1) : SameB D H H1 := fun c o _ e => a c o e
theorem rd_append {l : Addr} {xs : List V} {v : V} {H : Hp} {Q : VK} (h : H l = some (.lst xs)) (hl : xs.length < 100000) (k : ∀ H', SameB l H H' → H' l = some (.lst (xs ++ [v])) → Q .non H') : rAppend (.ref l) [v] H Q := ⟨l, xs, v, rfl, rfl, h, Nat.lt_of_lt_of_le hl (by decide), k _ SameB.of upd_same⟩
section
variable {K : PySem.W.Frag} {σ : L2.St} {H : Hp} {te : TE} {Q : VK} {j : Nat} {vs : List Nat} {p : Addr} {xs : List V}
theorem rd_lcT (h : H p = some (.tup xs)) (hn : xs.length ≤ 1000) (R : Nat → V → Hp → Prop) (mono : ∀ k y H H', Same H H' → R k y H → R k y H') (wr : ∀ k y (H : Hp) (D : Addr) xs ys, H D = some (.lst xs) → R k y H → R k y (upd H D (.lst ys)))
    (hw : ∀ x, wipe ((wipe σ vs).set j (some x)) vs = wipe σ vs) (turn : ∀ (i : Nat) x H1, xs[i]? = some x → Same H H1 → ∀ F : VK, (∀ y H2, Same H1 H2 → R i y H2 → F y H2) → te ((wipe σ vs).set j (some x)) H1 F)
    (k : ∀ D ys H', H D = none → Same H H' → H' D = some (.lst ys) → ys.length = xs.length → (∀ (k : Nat) y, ys[k]? = some y → R k y H') → Q (.ref D) H') : rItT K (lcBody σ (gName j) te vs Q) (.ref p) H := by
  refine ⟨p, rfl, ⟨xs, SqT.of h⟩, fun D hD => lc_tup (tt := tYes) (Qd := fun H' => Q (.ref D) H') (LcI H R D) ⟨hD, same_new hD, [], upd_same, rfl, fun k y e => by simp at e⟩ (fun i H' _ q => SqT.of (q.2.1 _ _ h)) (fun i x H' hx q => ⟨hw x, ?_⟩) fun H' q => ?_⟩
  · exact lc_turn (List.getElem?_eq_some_iff.mp hx).1 hn mono wr q fun F f => turn i x H' hx q.2.1 F f
  · obtain ⟨n0, s1, ys, h1, h2, h3⟩ := q
    exact k D ys H' n0 s1 h1 h2 h3
theorem rd_lcL (h : H p = some (.lst xs)) (hn : xs.length ≤ 1000) (R : Nat → V → Hp → Prop) (mono : ∀ k y H H', Same H H' → R k y H → R k y H') (wr : ∀ k y (H : Hp) (D : Addr) xs ys, H D = some (.lst xs) → R k y H → R k y (upd H D (.lst ys)))
    (hw : ∀ x, wipe ((wipe σ vs).set j (some x)) vs = wipe σ vs) (turn : ∀ (i : Nat) x H1, xs[i]? = some x → Same H H1 → ∀ F : VK, (∀ y H2, Same H1 H2 → R i y H2 → F y H2) → te ((wipe σ vs).set j (some x)) H1 F)
    (k : ∀ D ys H', H D = none → Same H H' → H' D = some (.lst ys) → ys.length = xs.length → (∀ (k : Nat) y, ys[k]? = some y → R k y H') → Q (.ref D) H') : rItL K (lcBody σ (gName j) te vs Q) (.ref p) H := by
  refine ⟨p, rfl, ⟨xs, SqL.of h⟩, fun D hD => lc_list (tt := tYes) (Qd := fun H' => Q (.ref D) H') (LcI H R D) ⟨hD, same_new hD, [], upd_same, rfl, fun k y e => by simp at e⟩ (fun i H' _ q => SqL.of (q.2.1 _ _ h)) (fun i x H' hx q => ⟨hw x, ?_⟩) fun H' q => ?_⟩
  · exact lc_turn (List.getElem?_eq_some_iff.mp hx).1 hn mono wr q fun F f => turn i x H' hx q.2.1 F f
  · obtain ⟨n0, s1, ys, h1, h2, h3⟩ := q
    exact k D ys H' n0 s1 h1 h2 h3
end
/-! ### places in the heap -/
def plF (g : Pl) : List (Str × V) := [("x", .int g.x), ("y", .int g.y), ("area", .int g.a)]
def PlAt (C : Addr) (H : Hp) (p : Addr) (g : Pl) : Prop := ∃ dx, H p = some (.ins C dx (plF g))
theorem PlAt.mono {C : Addr} {H H' : Hp} {p : Addr} {g : Pl} (s : Same H H') (h : PlAt C H p g) : PlAt C H' p g := let ⟨dx, e⟩ := h; ⟨dx, s _ _ e⟩
theorem PlAt.monoB {C D : Addr} {H H' : Hp} {p : Addr} {g : Pl} {xs : List V} (hD : H D = some (.lst xs)) (s : SameB D H H') (h : PlAt C H p g) : PlAt C H' p g := let ⟨dx, e⟩ := h; ⟨dx, s _ _ (ne_of e hD (by intro z; cases z)) e⟩
theorem lk_hit {f : Str} {v : V} {r : List (Str × V)} : List.lookup f ((f, v) :: r) = some v := by simp [List.lookup]
theorem lk_miss {f g : Str} {v : V} {r : List (Str × V)} (h : (f == g) = false) : List.lookup f ((g, v) :: r) = List.lookup f r := by simp only [List.lookup, h]
theorem plF_x (g : Pl) : (plF g).lookup ("x" : Str) = some (.int g.x) := lk_hit
theorem plF_y (g : Pl) : (plF g).lookup ("y" : Str) = some (.int g.y) := by unfold plF; rw [lk_miss (by decide +kernel)]; exact lk_hit
theorem plF_a (g : Pl) : (plF g).lookup ("area" : Str) = some (.int g.a) := by unfold plF; rw [lk_miss (by decide +kernel), lk_miss (by decide +kernel)]; exact lk_hit
theorem plF_no (g : Pl) {m : Str} (h1 : (m == ("x" : Str)) = false) (h2 : (m == ("y" : Str)) = false) (h3 : (m == ("area" : Str)) = false) : (plF g).lookup m = none := by
  unfold plF
  rw [lk_miss h1, lk_miss h2, lk_miss h3]
  rfl
/-! ### lists by values -/
section
variable {X : Cx} {K : PySem.W.Frag} {H : Hp} {Q : VK} {p q : Addr} {xs ys : List V}
def rListS (K : PySem.W.Frag) : List V → Hp → VK → Prop := fun vs H Q => ∃ p ys, vs = [.ref p] ∧ (SqL K H p ys ∨ SqT K H p ys) ∧ ∀ l H', H l = none → Same H H' → H' l = some (.lst ys) → Q (.ref l) H'
theorem call_listS : CallR X (.type "list") (rListS X.K) := clImp call_list_of fun vs H Q ⟨p, ys, e, h, k⟩ => ⟨p, ys, e, h, fun l hl => k l _ hl (same_new hl) upd_same⟩
def rTupS (K : PySem.W.Frag) : List V → Hp → VK → Prop := fun vs H Q => ∃ p ys, vs = [.ref p] ∧ SqL K H p ys ∧ ∀ l H', H l = none → Same H H' → H' l = some (.tup ys) → Q (.ref l) H'
theorem call_tupS : CallR X (.type "tuple") (rTupS X.K) := clImp call_tuple_of fun vs H Q ⟨p, ys, e, h, k⟩ => ⟨p, ys, e, .inl ⟨h, fun l hl => k l _ hl (same_new hl) upd_same⟩⟩
def rCatS : R2 := fun x y H Q => ∃ l b xs zs, x = .ref l ∧ y = .ref b ∧ H l = some (.lst xs) ∧ H b = some (.lst zs) ∧ xs.length + zs.length ≤ sizeLine ∧ ∀ p H', H p = none → Same H H' → H' p = some (.lst (xs ++ zs)) → Q (.ref p) H'
theorem op_catS : OpR X (binaryOp .Add) rCatS := opImp op_cat fun x y H Q ⟨l, b, xs, zs, e1, e2, h1, h2, h3, k⟩ => ⟨l, b, xs, zs, e1, e2, h1, h2, h3, fun p hp => k p _ hp (same_new hp) upd_same⟩
def rRepS : R2 := fun x y H Q => ∃ l k xs, x = .ref l ∧ y = .int k ∧ H l = some (.lst xs) ∧ 0 ≤ k ∧ k ≤ 1000 ∧ xs.length ≤ 1000 ∧ ∀ p H', H p = none → Same H H' → H' p = some (.lst (List.replicate k.toNat xs).flatten) → Q (.ref p) H'
theorem op_repS : OpR X (binaryOp .Mult) rRepS := opImp op_rep fun x y H Q ⟨l, n, xs, e1, e2, h1, h2, h3, h4, k⟩ => ⟨l, n, xs, e1, e2, h1, by omega, by omega, by
  have : xs.length * n.toNat ≤ 1000 * 1000 := Nat.mul_le_mul h4 (by omega)
  exact Nat.le_trans this (by decide), fun p hp => k p _ hp (same_new hp) upd_same⟩
def rSlS2 (K : PySem.W.Frag) : V → Option Int → Option Int → Hp → VK → Prop := fun x lo hi H Q => ∃ a xs, x = .ref a ∧ SqL K H a xs ∧ ∀ p H', H p = none → Same H H' → H' p = some (.lst (cutV xs lo hi)) → Q (.ref p) H'
theorem sl_listS : SlR X (rSlS2 X.K) := fun pins s σ H x v vl vu lo hi sl Q I r1 r2 r3 r4 ⟨a, xs, e, h, k⟩ => sl_list pins s σ H x v vl vu lo hi sl Q I r1 r2 r3 r4 ⟨a, xs, e, h, fun p hp => k p _ hp (same_new hp) upd_same⟩
def rLen (K : PySem.W.Frag) : List V → Hp → VK → Prop := fun vs H Q => ∃ p ys, vs = [.ref p] ∧ (SqL K H p ys ∨ SqT K H p ys) ∧ Q (.int ys.length) H
theorem call_lenS : CallR X (.builtin "len") (rLen X.K) := clImp call_len_seq fun vs H Q h => h
theorem rd_lenL (h : H p = some (.lst xs)) (k : Q (.int xs.length) H) : rLen K [.ref p] H Q := ⟨p, xs, rfl, .inl (SqL.of h), k⟩
theorem rd_lenT (h : H p = some (.tup xs)) (k : Q (.int xs.length) H) : rLen K [.ref p] H Q := ⟨p, xs, rfl, .inr (SqT.of h), k⟩
def rAbs : List V → Hp → VK → Prop := fun vs H Q => ∃ i, vs = [.int i] ∧ Q (.int (if i < 0 then -i else i)) H
theorem call_absS : CallR X (.builtin "abs") rAbs := clImp call_abs fun vs H Q h => h
theorem rd_abs {i : Int} (k : Q (.int (if i < 0 then -i else i)) H) : rAbs [.int i] H Q := ⟨i, rfl, k⟩
def rIsN : R2 := fun x y H Q => y = .non ∧ Q (.bl (decide (x = .non))) H
theorem op_isNS : OpR X (compareOp .Is) rIsN := opImp op_isN fun x y H Q h => h
def rNotN : R2 := fun x y H Q => y = .non ∧ Q (.bl (!decide (x = .non))) H
theorem op_notNS : OpR X (compareOp .IsNot) rNotN := opImp op_notN fun x y H Q h => h
theorem ref_non : decide (V.ref p = V.non) = false := decide_eq_false (fun e => nomatch e)
theorem rd_isNr (k : Q (.bl false) H) : rIsN (.ref p) .non H Q := ⟨rfl, by rw [ref_non]; exact k⟩
theorem rd_isN0 (k : Q (.bl true) H) : rIsN .non .non H Q := ⟨rfl, k⟩
theorem rd_notNr (k : Q (.bl true) H) : rNotN (.ref p) .non H Q := ⟨rfl, by rw [ref_non]; exact k⟩
theorem rd_notN0 (k : Q (.bl false) H) : rNotN .non .non H Q := ⟨rfl, k⟩
theorem rd_truL {Q : Bool → Hp → Prop} {c : Bool} (h : H p = some (.lst xs)) (e : (!xs.isEmpty) = c) (k : Q c H) : rTru K Q (.ref p) H := ⟨_, .inl ⟨xs, SqL.of h, rfl⟩, e ▸ k⟩
theorem ptTru {a : Expr} {ta : TE} (ha : PE X a ta) (he : ∀ whole, isTrue a X.env whole = (do let v ← whole; standAt a.pos; holding [v] (truthy v))) : PT X a (tTru X.K ta) := pt_truth ha he
theorem rd_truT {Q : Bool → Hp → Prop} {c : Bool} (h : H p = some (.tup xs)) (e : (!xs.isEmpty) = c) (k : Q c H) : rTru K Q (.ref p) H := ⟨_, .inr (.inl ⟨xs, SqT.of h, rfl⟩), e ▸ k⟩
theorem rd_listL (h : H p = some (.lst xs)) (k : ∀ l H', H l = none → Same H H' → H' l = some (.lst xs) → Q (.ref l) H') : rListS K [.ref p] H Q := ⟨p, xs, rfl, .inl (SqL.of h), k⟩
theorem rd_listT (h : H p = some (.tup xs)) (k : ∀ l H', H l = none → Same H H' → H' l = some (.lst xs) → Q (.ref l) H') : rListS K [.ref p] H Q := ⟨p, xs, rfl, .inr (SqT.of h), k⟩
theorem rd_tupL (h : H p = some (.lst xs)) (k : ∀ l H', H l = none → Same H H' → H' l = some (.tup xs) → Q (.ref l) H') : rTupS K [.ref p] H Q := ⟨p, xs, rfl, SqL.of h, k⟩
theorem rd_cat (h : H p = some (.lst xs)) (h' : H q = some (.lst ys)) (hl : xs.length + ys.length ≤ 100000) (k : ∀ l H', H l = none → Same H H' → H' l = some (.lst (xs ++ ys)) → Q (.ref l) H') : rCatS (.ref p) (.ref q) H Q := ⟨p, q, xs, ys, rfl, rfl, h, h', Nat.le_trans hl (by decide), k⟩
end
/-! ### the same with the written part by its name -/
section
variable {X : Cx} {K : PySem.W.Frag}
theorem fldK (hK : X.K = K) {a : Expr} {ta : TE} {f : Str} {pos : Pos} (he : PE X a ta) (hb : attributeBase a f X.env (eval a X.env) = eval a X.env) : PE X (.Attribute a f pos) (tFld K ta f) := by
  subst hK
  exact pe_fld he hb
theorem ixTK (hK : X.K = K) : IxR X (rIxT K) := by subst hK; exact ix_tup
theorem ixLK (hK : X.K = K) : IxR X (rIxL K) := by subst hK; exact ix_list
theorem isiK (hK : X.K = K) : CallR X (.builtin "isinstance") (rIsi K) := by subst hK; exact call_isi
theorem lenK (hK : X.K = K) : CallR X (.builtin "len") (rLen K) := by subst hK; exact call_lenS
theorem listK (hK : X.K = K) : CallR X (.type "list") (rListS K) := by subst hK; exact call_listS
theorem tupK (hK : X.K = K) : CallR X (.type "tuple") (rTupS K) := by subst hK; exact call_tupS
theorem slK (hK : X.K = K) : SlR X (rSlS2 K) := by subst hK; exact sl_listS
theorem truK (hK : X.K = K) {a : Expr} {ta : TE} (ha : PE X a ta) (he : ∀ whole, isTrue a X.env whole = (do let v ← whole; standAt a.pos; holding [v] (truthy v))) : PT X a (tTru K ta) := by subst hK; exact ptTru ha he
theorem piL (hK : X.K = K) {tg e : Expr} {tl : TE} (h : PE X e tl) : PI X tg e (iList K tl) := by subst hK; exact pi_list h
theorem piT (hK : X.K = K) {tg e : Expr} {tl : TE} (h : PE X e tl) : PI X tg e (iTup K tl) := by subst hK; exact pi_tup h
end
/-! ### sizes in the model -/
section
variable {X : Cx}
theorem bits_fits {a : Nat} {x : Int} (h : Fits a x) : Builtin.Int.intBits x ≤ a + 1 := by
  have e : Builtin.Int.intBits x ≤ x.natAbs.log2 + 1 := by
    unfold Builtin.Int.intBits
    split <;> omega
  have h2 : x.natAbs.log2 ≤ a := by
    by_cases z : x.natAbs = 0
    · rw [z]; simp
    · exact Nat.le_of_lt ((Nat.log2_lt z).mpr h.lt)
  omega
theorem mul_ok {a b : Nat} {x y : Int} (h : Fits a x) (h' : Fits b y) (e : a + b ≤ 100000000) : IntMulOk x y := by
  have h1 := bits_fits h
  have h2 := bits_fits h'
  unfold IntMulOk
  intro z
  rw [Bool.and_eq_true] at z
  have z2 := z.2
  unfold Builtin.Int.intTooBig at z2
  have z3 := of_decide_eq_true z2
  have e3 : bitsLine = 134217728 := by decide
  rw [e3] at z3
  omega
theorem mul_okL {x y : Int} (h : Fits 63 x) : IntMulOk x y := .of_left (Nat.le_trans (bits_fits h) (by decide))
theorem mul_okR {x y : Int} (h : Fits 63 y) : IntMulOk x y := .of_right (Nat.le_trans (bits_fits h) (by decide))
/-- a divisor that is not 0 and below 2 ^ 8999 -/
def DivOk (_ j : Int) : Prop := j ≠ 0 ∧ Fits 8999 j
theorem op_mulX : OpR X (binaryOp .Mult) (rI IntMulOk fun i j => .int (i * j)) := opI fun _ _ _ _ _ _ _ hc q => PyProof.Rows.mul_int q hc
theorem op_fdX : OpR X (binaryOp .FloorDiv) (rI DivOk fun i j => .int (i.fdiv j)) := opI fun i j _ _ _ _ _ hc q => by
  refine PyProof.Rows.floordiv_int hc.1 q (.inl (PyProof.noPylong_of_log2 ?_))
  have : 0 < j.natAbs := Int.natAbs_pos.mpr hc.1
  exact Nat.lt_of_le_of_lt (Nat.le_of_lt_succ ((Nat.log2_lt (by omega)).mpr (Nat.lt_of_lt_of_le hc.2.lt (Nat.pow_le_pow_right (by decide) (by decide : 8999 ≤ 9000))))) (by decide)
end
/-! ### defs as the top has left them -/
section
variable {P : Program} {w : World} {K : PySem.W.Frag} {mg : Str → Option Value} {base : Heap}
def DefAt (K : PySem.W.Frag) (mg : Str → Option Value) (x : Str) (st : Stmt) (ps : List Str) : Prop := ∃ f fd, L2.Fun K x x st f fd ∧ mg x = some (.ref f) ∧ Binds K fd ps []
def MthAt (K : PySem.W.Frag) (C : Addr) (m qual : Str) (st : Stmt) (ps : List Str) : Prop := ∃ f fd, L2.Fun K m qual st f fd ∧ Meth K C m f ∧ Cls K C ∧ Binds K fd ps []
def MkAt (K : PySem.W.Frag) (mg : Str → Option Value) (x : Str) (C : Addr) (qual : Str) (st : Stmt) (ps : List Str) : Prop := ∃ f fd, L2.Fun K "__init__" qual st f fd ∧ Mk K C f ∧ mg x = some (.ref C) ∧ Binds K fd ps []
/-- a body's term and its reading -/
def BodyOk (P : Program) (w : World) (K : PySem.W.Frag) (mg : Str → Option Value) (base : Heap) (N : List Str) (qual : Str) (st : Stmt) (k : Nat) (sp : Sp) : Prop :=
  ∀ (f : Addr) (cdv : Value) (A : Around) (outer : List Env) (s : Shared) (H : Hp) (vs : List V) (Q : VK) (E : XK), Room k (A.deeper (PyProof.Rows.envOfC qual (defScope st) s.heap.objs.size f cdv)) → sp vs H Q E →
    ∃ t, PSs (cxOf L2.CX0 P w K mg base N qual (defScope st) f cdv A outer s H E).nox (defBody st) t ∧ t ⟨fun _ H' => Q .non H', Q, fun _ _ => False, fun _ _ => False⟩ (L2.start N vs) H
theorem DefAt.cal {x : Str} {st : Stmt} {ps N : List Str} {k : Nat} {sp : Sp} (D : DefAt K mg x st ps) (S : FnScope N ps (defScope st)) (len : ∀ vs H Q E, sp vs H Q E → vs.length = ps.length) (body : BodyOk P w K mg base N x st k sp) :
    Cal P w K mg base L2.CX0 (k + 1) x sp := by
  obtain ⟨f, fd, F, hm, b⟩ := D
  exact ⟨f, fd, ps, F.ok S len fun cdv A outer s H vs Q E hr h => body f cdv A outer s H vs Q E hr h, hm, F.kp, b⟩
theorem MthAt.mth {C : Addr} {m qual : Str} {st : Stmt} {ps N : List Str} {k : Nat} {sp : Sp} (D : MthAt K C m qual st ps) (S : FnScope N ps (defScope st)) (len : ∀ vs H Q E, sp vs H Q E → vs.length = ps.length) (body : BodyOk P w K mg base N qual st k sp) :
    Mth P w K mg base L2.CX0 (k + 1) C m sp := by
  obtain ⟨f, fd, F, me, c, b⟩ := D
  exact ⟨f, fd, ps, c, me, F.ok S len fun cdv A outer s H vs Q E hr h => body f cdv A outer s H vs Q E hr h, b⟩
theorem MkAt.mk {x : Str} {C : Addr} {qual : Str} {st : Stmt} {ps N : List Str} {k : Nat} {sp : Sp} (D : MkAt K mg x C qual st ps) (S : FnScope N ps (defScope st)) (len : ∀ vs H Q E, sp vs H Q E → vs.length = ps.length) (body : BodyOk P w K mg base N qual st k sp) :
    Mkc P w K mg base L2.CX0 (k + 1) x C sp := by
  obtain ⟨f, fd, F, M, hm, b⟩ := D
  exact ⟨f, fd, ps, M, F.ok S len fun cdv A outer s H vs Q E hr h => body f cdv A outer s H vs Q E hr h, hm, b⟩
end
end Wk
namespace Wk
set_option linter.all false
set_option maxRecDepth 100000
open PySem L2
/-- what the top has left -/
structure Txt (K : PySem.W.Frag) (mg : Str → Option Value) (CP CB CT CE : Addr) : Prop where
  n_abs : mg "abs" = none
  n_isinstance : mg "isinstance" = none
  n_int : mg "int" = none
  n_bool : mg "bool" = none
  n_len : mg "len" = none
  n_list : mg "list" = none
  n_tuple : mg "tuple" = none
  n_range : mg "range" = none
  n_max : mg "max" = none
  n_all : mg "all" = none
  n_repr : mg "repr" = none
  n_super : mg "super" = none
  n_ValueError : mg "ValueError" = none
  f_is_integer : DefAt K mg "is_integer" (top 2) ["value"]
  f_bezout_of : DefAt K mg "bezout_of" (top 3) ["one", "other"]
  f_divisor_of : DefAt K mg "divisor_of" (top 4) ["one", "other"]
  f_pairs_below : DefAt K mg "pairs_below" (top 5) ["number"]
  f_row_sum : DefAt K mg "row_sum" (top 7) ["one", "other"]
  f_row_times : DefAt K mg "row_times" (top 8) ["number", "row"]
  f_steered_one : DefAt K mg "steered_one" (top 9) ["point", "row", "value", "goal", "modulus"]
  f_steered : DefAt K mg "steered" (top 10) ["point", "rows", "values", "goal", "modulus"]
  f_forms_of : DefAt K mg "forms_of" (top 11) ["rows"]
  f_form_at : DefAt K mg "form_at" (top 12) ["form", "row"]
  f_need_place : DefAt K mg "need_place" (top 23) ["value"]
  f_need_places : DefAt K mg "need_places" (top 24) ["values"]
  f_x_of : DefAt K mg "x_of" (top 28) ["place"]
  f_y_of : DefAt K mg "y_of" (top 29) ["place"]
  f_area_of : DefAt K mg "area_of" (top 30) ["place"]
  f_put_right : DefAt K mg "put_right" (top 32) ["brew", "number", "part"]
  f_gathered : DefAt K mg "gathered" (top 33) ["brew", "many"]
  f_settled : DefAt K mg "settled" (top 34) ["brew", "upper", "lower", "root"]
  f_need_table : DefAt K mg "need_table" (top 37) ["value"]
  f_both_areas : DefAt K mg "both_areas" (top 39) ["one", "other", "goal", "row"]
  f_in_product : DefAt K mg "in_product" (top 40) ["one", "other", "place"]
  f_parted : DefAt K mg "parted" (top 41) ["one", "other", "place", "row"]
  f_law_begin : DefAt K mg "_law_begin" (top 43) ["_law_script"]
  f_law_draw : DefAt K mg "_law_draw" (top 44) ["_law_tape", "_law_limit"]
  f_law_pick : DefAt K mg "_law_pick" (top 45) ["_law_tape", "_law_some"]
  f_law_ten : DefAt K mg "_law_ten" (top 46) ["_law_figures_here"]
  f_law_long : DefAt K mg "_law_long" (top 47) ["_law_tape", "_law_figures_here"]
  f_law_size : DefAt K mg "_law_size" (top 48) ["_law_tape", "_law_figures_here"]
  f_law_number : DefAt K mg "_law_number" (top 49) ["_law_tape", "_law_figures_here"]
  f_law_gcd : DefAt K mg "_law_gcd" (top 50) ["_law_one", "_law_other"]
  f_law_whole_is : DefAt K mg "_law_whole_is" (top 51) ["_law_value", "_law_due"]
  f_law_truth : DefAt K mg "_law_truth" (top 52) ["_law_value", "_law_due"]
  f_law_mul : DefAt K mg "_law_mul" (top 53) ["_law_one", "_law_other"]
  f_law_undo : DefAt K mg "_law_undo" (top 54) ["_law_one"]
  f_law_pow : DefAt K mg "_law_pow" (top 55) ["_law_one", "_law_times"]
  f_law_prod : DefAt K mg "_law_prod" (top 56) ["_law_rows"]
  f_law_place : DefAt K mg "_law_place" (top 57) ["_law_row_here"]
  f_law_at : DefAt K mg "_law_at" (top 58) ["_law_place_here", "_law_row_here"]
  f_law_row : DefAt K mg "_law_row" (top 59) ["_law_place_here"]
  f_law_ledge_right : DefAt K mg "_law_ledge_right" (top 60) ["_law_rows", "_law_home"]
  f_law_figures : DefAt K mg "_law_figures" (top 61) ["_law_rows", "_law_home", "_law_row_here"]
  f_law_brewed : DefAt K mg "_law_brewed" (top 62) ["_law_told_here", "_law_recipe"]
  f_law_table_right : DefAt K mg "_law_table_right" (top 63) ["_law_table", "_law_told_here"]
  f_law_hidden : DefAt K mg "_law_hidden" (top 64) ["_law_tape", "_law_figures_here"]
  f_law_made : DefAt K mg "_law_made" (top 65) ["_law_tape", "_law_rows", "_law_home", "_law_figures_here"]
  f_law_told : DefAt K mg "_law_told" (top 66) ["_law_tape", "_law_figures_here"]
  f_law_kept_value : DefAt K mg "_law_kept_value" (top 67) ["_law_value", "_law_odd"]
  f_law_place_refused : DefAt K mg "_law_place_refused" (top 68) ["_law_call", "_law_odd"]
  f_law_parts_right : DefAt K mg "_law_parts_right" (top 69) ["_law_one", "_law_other", "_law_row_here"]
  f_law_ring_table : DefAt K mg "_law_ring_table" (top 70) ["_law_tape", "_law_ring"]
  f_law_all_rows : DefAt K mg "_law_all_rows" (top 71) ["_law_ring"]
  f_law_ring_right : DefAt K mg "_law_ring_right" (top 72) ["_law_tape"]
  f_law_denied_right : DefAt K mg "_law_denied_right" (top 73) ["_law_table", "_law_other", "_law_odd", "_law_near"]
  f_law : DefAt K mg "law" (top 74) ["_law_script"]
  m_Place_mul : MthAt K CP "__mul__" "Place.__mul__" (inClass (top 22) 2) ["self", "other"]
  m_Place_invert : MthAt K CP "__invert__" "Place.__invert__" (inClass (top 22) 3) ["self"]
  m_Place_power : MthAt K CP "power" "Place.power" (inClass (top 22) 4) ["self", "number"]
  m_Brew_line : MthAt K CB "line" "Brew.line" (inClass (top 27) 1) ["self", "one", "times", "other"]
  m_Brew_undone : MthAt K CB "undone" "Brew.undone" (inClass (top 27) 2) ["self", "number"]
  m_Brew_led_down : MthAt K CB "led_down" "Brew.led_down" (inClass (top 27) 3) ["self", "upper", "lower", "part"]
  m_Table_eq : MthAt K CT "__eq__" "Table.__eq__" (inClass (top 35) 1) ["self", "other"]
  m_Table_contains : MthAt K CT "__contains__" "Table.__contains__" (inClass (top 35) 2) ["self", "place"]
  m_Table_ends : MthAt K CT "ends" "Table.ends" (inClass (top 35) 6) ["self"]
  m_Table_figures : MthAt K CT "figures" "Table.figures" (inClass (top 35) 7) ["self", "place"]
  m_Table_over : MthAt K CT "over" "Table.over" (inClass (top 35) 9) ["self", "row"]
  k_Place : MkAt K mg "Place" CP "Place.__init__" (inClass (top 22) 0) ["self", "x", "y", "area"]
  k_Brew : MkAt K mg "Brew" CB "Brew.__init__" (inClass (top 27) 0) ["self", "told"]
  k_Table : MkAt K mg "Table" CT "Table.__init__" (inClass (top 35) 0) ["self", "told"]
  cl_Place : Cls K CP
  cl_Brew : Cls K CB
  cl_Table : Cls K CT
  a_CP_x : NoAttr K CP "x"
  a_CP_y : NoAttr K CP "y"
  a_CP_area : NoAttr K CP "area"
  a_CB_stock : NoAttr K CB "stock"
  a_CB_lines : NoAttr K CB "lines"
  a_CT_told : NoAttr K CT "told"
  a_CT_ledge : NoAttr K CT "ledge"
  a_CT_home : NoAttr K CT "home"
  a_CT_recipe : NoAttr K CT "recipe"
  a_CT_made : NoAttr K CT "made"
  plFirst : PySem.W.selfFirst K CP = true
  g_Place : mg "Place" = some (.ref CP)
  g_Table : mg "Table" = some (.ref CT)
  isP : C8.InsC K CP
  isT : C8.InsC K CT
  kPT : PySem.W.kitOne K (.ref CP) (.ref CT) = some false
  kTP : PySem.W.kitOne K (.ref CT) (.ref CP) = some false
  kOdd : ∀ n ∈ (["NoneType", "int", "tuple", "str", "list", "bool"] : List String), PySem.W.kitOne K (.type n) (.ref CP) = some false ∧ PySem.W.kitOne K (.type n) (.ref CT) = some false
  most : ∃ u, mg "MOST_TOLD" = some u ∧ RelV (.int 8) u

end Wk
namespace Wk
set_option linter.all false
set_option maxRecDepth 100000
set_option maxHeartbeats 4000000
open PySem L2
local macro_rules | `(tactic| walk_at "cy") => `(tactic| first
  | assumption
  | ((with_reducible refine' at_mono (H := ?H) ?s ?h); (case s => assumption); (case h => walk_at "cy"))
  | ((with_reducible refine' PlAt.mono (H := ?H) ?s ?h); (case s => assumption); (case h => walk_at "cy")))
local macro_rules | `(tactic| walk_at "rd1") => `(tactic| first
  | (with_reducible refine' rd_seq ?_) | (with_reducible refine' rd_asg ?_) | (with_reducible refine' rd_par ?_) | (with_reducible refine' rd_ret ?_)
  | (with_reducible refine' rd_ifs ?_) | (with_reducible refine' rd_drop ?_) | (with_reducible refine' rd_next ?_) | (with_reducible refine' rd_asgG ?_)
  | ((with_reducible refine' rd_var (v := ?v) ?e ?h); (case e => exact rfl)) | (with_reducible refine' rd_c ?_) | (with_reducible refine' rd_op ?_) | (with_reducible refine' rd_un ?_)
  | (with_reducible refine' rd_cb ?_) | (with_reducible refine' rd_cons ?_) | (with_reducible refine' rd_nil ?_)
  | (with_reducible refine' rd_I0 ?_) | (with_reducible refine' rd_U ?_) | (with_reducible refine' rd_eqI ?_) | (with_reducible refine' rd_neI ?_)
  | (with_reducible refine' rd_test ?_) | (with_reducible refine' rd_bl ?_) | (with_reducible refine' rd_not ?_) | (with_reducible refine' rd_and ?_) | (with_reducible refine' rd_or ?_)
  | (with_reducible refine' rd_t ?_) | (with_reducible refine' rd_f ?_) | (with_reducible refine' rd_nt ?_) | (with_reducible refine' rd_nf ?_)
  | (with_reducible refine' rd_andV ?_) | (with_reducible refine' rd_orV ?_) | (with_reducible refine' rd_notV ?_) | (with_reducible refine' rd_B ?_) | (with_reducible refine' rd_forR1 ?_) | (with_reducible refine' rd_forR2 ?_) | (with_reducible refine' rd_for ?_) | (with_reducible refine' rd_iT ?_) | (with_reducible refine' rd_iL ?_) | (with_reducible refine' rd_lc ?_)
  | (with_reducible refine' rd_if ?_) | (with_reducible refine' rd_isNr ?_) | (with_reducible refine' rd_isN0 ?_) | (with_reducible refine' rd_notNr ?_) | (with_reducible refine' rd_notN0 ?_) | (with_reducible refine' rd_abs ?_) | ((with_reducible refine' rd_lenL (xs := ?xs) ?f ?h); (case f => walk_at "cy")) | ((with_reducible refine' rd_lenT (xs := ?xs) ?f ?h); (case f => walk_at "cy")) | (with_reducible refine' rd_mt ?_) | (with_reducible refine' rd_bm ?_) | (with_reducible refine' rd_tru ?_) | (with_reducible refine' rd_truInt ?_) | (with_reducible refine' rd_fld ?_)
  | ((with_reducible refine' rd_ixT (xs := ?xs) (v := ?v) ?f ?e ?h); (case f => walk_at "cy"); (case e => exact rfl))
  | ((with_reducible refine' rd_ixL (xs := ?xs) (v := ?v) ?f ?e ?h); (case f => walk_at "cy"); (case e => exact rfl))
  | ((with_reducible refine' rd_gtup (xs := ?xs) ?f ?e ?h); (case f => walk_at "cy"); (case e => exact rfl))
  | (with_reducible refine' rd_gcons ?_) | (with_reducible refine' rd_gnil ?_) | (with_reducible refine' rd_gname ?_))
local macro_rules | `(tactic| walk_at "rd") => `(tactic| repeat walk_at "rd1")
section
variable {P : Program} {w : World} {K : PySem.W.Frag} {mg : Str → Option Value} {base : Heap} {CP CB CT CE : Addr}
def T2 (H : Hp) (p : Addr) (u : P2) : Prop := H p = some (.tup [.int u.1, .int u.2])
theorem T2.mono {H H' : Hp} {p : Addr} {u : P2} (s : Same H H') (h : T2 H p u) : T2 H' p u := s _ _ h
/-! ### numbers -/
abbrev s_pairs_below : Stmt := top 5
def N_pairs_below : List Str := ["number"]
theorem sc_pairs_below : FnScope ["number"] ["number"] (defScope s_pairs_below) := ⟨rfl, rfl, rfl, by decide +kernel, rfl, by decide +kernel, by decide +kernel⟩
def spPairs : Sp := fun vs H Q _ => ∃ (n : Int) (k : Nat), vs = [.int n] ∧ Fits k n ∧ k ≤ 10000000 ∧ Q (.int (tri n)) H
theorem ok_pairs_below (T : Txt K mg CP CB CT CE) : Cal P w K mg base L2.CX0 1 "pairs_below" spPairs := by
  refine T.f_pairs_below.cal sc_pairs_below (fun vs H Q E ⟨n, k, h, _⟩ => by subst h; rfl) (N := N_pairs_below) fun f cdv A outer s H vs Q E hr h => ?_
  obtain ⟨n, k, rfl, hn, hk, h⟩ := h
  refine ⟨_, (pss_one (ps_ret (pe_op op_fdX (pe_op op_mulX (pv 0) (pe_op op_sub (pv 0) pe_int)) pe_int))), ?_⟩
  walk_at "rd"
  refine rd_I (mul_ok hn (hn.sub (Fits.one (a := 1) (by decide)) (k := k + 2) (by omega) (by omega)) (by omega)) ?_
  walk_at "rd"
  refine rd_I ⟨by decide, Fits.of_lt (b := 3) (by decide) (Nat.le_trans (by decide : 3 ≤ 2 ^ 2) (Nat.pow_le_pow_right (by decide) (by decide)))⟩ ?_
  rw [Int.fdiv_eq_ediv_of_nonneg _ (by decide)]
  exact h
abbrev s_divisor_of : Stmt := top 4
def N_divisor_of : List Str := ["one", "other"]
theorem sc_divisor_of : FnScope ["one", "other"] ["one", "other"] (defScope s_divisor_of) := ⟨rfl, rfl, rfl, by decide +kernel, rfl, by decide +kernel, by decide +kernel⟩
def spDiv : Sp := fun vs H Q _ => ∃ (a b : Int), vs = [.int a, .int b] ∧ Q (.int (Int.gcd a b)) H
theorem ok_divisor_of (T : Txt K mg CP CB CT CE) : Cal P w K mg base L2.CX0 1 "divisor_of" spDiv := by
  refine T.f_divisor_of.cal sc_divisor_of (fun vs H Q E ⟨a, b, h, _⟩ => by subst h; rfl) (N := N_divisor_of) fun f cdv A outer s H vs Q E hr h => ?_
  obtain ⟨a, b, rfl, h⟩ := h
  refine ⟨_, (pss_cons (ps_par (i := 0) (j := 1) rfl sc_divisor_of.nd rfl rfl (by decide) rfl rfl (pa_cons (pe_callB call_absS (by rfl) T.n_abs (by decide +kernel) (pa_cons (pv 0) pa_nil)) (pa_cons (pe_callB call_absS (by rfl) T.n_abs (by decide +kernel) (pa_cons (pv 1) pa_nil)) pa_nil)) (by rfl))
 (pss_cons (ps_while PassesOwn.never (pt_cmpR op_gt (pv 1) pe_int (nomark _)) (pss_one (ps_par (i := 0) (j := 1) rfl sc_divisor_of.nd rfl rfl (by decide) rfl rfl (pa_cons (pv 1) (pa_cons (pe_op op_modN (pv 0) (pv 1)) pa_nil)) (by rfl))))
 (pss_one (ps_ret (pv 0))))), ?_⟩
  walk_at "rd"
  refine rd_while (fun m σ' H' => ∃ x y : Int, σ' = [some (.int x), some (.int y)] ∧ H' = H ∧ 0 ≤ x ∧ 0 ≤ y ∧ y.toNat = m ∧ Int.gcd x y = Int.gcd a b) (if b < 0 then -b else b).toNat
    ⟨(if a < 0 then -a else a), (if b < 0 then -b else b), rfl, rfl, by split <;> omega, by split <;> omega, rfl, ?_⟩ ?_
  · split <;> split <;> simp
  rintro m σ' H' ⟨x, y, rfl, rfl, hx, hy, hm, hg⟩
  walk_at "rd"
  refine rd_dec (fun hc => ?_) (fun hc => ?_)
  · refine rd_turn ?_
    walk_at "rd"
    refine rd_I (by omega) ?_
    have h1 := Int.fmod_lt_of_pos x hc
    have h2 := Int.fmod_nonneg_of_pos x hc
    refine ⟨_, ?_, y, _, rfl, rfl, by omega, h2, rfl, ?_⟩
    · omega
    · rw [gcd_step x y]; exact hg
  · walk_at "rd"
    have e : y = 0 := by omega
    subst e
    have e2 : ((Int.gcd x 0 : Nat) : Int) = x := by simp; omega
    rw [← hg, e2] at h
    exact h
abbrev s_bezout_of : Stmt := top 3
def N_bezout_of : List Str := ["one", "other", "row", "below", "times"]
theorem sc_bezout_of : FnScope ["one", "other", "row", "below", "times"] ["one", "other"] (defScope s_bezout_of) := ⟨rfl, rfl, rfl, by decide +kernel, rfl, by decide +kernel, by decide +kernel⟩
structure Bz (a b g s t : Int) (k : Nat) : Prop where
  gcd : g = Int.gcd a b
  eq : s * a + t * b = g
  fs : Fits (k + 1) s
  ft : Fits (k + 1) t
  fg : Fits k g
def spBz : Sp := fun vs H Q _ => ∃ (a b : Int) (k : Nat), vs = [.int a, .int b] ∧ Fits k a ∧ Fits k b ∧ k ≤ 8999 ∧
  ∀ p H' g s t, Same H H' → H' p = some (.tup [.int g, .int s, .int t]) → Bz a b g s t k → Q (.ref p) H'
/-- the loop's word -/
structure BzI (a b x s t y u v : Int) (k : Nat) : Prop where
  x0 : 0 ≤ x
  y0 : 0 ≤ y
  gcd : Int.gcd x y = Int.gcd a b
  e1 : s * a + t * b = x
  e2 : u * a + v * b = y
  fx : Fits k x
  fy : Fits k y
  m1 : u.natAbs * x.natAbs + s.natAbs * y.natAbs ≤ b.natAbs
  m2 : v.natAbs * x.natAbs + t.natAbs * y.natAbs ≤ a.natAbs
  ls : s.natAbs ≤ b.natAbs + 1
  lu : u.natAbs ≤ b.natAbs + 1
  lt : t.natAbs ≤ a.natAbs + 1
  lv : v.natAbs ≤ a.natAbs + 1
theorem mul_tri (q u : Int) (A B : Nat) (h : A = q.natAbs * u.natAbs) (e : (q * u).natAbs = B) : B = A := by rw [← e, h, Int.natAbs_mul]
theorem bz_bound {s u q x y r : Int} {B : Nat} (hx : x = y * q + r) (h0 : 0 ≤ q) (hy : 0 < y) (hr : 0 ≤ r) (h : u.natAbs * x.natAbs + s.natAbs * y.natAbs ≤ B) : (s - q * u).natAbs * y.natAbs + u.natAbs * r.natAbs ≤ B := by
  have e1 : (s - q * u).natAbs ≤ s.natAbs + q.natAbs * u.natAbs := by
    have := Int.natAbs_sub_le s (q * u)
    rw [Int.natAbs_mul] at this
    exact this
  have hyq : 0 ≤ y * q := Int.mul_nonneg (by omega) h0
  have e2 : x.natAbs = y.natAbs * q.natAbs + r.natAbs := by
    have e3 : (y * q).natAbs = y.natAbs * q.natAbs := Int.natAbs_mul y q
    omega
  have e4 := Nat.mul_le_mul_right y.natAbs e1
  rw [e2] at h
  have e5 : u.natAbs * (y.natAbs * q.natAbs + r.natAbs) + s.natAbs * y.natAbs = (s.natAbs + q.natAbs * u.natAbs) * y.natAbs + u.natAbs * r.natAbs := by grind
  omega
theorem bz_step {a b x s t y u v : Int} {k : Nat} (I : BzI a b x s t y u v k) (hy : 0 < y) :
    BzI a b y u v (x - x.fdiv y * y) (s - x.fdiv y * u) (t - x.fdiv y * v) k ∧ (x - x.fdiv y * y) = x.fmod y := by
  have e := Int.mul_fdiv_add_fmod x y
  have e0 : x - x.fdiv y * y = x.fmod y := by rw [Int.mul_comm (x.fdiv y) y]; omega
  have h1 := Int.fmod_nonneg_of_pos x hy
  have h2 := Int.fmod_lt_of_pos x hy
  have q0 : 0 ≤ x.fdiv y := by
    rw [Int.fdiv_eq_ediv_of_nonneg _ (by omega)]
    exact Int.ediv_nonneg I.x0 (by omega)
  refine ⟨?_, e0⟩
  rw [e0]
  have g := gcd_step x y
  generalize x.fdiv y = q at *
  generalize x.fmod y = r at *
  have b1 := bz_bound e.symm q0 hy h1 I.m1
  have b2 := bz_bound e.symm q0 hy h1 I.m2
  have y1 : 1 ≤ y.natAbs := by omega
  refine ⟨I.y0, h1, ?_, I.e2, ?_, I.fy, I.fy.le (by omega), b1, b2, I.lu, ?_, I.lv, ?_⟩
  · rw [g]
    exact I.gcd
  · have := I.e1; have := I.e2; grind
  · have := Nat.le_mul_of_pos_right (s - q * u).natAbs y1; omega
  · have := Nat.le_mul_of_pos_right (t - q * v).natAbs y1; omega
theorem nat_pos_mul {a b B : Nat} (h : a * b ≤ B) (hb : 0 < b) : a ≤ B := Nat.le_trans (Nat.le_mul_of_pos_right a hb) h
theorem fits_le1 {k : Nat} {a b : Int} (h : Fits k b) (e : a.natAbs ≤ b.natAbs + 1) : Fits (k + 1) a := by
  have h1 := h.lt
  refine ⟨?_⟩
  have : 2 ^ (k + 1) = 2 ^ k + 2 ^ k := by rw [Nat.pow_succ]; omega
  have := Nat.pow_pos (n := k) (show 0 < 2 by decide)
  omega
theorem ok_bezout_of (T : Txt K mg CP CB CT CE) : Cal P w K mg base L2.CX0 1 "bezout_of" spBz := by
  refine T.f_bezout_of.cal sc_bezout_of (fun vs H Q E ⟨a, b, k, h, _⟩ => by subst h; rfl) (N := N_bezout_of) fun f cdv A outer s H vs Q E hr h => ?_
  obtain ⟨a, b, k, rfl, ha, hb, hk, h⟩ := h
  refine ⟨_, (pss_cons (ps_par (i := 2) (j := 3) rfl sc_bezout_of.nd rfl rfl (by decide) rfl rfl (pa_cons (tupS (pa_cons (pe_callB call_absS (by rfl) T.n_abs (by decide +kernel) (pa_cons (pv 0) pa_nil)) (pa_cons (pe_ifExp (pt_cmpR op_ge (pv 0) pe_int (nomark _)) pe_int (pe_un un_neg pe_int)) (pa_cons pe_int pa_nil)))) (pa_cons (tupS (pa_cons (pe_callB call_absS (by rfl) T.n_abs (by decide +kernel) (pa_cons (pv 1) pa_nil)) (pa_cons pe_int (pa_cons (pe_ifExp (pt_cmpR op_ge (pv 1) pe_int (nomark _)) pe_int (pe_un un_neg pe_int)) pa_nil)))) pa_nil)) (by rfl))
 (pss_cons (ps_while PassesOwn.never (pt_cmpR op_gt (pe_ix (ixTK (K := K) rfl) (pv 3) pe_int (fun _ _ => rfl)) pe_int (nomark _)) (pss_cons (ps_set (i := 4) sc_bezout_of.nd rfl (Or.inl rfl) (pe_op op_fdX (pe_ix (ixTK (K := K) rfl) (pv 2) pe_int (fun _ _ => rfl)) (pe_ix (ixTK (K := K) rfl) (pv 3) pe_int (fun _ _ => rfl))))
 (pss_one (ps_par (i := 2) (j := 3) rfl sc_bezout_of.nd rfl rfl (by decide) rfl rfl (pa_cons (pv 3) (pa_cons (tupS (pa_cons (pe_op op_sub (pe_ix (ixTK (K := K) rfl) (pv 2) pe_int (fun _ _ => rfl)) (pe_op op_mulX (pv 4) (pe_ix (ixTK (K := K) rfl) (pv 3) pe_int (fun _ _ => rfl)))) (pa_cons (pe_op op_sub (pe_ix (ixTK (K := K) rfl) (pv 2) pe_int (fun _ _ => rfl)) (pe_op op_mulX (pv 4) (pe_ix (ixTK (K := K) rfl) (pv 3) pe_int (fun _ _ => rfl)))) (pa_cons (pe_op op_sub (pe_ix (ixTK (K := K) rfl) (pv 2) pe_int (fun _ _ => rfl)) (pe_op op_mulX (pv 4) (pe_ix (ixTK (K := K) rfl) (pv 3) pe_int (fun _ _ => rfl)))) pa_nil)))) pa_nil)) (by rfl)))))
 (pss_one (ps_ret (pv 2))))), ?_⟩
  have sg : ∀ a : Int, ∃ e : Int, (if decide (0 ≤ a) = true then V.int 1 else V.int (-1)) = V.int e ∧ e * a = (if a < 0 then -a else a) ∧ e.natAbs = 1 := fun a => by
    by_cases z : 0 ≤ a
    · exact ⟨1, by rw [decide_eq_true z]; rfl, by rw [if_neg (by omega)]; omega, rfl⟩
    · exact ⟨-1, by rw [decide_eq_false z]; rfl, by rw [if_pos (by omega)]; omega, rfl⟩
  walk_at "rd"
  refine rd_join (x := .int 1) (y := .int (-1)) (fun Q q => by walk_at "rd"; exact q) (fun Q q => by walk_at "rd"; exact q) ?_
  obtain ⟨e1, z1, q1, n1⟩ := sg a
  rw [z1]
  walk_at "rd"
  refine rd_new fun p1 H1 f1 s1 h1 => ?_
  walk_at "rd"
  refine rd_join (x := .int 1) (y := .int (-1)) (fun Q q => by walk_at "rd"; exact q) (fun Q q => by walk_at "rd"; exact q) ?_
  obtain ⟨e2, z2, q2, n2⟩ := sg b
  rw [z2]
  walk_at "rd"
  refine rd_new fun p2 H2 f2 s2 h2 => ?_
  walk_at "rd"
  have ab : ∀ a : Int, (if a < 0 then -a else a).natAbs = a.natAbs := fun a => by split <;> omega
  refine rd_while (fun m σ' H' => ∃ (p q : Addr) (c : Option V) (x s t y u v : Int), σ' = [some (.int a), some (.int b), some (.ref p), some (.ref q), c] ∧ Same H H' ∧ H' p = some (.tup [.int x, .int s, .int t]) ∧ H' q = some (.tup [.int y, .int u, .int v]) ∧ y.toNat = m ∧ BzI a b x s t y u v k)
    (if b < 0 then -b else b).toNat ⟨p1, p2, none, _, _, _, _, _, _, rfl, s1.trans s2, s2 _ _ h1, h2, rfl, ⟨by split <;> omega, by split <;> omega, ?_, by rw [q1]; omega, by rw [q2]; omega, ha.le (by rw [ab]; omega), hb.le (by rw [ab]; omega), by rw [ab, ab, n1]; simp, by rw [ab, ab, n2]; simp, by omega, by simp, by simp, by omega⟩⟩ ?_
  · show Nat.gcd _ _ = Nat.gcd _ _
    rw [ab, ab]
  rintro m σ' H' ⟨p, q, c, x, s, t, y, u, v, rfl, sh, hp, hq, hm, I⟩
  walk_at "rd"
  refine rd_dec (fun hc => ?_) (fun hc => ?_)
  · refine rd_turn ?_
    have hd : DivOk x y := ⟨by omega, I.fy.mono hk⟩
    obtain ⟨J, ef⟩ := bz_step I hc
    have fq : Fits k (x.fdiv y) := I.fx.fdiv y
    have mu : ∀ z : Int, z.natAbs ≤ b.natAbs + 1 ∨ z.natAbs ≤ a.natAbs + 1 → IntMulOk (x.fdiv y) z := fun z hz => mul_ok fq (b := k + 1) (hz.elim (fun h => fits_le1 hb h) fun h => fits_le1 ha h) (by omega)
    walk_at "rd"
    refine rd_I hd ?_
    walk_at "rd"
    refine rd_I (mul_ok fq I.fy (by omega)) ?_
    walk_at "rd"
    refine rd_I (mu u (.inl I.lu)) ?_
    walk_at "rd"
    refine rd_I (mu v (.inr I.lv)) ?_
    walk_at "rd"
    refine rd_new fun p3 H3 f3 s3 h3 => ?_
    refine ⟨_, ?_, q, p3, _, _, _, _, _, _, _, rfl, sh.trans s3, s3 _ _ hq, h3, rfl, J⟩
    have h1 := Int.fmod_lt_of_pos x hc
    have h2 := Int.fmod_nonneg_of_pos x hc
    rw [← ef] at h1 h2
    omega
  · walk_at "rd"
    have e : y = 0 := by have := I.y0; omega
    subst e
    refine h p H' x s t sh hp ⟨?_, I.e1, fits_le1 hb I.ls, fits_le1 ha I.lt, I.fx⟩
    rw [← I.gcd]
    have := I.x0
    simp
    omega
abbrev s_row_sum : Stmt := top 7
def N_row_sum : List Str := ["one", "other"]
theorem sc_row_sum : FnScope ["one", "other"] ["one", "other"] (defScope s_row_sum) := ⟨rfl, rfl, rfl, by decide +kernel, rfl, by decide +kernel, by decide +kernel⟩
def spRowSum : Sp := fun vs H Q _ => ∃ (p q : Addr) (u v : P2), vs = [.ref p, .ref q] ∧ T2 H p u ∧ T2 H q v ∧ ∀ r H', Same H H' → T2 H' r (padd u v) → Q (.ref r) H'
theorem ok_row_sum (T : Txt K mg CP CB CT CE) : Cal P w K mg base L2.CX0 1 "row_sum" spRowSum := by
  refine T.f_row_sum.cal sc_row_sum (fun vs H Q E ⟨p, q, u, v, h, _⟩ => by subst h; rfl) (N := N_row_sum) fun f cdv A outer s H vs Q E hr h => ?_
  obtain ⟨p, q, u, v, rfl, hp, hq, h⟩ := h
  refine ⟨_, (pss_one (ps_ret (tupS (pa_cons (pe_op op_add (pe_ix (ixTK (K := K) rfl) (pv 0) pe_int (fun _ _ => rfl)) (pe_ix (ixTK (K := K) rfl) (pv 1) pe_int (fun _ _ => rfl))) (pa_cons (pe_op op_add (pe_ix (ixTK (K := K) rfl) (pv 0) pe_int (fun _ _ => rfl)) (pe_ix (ixTK (K := K) rfl) (pv 1) pe_int (fun _ _ => rfl))) pa_nil))))), ?_⟩
  walk_at "rd"
  exact rd_new fun p3 H3 f3 s3 h3 => h p3 H3 s3 h3
abbrev s_row_times : Stmt := top 8
def N_row_times : List Str := ["number", "row"]
theorem sc_row_times : FnScope ["number", "row"] ["number", "row"] (defScope s_row_times) := ⟨rfl, rfl, rfl, by decide +kernel, rfl, by decide +kernel, by decide +kernel⟩
def spRowTimes : Sp := fun vs H Q _ => ∃ (n : Int) (q : Addr) (v : P2) (k : Nat), vs = [.int n, .ref q] ∧ T2 H q v ∧ Fits k n ∧ Fits k v.1 ∧ Fits k v.2 ∧ k ≤ 1000000 ∧ ∀ r H', Same H H' → T2 H' r (psc n v) → Q (.ref r) H'
theorem ok_row_times (T : Txt K mg CP CB CT CE) : Cal P w K mg base L2.CX0 1 "row_times" spRowTimes := by
  refine T.f_row_times.cal sc_row_times (fun vs H Q E ⟨p, q, u, v, h, _⟩ => by subst h; rfl) (N := N_row_times) fun f cdv A outer s H vs Q E hr h => ?_
  obtain ⟨n, q, v, k, rfl, hq, hn, h1, h2, hk, h⟩ := h
  refine ⟨_, (pss_one (ps_ret (tupS (pa_cons (pe_op op_mulX (pv 0) (pe_ix (ixTK (K := K) rfl) (pv 1) pe_int (fun _ _ => rfl))) (pa_cons (pe_op op_mulX (pv 0) (pe_ix (ixTK (K := K) rfl) (pv 1) pe_int (fun _ _ => rfl))) pa_nil))))), ?_⟩
  walk_at "rd"
  refine rd_I (mul_ok hn h1 (by omega)) ?_
  walk_at "rd"
  refine rd_I (mul_ok hn h2 (by omega)) ?_
  walk_at "rd"
  exact rd_new fun p3 H3 f3 s3 h3 => h p3 H3 s3 h3
abbrev s_form_at : Stmt := top 12
def N_form_at : List Str := ["form", "row"]
theorem sc_form_at : FnScope ["form", "row"] ["form", "row"] (defScope s_form_at) := ⟨rfl, rfl, rfl, by decide +kernel, rfl, by decide +kernel, by decide +kernel⟩
def spFormAt : Sp := fun vs H Q _ => ∃ (p q : Addr) (u v : P2) (k : Nat), vs = [.ref p, .ref q] ∧ T2 H p u ∧ T2 H q v ∧ Fits k u.1 ∧ Fits k u.2 ∧ Fits k v.1 ∧ Fits k v.2 ∧ k ≤ 1000000 ∧ Q (.int (fat u v)) H
theorem ok_form_at (T : Txt K mg CP CB CT CE) : Cal P w K mg base L2.CX0 1 "form_at" spFormAt := by
  refine T.f_form_at.cal sc_form_at (fun vs H Q E ⟨p, q, u, v, k, h, _⟩ => by subst h; rfl) (N := N_form_at) fun f cdv A outer s H vs Q E hr h => ?_
  obtain ⟨p, q, u, v, k, rfl, hp, hq, h1, h2, h3, h4, hk, h⟩ := h
  refine ⟨_, (pss_one (ps_ret (pe_op op_add (pe_op op_mulX (pe_ix (ixTK (K := K) rfl) (pv 0) pe_int (fun _ _ => rfl)) (pe_ix (ixTK (K := K) rfl) (pv 1) pe_int (fun _ _ => rfl))) (pe_op op_mulX (pe_ix (ixTK (K := K) rfl) (pv 0) pe_int (fun _ _ => rfl)) (pe_ix (ixTK (K := K) rfl) (pv 1) pe_int (fun _ _ => rfl)))))), ?_⟩
  walk_at "rd"
  refine rd_I (mul_ok h1 h3 (by omega)) ?_
  walk_at "rd"
  refine rd_I (mul_ok h2 h4 (by omega)) ?_
  walk_at "rd"
  exact h
end
end Wk
namespace Wk
set_option linter.all false
set_option maxRecDepth 100000
set_option maxHeartbeats 4000000
open PySem L2
local macro_rules | `(tactic| walk_at "cy") => `(tactic| first
  | assumption
  | ((with_reducible refine' at_mono (H := ?H) ?s ?h); (case s => assumption); (case h => walk_at "cy"))
  | ((with_reducible refine' PlAt.mono (H := ?H) ?s ?h); (case s => assumption); (case h => walk_at "cy")))
local macro_rules | `(tactic| walk_at "rd1") => `(tactic| first
  | (with_reducible refine' rd_seq ?_) | (with_reducible refine' rd_asg ?_) | (with_reducible refine' rd_par ?_) | (with_reducible refine' rd_ret ?_)
  | (with_reducible refine' rd_ifs ?_) | (with_reducible refine' rd_drop ?_) | (with_reducible refine' rd_next ?_) | (with_reducible refine' rd_asgG ?_)
  | ((with_reducible refine' rd_var (v := ?v) ?e ?h); (case e => exact rfl)) | (with_reducible refine' rd_c ?_) | (with_reducible refine' rd_op ?_) | (with_reducible refine' rd_un ?_)
  | (with_reducible refine' rd_cb ?_) | (with_reducible refine' rd_cons ?_) | (with_reducible refine' rd_nil ?_)
  | (with_reducible refine' rd_I0 ?_) | (with_reducible refine' rd_U ?_) | (with_reducible refine' rd_eqI ?_) | (with_reducible refine' rd_neI ?_)
  | (with_reducible refine' rd_test ?_) | (with_reducible refine' rd_bl ?_) | (with_reducible refine' rd_not ?_) | (with_reducible refine' rd_and ?_) | (with_reducible refine' rd_or ?_)
  | (with_reducible refine' rd_t ?_) | (with_reducible refine' rd_f ?_) | (with_reducible refine' rd_nt ?_) | (with_reducible refine' rd_nf ?_)
  | (with_reducible refine' rd_andV ?_) | (with_reducible refine' rd_orV ?_) | (with_reducible refine' rd_notV ?_) | (with_reducible refine' rd_B ?_) | (with_reducible refine' rd_forR1 ?_) | (with_reducible refine' rd_forR2 ?_) | (with_reducible refine' rd_for ?_) | (with_reducible refine' rd_iT ?_) | (with_reducible refine' rd_iL ?_) | (with_reducible refine' rd_lc ?_)
  | (with_reducible refine' rd_if ?_) | (with_reducible refine' rd_isNr ?_) | (with_reducible refine' rd_isN0 ?_) | (with_reducible refine' rd_notNr ?_) | (with_reducible refine' rd_notN0 ?_) | (with_reducible refine' rd_abs ?_) | ((with_reducible refine' rd_lenL (xs := ?xs) ?f ?h); (case f => walk_at "cy")) | ((with_reducible refine' rd_lenT (xs := ?xs) ?f ?h); (case f => walk_at "cy")) | (with_reducible refine' rd_mt ?_) | (with_reducible refine' rd_bm ?_) | (with_reducible refine' rd_tru ?_) | (with_reducible refine' rd_truInt ?_) | (with_reducible refine' rd_fld ?_)
  | ((with_reducible refine' rd_ixT (xs := ?xs) (v := ?v) ?f ?e ?h); (case f => walk_at "cy"); (case e => exact rfl))
  | ((with_reducible refine' rd_ixL (xs := ?xs) (v := ?v) ?f ?e ?h); (case f => walk_at "cy"); (case e => exact rfl))
  | ((with_reducible refine' rd_gtup (xs := ?xs) ?f ?e ?h); (case f => walk_at "cy"); (case e => exact rfl))
  | (with_reducible refine' rd_gcons ?_) | (with_reducible refine' rd_gnil ?_) | (with_reducible refine' rd_gname ?_))
local macro_rules | `(tactic| walk_at "rd") => `(tactic| repeat walk_at "rd1")
section
variable {P : Program} {w : World} {K : PySem.W.Frag} {mg : Str → Option Value} {base : Heap} {CP CB CT CE : Addr}
/-! ### places -/
theorem rd_isInt {H : Hp} {Q : VK} {n : Int} (k : Q (.bl true) H) : rIsi K [.int n, .ty "int"] H Q := ⟨_, _, _, _, true, rfl, .ty _, .base (.int n), kit_ty (by decide +kernel), k⟩
theorem rd_isBool {H : Hp} {Q : VK} {n : Int} (k : Q (.bl false) H) : rIsi K [.int n, .ty "bool"] H Q := ⟨_, _, _, _, false, rfl, .ty _, .base (.int n), kit_ty (by decide +kernel), k⟩
theorem rd_isC {H : Hp} {Q : VK} {C p dx : Addr} {fs : List (Str × V)} (c : C8.InsC K C) (h : H p = some (.ins C dx fs)) (k : Q (.bl true) H) : rIsi K [.ref p, .ref C] H Q := ⟨_, _, _, _, true, rfl, .own C, .base (.ins h c.cl c.ha c.hn c.htk c.hm), c.me, k⟩
theorem rd_isP {H : Hp} {Q : VK} {p : Addr} {g : Pl} (T : Txt K mg CP CB CT CE) (h : PlAt CP H p g) (k : Q (.bl true) H) : rIsi K [.ref p, .ref CP] H Q := let ⟨_, e⟩ := h; rd_isC T.isP e k
theorem rd_px {H : Hp} {Q : VK} {p : Addr} {g : Pl} (T : Txt K mg CP CB CT CE) (h : PlAt CP H p g) (k : Q (.int g.x) H) : rFld K "x" (.ref p) H Q := let ⟨dx, e⟩ := h; ⟨p, CP, dx, _, _, rfl, e, T.cl_Place, T.a_CP_x, plF_x g, k⟩
theorem rd_py {H : Hp} {Q : VK} {p : Addr} {g : Pl} (T : Txt K mg CP CB CT CE) (h : PlAt CP H p g) (k : Q (.int g.y) H) : rFld K "y" (.ref p) H Q := let ⟨dx, e⟩ := h; ⟨p, CP, dx, _, _, rfl, e, T.cl_Place, T.a_CP_y, plF_y g, k⟩
theorem rd_pa {H : Hp} {Q : VK} {p : Addr} {g : Pl} (T : Txt K mg CP CB CT CE) (h : PlAt CP H p g) (k : Q (.int g.a) H) : rFld K "area" (.ref p) H Q := let ⟨dx, e⟩ := h; ⟨p, CP, dx, _, _, rfl, e, T.cl_Place, T.a_CP_area, plF_a g, k⟩
abbrev s_is_integer : Stmt := top 2
def N_is_integer : List Str := ["value"]
theorem sc_is_integer : FnScope ["value"] ["value"] (defScope s_is_integer) := ⟨rfl, rfl, rfl, by decide +kernel, rfl, by decide +kernel, by decide +kernel⟩
def spIsInt : Sp := fun vs H Q _ => ∃ n : Int, vs = [.int n] ∧ Q (.bl true) H
theorem ok_is_integer (T : Txt K mg CP CB CT CE) : Cal P w K mg base L2.CX0 1 "is_integer" spIsInt := by
  refine T.f_is_integer.cal sc_is_integer (fun vs H Q E ⟨n, h, _⟩ => by subst h; rfl) (N := N_is_integer) fun f cdv A outer s H vs Q E hr h => ?_
  obtain ⟨n, rfl, h⟩ := h
  refine ⟨_, (pss_one (ps_ret (pe_and (pe_callB (isiK (K := K) rfl) (by rfl) T.n_isinstance (by decide +kernel) (pa_cons (pv 0) (pa_cons (pe_bltn (v := .ty "int") (by rfl) T.n_int (by decide +kernel) rfl) pa_nil))) (pe_one (pe_not (pe_callB (isiK (K := K) rfl) (by rfl) T.n_isinstance (by decide +kernel) (pa_cons (pv 0) (pa_cons (pe_bltn (v := .ty "bool") (by rfl) T.n_bool (by decide +kernel) rfl) pa_nil)))))))), ?_⟩
  walk_at "rd"
  refine rd_isInt ?_
  walk_at "rd"
  refine rd_isBool ?_
  walk_at "rd"
  exact h
abbrev s_Place_init : Stmt := inClass (top 22) 0
def N_Place_init : List Str := ["self", "x", "y", "area", "value"]
theorem sc_Place_init : FnScope ["self", "x", "y", "area", "value"] ["self", "x", "y", "area"] (defScope s_Place_init) := ⟨rfl, rfl, rfl, by decide +kernel, rfl, by decide +kernel, by decide +kernel⟩
def spPlInit (CP : Addr) : Sp := fun vs H Q _ => ∃ (p dx : Addr) (x y a : Int), vs = [.ref p, .int x, .int y, .int a] ∧ H p = some (.ins CP dx []) ∧ ∀ H', (∀ b o, b ≠ p → H b = some o → H' b = some o) → PlAt CP H' p ⟨x, y, a⟩ → Q .non H'
theorem ok_Place (T : Txt K mg CP CB CT CE) : Mkc P w K mg base L2.CX0 2 "Place" CP (spPlInit CP) := by
  have g_is_integer := ok_is_integer (P := P) (w := w) (base := base) T
  refine T.k_Place.mk sc_Place_init (fun vs H Q E ⟨p, dx, x, y, a, h, _⟩ => by subst h; rfl) (N := N_Place_init) fun f cdv A outer s H vs Q E hr h => ?_
  obtain ⟨p, dx, x, y, a, rfl, hp, h⟩ := h
  refine ⟨_, (pss_cons (ps_for PassesOwn.never rfl (piT (K := K) rfl (tupS (pa_cons (pv 1) (pa_cons (pv 2) (pa_cons (pv 3) pa_nil))))) (pg_name (i := 4) sc_Place_init.nd rfl (Or.inl rfl)) (pss_one (ps_if (pt_not (pt_val (calS g_is_integer pass0 hr (by decide) (by rfl) (pa_cons (pv 4) pa_nil)))) (pss_one ps_never) pss_nil)))
 (pss_cons (ps_fld (pv 0) (pv 1) rfl)
 (pss_cons (ps_fld (pv 0) (pv 2) rfl)
 (pss_one (ps_fld (pv 0) (pv 3) rfl))))), ?_⟩
  walk_at "rd"
  refine rd_new fun t H1 n1 s1 h1 => ?_
  refine rd_forT h1 (fun i σ' H' => H' = H1 ∧ ∃ v, σ' = [some (.ref p), some (.int x), some (.int y), some (.int a), v]) ⟨rfl, none, rfl⟩ (fun i σ' H' _ h => by rw [h.1]; exact h1) ?_ ?_
  · rintro i z σ' H' hz ⟨rfl, v, rfl⟩
    obtain ⟨n, rfl⟩ : ∃ n : Int, z = .int n := by
      match i, hz with
      | 0, hz => exact ⟨x, (Option.some.inj hz).symm⟩
      | 1, hz => exact ⟨y, (Option.some.inj hz).symm⟩
      | 2, hz => exact ⟨a, (Option.some.inj hz).symm⟩
      | i + 3, hz => simp at hz
    walk_at "rd"
    refine ⟨n, rfl, ?_⟩
    walk_at "rd"
    exact ⟨rfl, some (.int n), rfl⟩
  · rintro σ' H' ⟨rfl, v, rfl⟩
    have hp1 := s1 _ _ hp
    walk_at "rd"
    refine ⟨_, rfl, _, rfl, p, CP, dx, [], rfl, hp1, T.cl_Place, T.a_CP_x, (by show 0 < 1000; decide), ?_⟩
    walk_at "rd"
    refine ⟨_, rfl, _, rfl, p, CP, dx, _, rfl, upd_same, T.cl_Place, T.a_CP_y, (by show 1 < 1000; decide), ?_⟩
    walk_at "rd"
    refine ⟨_, rfl, _, rfl, p, CP, dx, _, rfl, upd_same, T.cl_Place, T.a_CP_area, (by show 2 < 1000; decide), ?_⟩
    refine h _ (fun b o hb e => by rw [upd_ne hb, upd_ne hb, upd_ne hb]; exact s1 _ _ e) ⟨dx, ?_⟩
    rw [upd_same]
    have k1 : ¬ (("x" : Str) = "y") := by decide +kernel
    have k2 : ¬ (("x" : Str) = "area") := by decide +kernel
    have k3 : ¬ (("y" : Str) = "area") := by decide +kernel
    simp only [putF, k1, k2, k3, if_false, plF]
def rPlace (CP : Addr) : List V → Hp → VK → Prop := fun vs H Q => ∃ x y a : Int, vs = [.int x, .int y, .int a] ∧ ∀ p H', H p = none → Same H H' → PlAt CP H' p ⟨x, y, a⟩ → Q (.ref p) H'
theorem place_new {E : XK} : ∀ vs H Q, rPlace CP vs H Q → ∀ a dx, H a = none → H dx = none → dx ≠ a → spPlInit CP (.ref a :: vs) (upd (upd H dx (.own a)) a (.ins CP dx [])) (fun v H2 => v = .non ∧ Q (.ref a) H2) E := fun vs H Q ⟨x, y, ar, e, h⟩ a dx n1 n2 n3 => by
  subst e
  refine ⟨a, dx, x, y, ar, rfl, upd_same, fun H' s pl => ⟨rfl, h a H' n1 (fun b o e => s b o (ne_of_none e n1) ?_) pl⟩⟩
  rw [upd_ne (ne_of_none e n1), upd_ne (ne_of_none e n2)]
  exact e
abbrev s_Place_mul : Stmt := inClass (top 22) 2
def N_Place_mul : List Str := ["self", "other"]
theorem sc_Place_mul : FnScope ["self", "other"] ["self", "other"] (defScope s_Place_mul) := ⟨rfl, rfl, rfl, by decide +kernel, rfl, by decide +kernel, by decide +kernel⟩
def spMul (CP : Addr) : Sp := fun vs H Q _ => ∃ (p q : Addr) (g h : Pl) (k : Nat), vs = [.ref p, .ref q] ∧ PlAt CP H p g ∧ PlAt CP H q h ∧ Fits k g.x ∧ Fits k h.y ∧ k ≤ 10000000 ∧ ∀ r H', H r = none → Same H H' → PlAt CP H' r (g.mul h) → Q (.ref r) H'
theorem ok_mul (T : Txt K mg CP CB CT CE) : Mth P w K mg base L2.CX0 4 CP "__mul__" (spMul CP) := by
  have g_Place := ok_Place (P := P) (w := w) (base := base) T
  refine T.m_Place_mul.mth sc_Place_mul (fun vs H Q E ⟨p, q, g, h, k, e, _⟩ => by subst e; rfl) (N := N_Place_mul) fun f cdv A outer s H vs Q E hr h => ?_
  obtain ⟨p, q, g, g', k, rfl, hp, hq, f1, f2, hk, h⟩ := h
  refine ⟨_, (pss_cons (ps_if (pt_not (pt_val (pe_callB (isiK (K := K) rfl) (by rfl) T.n_isinstance (by decide +kernel) (pa_cons (pv 1) (pa_cons (pe_glob (v := .ref CP) rfl T.g_Place rfl) pa_nil))))) (pss_one ps_never) pss_nil)
 (pss_one (ps_ret (mkcS g_Place pass0 hr (by decide) (by rfl) place_new (pa_cons (pe_op op_add (fldK (K := K) rfl (pv 0) rfl) (fldK (K := K) rfl (pv 1) rfl)) (pa_cons (pe_op op_add (fldK (K := K) rfl (pv 0) rfl) (fldK (K := K) rfl (pv 1) rfl)) (pa_cons (pe_op op_add (pe_op op_add (fldK (K := K) rfl (pv 0) rfl) (fldK (K := K) rfl (pv 1) rfl)) (pe_op op_mulX (fldK (K := K) rfl (pv 0) rfl) (fldK (K := K) rfl (pv 1) rfl))) pa_nil))))))), ?_⟩
  walk_at "rd"
  refine rd_isP T hq ?_
  walk_at "rd"
  refine rd_px T hp ?_
  walk_at "rd"
  refine rd_px T hq ?_
  walk_at "rd"
  refine rd_py T hp ?_
  walk_at "rd"
  refine rd_py T hq ?_
  walk_at "rd"
  refine rd_pa T hp ?_
  walk_at "rd"
  refine rd_pa T hq ?_
  walk_at "rd"
  refine rd_px T hp ?_
  walk_at "rd"
  refine rd_py T hq ?_
  refine rd_I (mul_ok f1 f2 (by omega)) ?_
  walk_at "rd"
  exact ⟨_, _, _, rfl, fun r H' n s pl => h r H' n s pl⟩
abbrev s_Place_invert : Stmt := inClass (top 22) 3
def N_Place_invert : List Str := ["self"]
theorem sc_Place_invert : FnScope ["self"] ["self"] (defScope s_Place_invert) := ⟨rfl, rfl, rfl, by decide +kernel, rfl, by decide +kernel, by decide +kernel⟩
def spInv (CP : Addr) : Sp := fun vs H Q _ => ∃ (p : Addr) (g : Pl) (k : Nat), vs = [.ref p] ∧ PlAt CP H p g ∧ Fits k g.x ∧ Fits k g.y ∧ k ≤ 10000000 ∧ ∀ r H', H r = none → Same H H' → PlAt CP H' r g.inv → Q (.ref r) H'
theorem ok_inv (T : Txt K mg CP CB CT CE) : Mth P w K mg base L2.CX0 4 CP "__invert__" (spInv CP) := by
  have g_Place := ok_Place (P := P) (w := w) (base := base) T
  refine T.m_Place_invert.mth sc_Place_invert (fun vs H Q E ⟨p, g, k, e, _⟩ => by subst e; rfl) (N := N_Place_invert) fun f cdv A outer s H vs Q E hr h => ?_
  obtain ⟨p, g, k, rfl, hp, f1, f2, hk, h⟩ := h
  refine ⟨_, (pss_one (ps_ret (mkcS g_Place pass0 hr (by decide) (by rfl) place_new (pa_cons (pe_un un_neg (fldK (K := K) rfl (pv 0) rfl)) (pa_cons (pe_un un_neg (fldK (K := K) rfl (pv 0) rfl)) (pa_cons (pe_op op_sub (pe_op op_mulX (fldK (K := K) rfl (pv 0) rfl) (fldK (K := K) rfl (pv 0) rfl)) (fldK (K := K) rfl (pv 0) rfl)) pa_nil)))))), ?_⟩
  walk_at "rd"
  refine rd_px T hp ?_
  walk_at "rd"
  refine rd_py T hp ?_
  walk_at "rd"
  refine rd_px T hp ?_
  walk_at "rd"
  refine rd_py T hp ?_
  refine rd_I (mul_ok f1 f2 (by omega)) ?_
  walk_at "rd"
  refine rd_pa T hp ?_
  walk_at "rd"
  exact ⟨_, _, _, rfl, fun r H' n s pl => h r H' n s pl⟩
abbrev s_Place_power : Stmt := inClass (top 22) 4
def N_Place_power : List Str := ["self", "number"]
theorem sc_Place_power : FnScope ["self", "number"] ["self", "number"] (defScope s_Place_power) := ⟨rfl, rfl, rfl, by decide +kernel, rfl, by decide +kernel, by decide +kernel⟩
def FP (k : Nat) (g : Pl) : Prop := Fits k g.x ∧ Fits k g.y ∧ Fits k g.a
theorem FP.mono {a b : Nat} {g : Pl} (h : FP a g) (e : a ≤ b) : FP b g := ⟨h.1.mono e, h.2.1.mono e, h.2.2.mono e⟩
theorem fits_tri {k : Nat} {n : Int} (h : Fits k n) : Fits (2 * k + 2) (tri n) := by
  unfold tri
  have h1 : Fits (2 * k + 2) (n * (n - 1)) := h.mul (h.sub (Fits.one (a := 1) (by decide)) (k := k + 2) (by omega) (by omega)) (by omega)
  have e := fdiv_abs_le (n * (n - 1)) 2
  rw [Int.fdiv_eq_ediv_of_nonneg _ (by decide)] at e
  exact h1.le e
def spPow (CP : Addr) : Sp := fun vs H Q _ => ∃ (p : Addr) (n : Int) (g : Pl) (k : Nat), vs = [.ref p, .int n] ∧ PlAt CP H p g ∧ FP k g ∧ Fits k n ∧ k ≤ 10000000 ∧ ∀ r H', H r = none → Same H H' → PlAt CP H' r (g.pow n) → Q (.ref r) H'
theorem ok_power (T : Txt K mg CP CB CT CE) : Mth P w K mg base L2.CX0 4 CP "power" (spPow CP) := by
  have g_Place := ok_Place (P := P) (w := w) (base := base) T
  have g_is_integer := ok_is_integer (P := P) (w := w) (base := base) T
  have g_pairs_below := ok_pairs_below (P := P) (w := w) (base := base) T
  refine T.m_Place_power.mth sc_Place_power (fun vs H Q E ⟨p, n, g, k, e, _⟩ => by subst e; rfl) (N := N_Place_power) fun f cdv A outer s H vs Q E hr h => ?_
  obtain ⟨p, n, g, k, rfl, hp, ⟨f1, f2, f3⟩, fn, hk, h⟩ := h
  refine ⟨_, (pss_cons (ps_if (pt_not (pt_val (calS g_is_integer pass0 hr (by decide) (by rfl) (pa_cons (pv 1) pa_nil)))) (pss_one ps_never) pss_nil)
 (pss_one (ps_ret (mkcS g_Place pass0 hr (by decide) (by rfl) place_new (pa_cons (pe_op op_mulX (pv 1) (fldK (K := K) rfl (pv 0) rfl)) (pa_cons (pe_op op_mulX (pv 1) (fldK (K := K) rfl (pv 0) rfl)) (pa_cons (pe_op op_add (pe_op op_mulX (pv 1) (fldK (K := K) rfl (pv 0) rfl)) (pe_op op_mulX (pe_op op_mulX (calS g_pairs_below pass0 hr (by decide) (by rfl) (pa_cons (pv 1) pa_nil)) (fldK (K := K) rfl (pv 0) rfl)) (fldK (K := K) rfl (pv 0) rfl))) pa_nil))))))), ?_⟩
  walk_at "rd"
  refine ⟨n, rfl, ?_⟩
  walk_at "rd"
  refine rd_px T hp ?_
  refine rd_I (mul_ok fn f1 (by omega)) ?_
  walk_at "rd"
  refine rd_py T hp ?_
  refine rd_I (mul_ok fn f2 (by omega)) ?_
  walk_at "rd"
  refine rd_pa T hp ?_
  refine rd_I (mul_ok fn f3 (by omega)) ?_
  walk_at "rd"
  refine ⟨n, k, rfl, fn, hk, ?_⟩
  walk_at "rd"
  refine rd_px T hp ?_
  refine rd_I (mul_ok (fits_tri fn) f1 (by omega)) ?_
  walk_at "rd"
  refine rd_py T hp ?_
  refine rd_I (mul_ok ((fits_tri fn).mul f1 (Nat.le_refl _)) f2 (by omega)) ?_
  walk_at "rd"
  exact ⟨_, _, _, rfl, fun r H' n s pl => h r H' n s pl⟩
abbrev s_need_place : Stmt := top 23
def N_need_place : List Str := ["value"]
theorem sc_need_place : FnScope ["value"] ["value"] (defScope s_need_place) := ⟨rfl, rfl, rfl, by decide +kernel, rfl, by decide +kernel, by decide +kernel⟩
def spNeedPl (CP : Addr) : Sp := fun vs H Q _ => ∃ (p : Addr) (g : Pl), vs = [.ref p] ∧ PlAt CP H p g ∧ Q .non H
theorem ok_need_place (T : Txt K mg CP CB CT CE) : Cal P w K mg base L2.CX0 1 "need_place" (spNeedPl CP) := by
  refine T.f_need_place.cal sc_need_place (fun vs H Q E ⟨p, g, e, _⟩ => by subst e; rfl) (N := N_need_place) fun f cdv A outer s H vs Q E hr h => ?_
  obtain ⟨p, g, rfl, hp, h⟩ := h
  refine ⟨_, (pss_one (ps_if (pt_not (pt_val (pe_callB (isiK (K := K) rfl) (by rfl) T.n_isinstance (by decide +kernel) (pa_cons (pv 0) (pa_cons (pe_glob (v := .ref CP) rfl T.g_Place rfl) pa_nil))))) (pss_one ps_never) pss_nil)), ?_⟩
  walk_at "rd"
  refine rd_isP T hp ?_
  walk_at "rd"
  exact h
/-- places by their addresses -/
def Pls (CP : Addr) (H : Hp) (xs : List V) (gs : List Pl) : Prop := xs.length = gs.length ∧ ∀ (i : Nat) (g : Pl), gs[i]? = some g → ∃ p, xs[i]? = some (.ref p) ∧ PlAt CP H p g
theorem Pls.mono {H H' : Hp} {xs : List V} {gs : List Pl} (s : Same H H') (h : Pls CP H xs gs) : Pls CP H' xs gs := ⟨h.1, fun i g e => let ⟨p, e1, e2⟩ := h.2 i g e; ⟨p, e1, e2.mono s⟩⟩
theorem Pls.get {H : Hp} {xs : List V} {gs : List Pl} (h : Pls CP H xs gs) {i : Nat} {x : V} (e : xs[i]? = some x) : ∃ p g, x = .ref p ∧ gs[i]? = some g ∧ PlAt CP H p g := by
  have hi := (List.getElem?_eq_some_iff.mp e).1
  have hg : gs[i]? = some (gs[i]'(h.1 ▸ hi)) := List.getElem?_eq_getElem _
  obtain ⟨p, e1, e2⟩ := h.2 i _ hg
  rw [e] at e1
  exact ⟨p, _, Option.some.inj e1, hg, e2⟩
theorem Pls.snoc {H : Hp} {xs : List V} {gs : List Pl} {p : Addr} {g : Pl} (h : Pls CP H xs gs) (hp : PlAt CP H p g) : Pls CP H (xs ++ [.ref p]) (gs ++ [g]) := by
  refine ⟨by rw [List.length_append, List.length_append, h.1]; rfl, fun i g' e => ?_⟩
  by_cases hi : i < gs.length
  · rw [List.getElem?_append_left hi] at e
    obtain ⟨q, e1, e2⟩ := h.2 i g' e
    exact ⟨q, by rw [List.getElem?_append_left (by rw [h.1]; exact hi)]; exact e1, e2⟩
  · have hl := (List.getElem?_eq_some_iff.mp e).1
    rw [List.length_append] at hl
    have e1 : [g].length = 1 := rfl
    have hi' : i = gs.length := by omega
    subst hi'
    rw [List.getElem?_append_right (Nat.le_refl _), Nat.sub_self] at e
    cases (Option.some.inj e : g = g')
    exact ⟨p, by rw [← h.1, List.getElem?_append_right (Nat.le_refl _), Nat.sub_self]; rfl, hp⟩
abbrev s_need_places : Stmt := top 24
def N_need_places : List Str := ["values", "value"]
theorem sc_need_places : FnScope ["values", "value"] ["values"] (defScope s_need_places) := ⟨rfl, rfl, rfl, by decide +kernel, rfl, by decide +kernel, by decide +kernel⟩
def spNeedPls (CP : Addr) : Sp := fun vs H Q _ => ∃ (p : Addr) (xs : List V) (gs : List Pl), vs = [.ref p] ∧ H p = some (.lst xs) ∧ Pls CP H xs gs ∧ Q .non H
theorem ok_need_places (T : Txt K mg CP CB CT CE) : Cal P w K mg base L2.CX0 2 "need_places" (spNeedPls CP) := by
  have g_need_place := ok_need_place (P := P) (w := w) (base := base) T
  refine T.f_need_places.cal sc_need_places (fun vs H Q E ⟨p, xs, gs, e, _⟩ => by subst e; rfl) (N := N_need_places) fun f cdv A outer s H vs Q E hr h => ?_
  obtain ⟨p, xs, gs, rfl, hp, hs, h⟩ := h
  refine ⟨_, (pss_one (ps_for PassesOwn.never rfl (piL (K := K) rfl (pv 0)) (pg_name (i := 1) sc_need_places.nd rfl (Or.inl rfl)) (pss_one (ps_expr (calS g_need_place pass0 hr (by decide) (by rfl) (pa_cons (pv 1) pa_nil)))))), ?_⟩
  walk_at "rd"
  refine rd_forL hp (fun i σ' H' => H' = H ∧ ∃ v, σ' = [some (.ref p), v]) ⟨rfl, none, rfl⟩ (fun i σ' H' _ h => by rw [h.1]; exact hp) ?_ ?_
  · rintro i z σ' H' hz ⟨rfl, v, rfl⟩
    obtain ⟨q, g, rfl, _, hq⟩ := hs.get hz
    walk_at "rd"
    refine ⟨q, g, rfl, hq, ?_⟩
    walk_at "rd"
    exact ⟨rfl, some (.ref q), rfl⟩
  · rintro σ' H' ⟨rfl, v, rfl⟩
    exact h
end
end Wk
namespace Wk
set_option linter.all false
set_option maxRecDepth 100000
set_option maxHeartbeats 4000000
open PySem L2
local macro_rules | `(tactic| walk_at "cy") => `(tactic| first
  | assumption
  | ((with_reducible refine' at_mono (H := ?H) ?s ?h); (case s => assumption); (case h => walk_at "cy"))
  | ((with_reducible refine' PlAt.mono (H := ?H) ?s ?h); (case s => assumption); (case h => walk_at "cy")))
local macro_rules | `(tactic| walk_at "rd1") => `(tactic| first
  | (with_reducible refine' rd_seq ?_) | (with_reducible refine' rd_asg ?_) | (with_reducible refine' rd_par ?_) | (with_reducible refine' rd_ret ?_)
  | (with_reducible refine' rd_ifs ?_) | (with_reducible refine' rd_drop ?_) | (with_reducible refine' rd_next ?_) | (with_reducible refine' rd_asgG ?_)
  | ((with_reducible refine' rd_var (v := ?v) ?e ?h); (case e => exact rfl)) | (with_reducible refine' rd_c ?_) | (with_reducible refine' rd_op ?_) | (with_reducible refine' rd_un ?_)
  | (with_reducible refine' rd_cb ?_) | (with_reducible refine' rd_cons ?_) | (with_reducible refine' rd_nil ?_)
  | (with_reducible refine' rd_I0 ?_) | (with_reducible refine' rd_U ?_) | (with_reducible refine' rd_eqI ?_) | (with_reducible refine' rd_neI ?_)
  | (with_reducible refine' rd_test ?_) | (with_reducible refine' rd_bl ?_) | (with_reducible refine' rd_not ?_) | (with_reducible refine' rd_and ?_) | (with_reducible refine' rd_or ?_)
  | (with_reducible refine' rd_t ?_) | (with_reducible refine' rd_f ?_) | (with_reducible refine' rd_nt ?_) | (with_reducible refine' rd_nf ?_)
  | (with_reducible refine' rd_andV ?_) | (with_reducible refine' rd_orV ?_) | (with_reducible refine' rd_notV ?_) | (with_reducible refine' rd_B ?_) | (with_reducible refine' rd_forR1 ?_) | (with_reducible refine' rd_forR2 ?_) | (with_reducible refine' rd_for ?_) | (with_reducible refine' rd_iT ?_) | (with_reducible refine' rd_iL ?_) | (with_reducible refine' rd_lc ?_)
  | (with_reducible refine' rd_if ?_) | (with_reducible refine' rd_isNr ?_) | (with_reducible refine' rd_isN0 ?_) | (with_reducible refine' rd_notNr ?_) | (with_reducible refine' rd_notN0 ?_) | (with_reducible refine' rd_abs ?_) | ((with_reducible refine' rd_lenL (xs := ?xs) ?f ?h); (case f => walk_at "cy")) | ((with_reducible refine' rd_lenT (xs := ?xs) ?f ?h); (case f => walk_at "cy")) | (with_reducible refine' rd_mt ?_) | (with_reducible refine' rd_bm ?_) | (with_reducible refine' rd_tru ?_) | (with_reducible refine' rd_truInt ?_) | (with_reducible refine' rd_fld ?_)
  | ((with_reducible refine' rd_ixT (xs := ?xs) (v := ?v) ?f ?e ?h); (case f => walk_at "cy"); (case e => exact rfl))
  | ((with_reducible refine' rd_ixL (xs := ?xs) (v := ?v) ?f ?e ?h); (case f => walk_at "cy"); (case e => exact rfl))
  | ((with_reducible refine' rd_gtup (xs := ?xs) ?f ?e ?h); (case f => walk_at "cy"); (case e => exact rfl))
  | (with_reducible refine' rd_gcons ?_) | (with_reducible refine' rd_gnil ?_) | (with_reducible refine' rd_gname ?_))
local macro_rules | `(tactic| walk_at "rd") => `(tactic| repeat walk_at "rd1")
local macro_rules | `(tactic| walk_at "cy") => `(tactic| first
  | assumption
  | ((with_reducible refine' at_mono (H := ?H) ?s ?h); (case s => assumption); (case h => walk_at "cy"))
  | ((with_reducible refine' T2.mono (H := ?H) ?s ?h); (case s => assumption); (case h => walk_at "cy"))
  | ((with_reducible refine' PlAt.mono (H := ?H) ?s ?h); (case s => assumption); (case h => walk_at "cy"))
  | ((with_reducible refine' Pls.mono (H := ?H) ?s ?h); (case s => assumption); (case h => walk_at "cy")))
section
variable {P : Program} {w : World} {K : PySem.W.Frag} {mg : Str → Option Value} {base : Heap} {CP CB CT CE : Addr}
/-! ### points and rows -/
def FitsP (k : Nat) (u : P2) : Prop := Fits k u.1 ∧ Fits k u.2
theorem FitsP.mono {a b : Nat} {u : P2} (h : FitsP a u) (e : a ≤ b) : FitsP b u := ⟨h.1.mono e, h.2.mono e⟩
theorem FitsP.sc {a b k : Nat} {n : Int} {u : P2} (hn : Fits a n) (h : FitsP b u) (e : a + b ≤ k) : FitsP k (psc n u) := ⟨hn.mul h.1 e, hn.mul h.2 e⟩
theorem FitsP.add {a b k : Nat} {u v : P2} (h : FitsP a u) (h' : FitsP b v) (e1 : a < k) (e2 : b < k) : FitsP k (padd u v) := ⟨h.1.add h'.1 e1 e2, h.2.add h'.2 e1 e2⟩
theorem FitsP.fat {a b k : Nat} {f u : P2} (h : FitsP a f) (h' : FitsP b u) (e : a + b < k) : Fits k (fat f u) := (h.1.mul h'.1 (Nat.le_refl _)).add (h.2.mul h'.2 (Nat.le_refl _)) e e
def Rws (H : Hp) (xs : List V) (rows : List P2) : Prop := xs.length = rows.length ∧ ∀ (i : Nat) (v : P2), rows[i]? = some v → ∃ p, xs[i]? = some (.ref p) ∧ T2 H p v
theorem Rws.mono {H H' : Hp} {xs : List V} {rows : List P2} (s : Same H H') (h : Rws H xs rows) : Rws H' xs rows := ⟨h.1, fun i v e => let ⟨p, e1, e2⟩ := h.2 i v e; ⟨p, e1, e2.mono s⟩⟩
theorem Rws.nil {H : Hp} : Rws H [] [] := ⟨rfl, fun i v e => by simp at e⟩
theorem Rws.cons {H : Hp} {xs : List V} {rows : List P2} {p : Addr} {v : P2} (hp : T2 H p v) (h : Rws H xs rows) : Rws H (.ref p :: xs) (v :: rows) := ⟨by rw [List.length_cons, List.length_cons, h.1], fun i u e => by
  cases i with
  | zero => cases (Option.some.inj e : v = u); exact ⟨p, rfl, hp⟩
  | succ i => exact h.2 i u e⟩
theorem Rws.inv {H : Hp} {xs : List V} {rows : List P2} {v : P2} (h : Rws H xs (v :: rows)) : ∃ p ys, xs = .ref p :: ys ∧ T2 H p v ∧ Rws H ys rows := by
  obtain ⟨p, e1, e2⟩ := h.2 0 v rfl
  cases xs with
  | nil => simp at e1
  | cons x ys =>
    cases (Option.some.inj e1 : x = .ref p)
    exact ⟨p, ys, rfl, e2, by have := h.1; simpa using this, fun i u e => h.2 (i + 1) u e⟩
theorem Rws.nil_inv {H : Hp} {xs : List V} (h : Rws H xs []) : xs = [] := List.eq_nil_of_length_eq_zero h.1
/-- what stands for a result of steered -/
def ResAt (H : Hp) (x : V) (kp kr : Nat) : Option (P2 × List P2) → Prop
  | none => x = .non
  | some (u, rows) => ∃ r p l xs, x = .ref r ∧ H r = some (.tup [.ref p, .ref l]) ∧ T2 H p u ∧ H l = some (.lst xs) ∧ Rws H xs rows ∧ FitsP kp u ∧ (∀ v ∈ rows, FitsP kr v) ∧ rows.length ≤ 2
theorem ResAt.mono {H H' : Hp} {x : V} {kp kr : Nat} {res : Option (P2 × List P2)} (s : Same H H') (h : ResAt H x kp kr res) : ResAt H' x kp kr res := by
  cases res with
  | none => exact h
  | some q =>
    obtain ⟨r, p, l, xs, h1, h2, h3, h4, h5, h6⟩ := h
    exact ⟨r, p, l, xs, h1, s _ _ h2, h3.mono s, s _ _ h4, h5.mono s, h6⟩
theorem ResAt.wide {H : Hp} {x : V} {a b c d : Nat} {res : Option (P2 × List P2)} (h : ResAt H x a b res) (e1 : a ≤ c) (e2 : b ≤ d) : ResAt H x c d res := by
  cases res with
  | none => exact h
  | some q =>
    obtain ⟨r, p, l, xs, h1, h2, h3, h4, h5, h6, h7, h8⟩ := h
    exact ⟨r, p, l, xs, h1, h2, h3, h4, h5, h6.mono e1, fun v hv => (h7 v hv).mono e2, h8⟩
/-- at most one row -/
def One (res : Option (P2 × List P2)) : Prop := ∀ u r, res = some (u, r) → r.length ≤ 1
theorem One.none : One none := fun _ _ h => nomatch h
theorem One.some {u : P2} {r : List P2} (h : r.length ≤ 1) : One (some (u, r)) := fun u' r' e => by cases e; exact h
abbrev s_steered_one : Stmt := top 9
def N_steered_one : List Str := ["point", "row", "value", "goal", "modulus", "common", "times", "rest", "count"]
theorem sc_steered_one : FnScope ["point", "row", "value", "goal", "modulus", "common", "times", "rest", "count"] ["point", "row", "value", "goal", "modulus"] (defScope s_steered_one) := ⟨rfl, rfl, rfl, by decide +kernel, rfl, by decide +kernel, by decide +kernel⟩
def spSt1 : Sp := fun vs H Q _ => ∃ (pp pr : Addr) (u v : P2) (value goal m : Int) (kP kR kV kG kM : Nat), vs = [.ref pp, .ref pr, .int value, .int goal, .int m] ∧ T2 H pp u ∧ T2 H pr v ∧ FitsP kP u ∧ FitsP kR v ∧ Fits kV value ∧ Fits kG goal ∧ Fits kM m ∧ 0 ≤ m ∧
  kV ≤ 8990 ∧ kM ≤ 8990 ∧ kP + kR + kG ≤ 900000 ∧ ∀ x res H', Same H H' → ResAt H' x (kP + kG + kM + kR + 1) (kM + kR) res → StSpec u [v] [value] goal m res → One res → Q x H'
theorem ok_steered_one (T : Txt K mg CP CB CT CE) : Cal P w K mg base L2.CX0 2 "steered_one" spSt1 := by
  have g_bezout_of := ok_bezout_of (P := P) (w := w) (base := base) T
  have g_row_sum := ok_row_sum (P := P) (w := w) (base := base) T
  have g_row_times := ok_row_times (P := P) (w := w) (base := base) T
  refine T.f_steered_one.cal sc_steered_one (fun vs H Q E ⟨pp, pr, u, v, value, goal, m, kP, kR, kV, kG, kM, e, _⟩ => by subst e; rfl) (N := N_steered_one) fun f cdv A outer s H vs Q E hr h => ?_
  obtain ⟨pp, pr, u, v, value, goal, m, kP, kR, kV, kG, kM, rfl, hu, hv, fu, fv, fV, fG, fM, m0, bV, bM, bS, h⟩ := h
  refine ⟨_, (pss_cons (ps_if (pt_cmpR op_eq (pv 4) pe_int (nomark _)) (pss_cons (ps_if (pt_cmpR op_eq (pv 2) pe_int (nomark _)) (pss_one (ps_ret (pe_ifExp (pt_cmpR op_eq (pv 3) pe_int (nomark _)) (tupS (pa_cons (pv 0) (pa_cons (lstS (pa_cons (pv 1) pa_nil)) pa_nil))) pe_non))) pss_nil)
 (pss_one (ps_ret (pe_ifExp (pt_cmpR op_eq (pe_op op_modN (pv 3) (pv 2)) pe_int (nomark _)) (tupS (pa_cons (calS g_row_sum pass0 hr (by decide) (by rfl) (pa_cons (pv 0) (pa_cons (calS g_row_times pass0 hr (by decide) (by rfl) (pa_cons (pe_op op_fdX (pv 3) (pv 2)) (pa_cons (pv 1) pa_nil))) pa_nil))) (pa_cons (lstS pa_nil) pa_nil))) pe_non)))) pss_nil)
 (pss_cons (ps_asg (calS g_bezout_of pass0 hr (by decide) (by rfl) (pa_cons (pv 2) (pa_cons (pv 4) pa_nil))) (pg_tup rfl (pgs_cons (pg_name (i := 5) sc_steered_one.nd rfl (Or.inl rfl)) (pgs_cons (pg_name (i := 6) sc_steered_one.nd rfl (Or.inl rfl)) (pgs_cons (pg_name (i := 7) sc_steered_one.nd rfl (Or.inl rfl)) pgs_nil)))))
 (pss_cons (ps_if (truK (K := K) rfl (pe_op op_modN (pv 3) (pv 5)) (by intro _; rfl)) (pss_one (ps_ret pe_non)) pss_nil)
 (pss_cons (ps_set (i := 8) sc_steered_one.nd rfl (Or.inl rfl) (pe_op op_modN (pe_op op_mulX (pe_op op_fdX (pv 3) (pv 5)) (pv 6)) (pe_op op_fdX (pv 4) (pv 5))))
 (pss_one (ps_ret (tupS (pa_cons (calS g_row_sum pass0 hr (by decide) (by rfl) (pa_cons (pv 0) (pa_cons (calS g_row_times pass0 hr (by decide) (by rfl) (pa_cons (pv 8) (pa_cons (pv 1) pa_nil))) pa_nil))) (pa_cons (lstS (pa_cons (calS g_row_times pass0 hr (by decide) (by rfl) (pa_cons (pe_op op_fdX (pv 4) (pv 5)) (pa_cons (pv 1) pa_nil))) pa_nil)) pa_nil))))))))), ?_⟩
  walk_at "rd"
  refine rd_dec (fun hm => ?_) (fun hm => ?_)
  · subst hm
    walk_at "rd"
    refine rd_dec (fun hv0 => ?_) (fun hv0 => ?_)
    · subst hv0
      walk_at "rd"
      refine rd_dec (fun hg => ?_) (fun hg => ?_)
      · subst hg
        walk_at "rd"
        refine rd_newL fun l H1 n1 s1 h1 => ?_
        walk_at "rd"
        refine rd_new fun r H2 n2 s2 h2 => ?_
        exact h (.ref r) (some (u, [v])) H2 (s1.trans s2) ⟨r, pp, l, _, rfl, h2, by walk_at "cy", by walk_at "cy", .cons (by walk_at "cy") .nil, fu.mono (by omega), fun w hw => by cases List.mem_singleton.mp hw; exact fv.mono (by omega), by simp⟩ st_one0 (.some (by simp))
      · walk_at "rd"
        exact h .non none H (Same.refl H) rfl (st_one0_none hg) .none
    · walk_at "rd"
      refine rd_I hv0 ?_
      walk_at "rd"
      refine rd_dec (fun hg => ?_) (fun hg => ?_)
      · walk_at "rd"
        refine rd_I ⟨hv0, fV.mono (by omega)⟩ ?_
        walk_at "rd"
        have fq : Fits kG (goal.fdiv value) := fG.fdiv value
        refine ⟨_, _, _, max kG kR, rfl, hv, fq.mono (by omega), fv.1.mono (by omega), fv.2.mono (by omega), by omega, fun q H1 s1 h1 => ?_⟩
        walk_at "rd"
        refine ⟨_, _, _, _, rfl, by walk_at "cy", h1, fun q2 H2 s2 h2 => ?_⟩
        walk_at "rd"
        refine rd_newL fun l H3 n3 s3 h3 => ?_
        walk_at "rd"
        refine rd_new fun r H4 n4 s4 h4 => ?_
        obtain ⟨k, hk⟩ := fmod_zero_iff.mp hg
        have e := fdiv_exact hk hv0
        rw [e] at h2
        exact h (.ref r) (some (padd u (psc k v), [])) H4 (((s1.trans s2).trans s3).trans s4) ⟨r, q2, l, _, rfl, h4, by walk_at "cy", by walk_at "cy", .nil, fu.add (FitsP.sc (e ▸ fq) fv (Nat.le_refl _)) (by omega) (by omega), fun w hw => absurd hw (by simp), by simp⟩ (st_oneZ hv0 (by rw [hk, Int.mul_comm])) (.some (by simp))
      · walk_at "rd"
        exact h .non none H (Same.refl H) rfl (st_oneZ_none fun hd => hg (fmod_zero_iff.mpr hd)) .none
  · walk_at "rd"
    have m1 : 0 < m := by omega
    refine ⟨value, m, max kV kM, rfl, fV.mono (by omega), fM.mono (by omega), by omega, fun p H1 g s t s1 h1 bz => ?_⟩
    walk_at "rd"
    have g0 : 0 < g := by
      rw [bz.gcd]
      have := Int.gcd_pos_of_ne_zero_right value (show m ≠ 0 by omega)
      omega
    obtain ⟨mm, hmm⟩ : g ∣ m := by rw [bz.gcd]; exact Int.gcd_dvd_right _ _
    obtain ⟨mv, hmv⟩ : g ∣ value := by rw [bz.gcd]; exact Int.gcd_dvd_left _ _
    have fg : Fits 8999 g := bz.fg.mono (by omega)
    have mm0 : 0 < mm := by
      rcases Int.lt_or_le 0 mm with h | h
      · exact h
      · have := Int.mul_nonpos_of_nonneg_of_nonpos (show 0 ≤ g by omega) h
        omega
    have fmm : Fits kM mm := fM.le (natAbs_quot hmm (by omega))
    have em : m.fdiv g = mm := fdiv_exact hmm (by omega)
    refine rd_I (show g ≠ 0 by omega) ?_
    walk_at "rd"
    refine rd_bne (fun hg => ?_) (fun hg => ?_)
    · walk_at "rd"
      exact h .non none H1 s1 rfl (st_oneM_none hmv hmm fun hd => hg (fmod_zero_iff.mpr hd)) .none
    · obtain ⟨k, hk⟩ := fmod_zero_iff.mp hg
      have ek : goal.fdiv g = k := fdiv_exact hk (by omega)
      have fk : Fits kG k := fG.le (natAbs_quot hk (by omega))
      walk_at "rd"
      refine rd_I ⟨by omega, fg⟩ ?_
      walk_at "rd"
      refine rd_I (by rw [ek]; exact mul_ok fk bz.fs (by omega)) ?_
      walk_at "rd"
      refine rd_I ⟨by omega, fg⟩ ?_
      rw [em, ek]
      refine rd_I (show mm ≠ 0 by omega) ?_
      have fc : Fits kM ((k * s).fmod mm) := Fits.fmod fmm (by omega)
      walk_at "rd"
      refine ⟨_, _, _, max kM kR, rfl, by walk_at "cy", fc.mono (by omega), fv.1.mono (by omega), fv.2.mono (by omega), by omega, fun q H2 s2 h2 => ?_⟩
      walk_at "rd"
      refine ⟨_, _, _, _, rfl, by walk_at "cy", h2, fun q2 H3 s3 h3 => ?_⟩
      walk_at "rd"
      refine rd_I ⟨by omega, fg⟩ ?_
      walk_at "rd"
      rw [em]
      refine ⟨_, _, _, max kM kR, rfl, by walk_at "cy", fmm.mono (by omega), fv.1.mono (by omega), fv.2.mono (by omega), by omega, fun q3 H4 s4 h4 => ?_⟩
      walk_at "rd"
      refine rd_newL fun l H5 n5 s5 h5 => ?_
      walk_at "rd"
      refine rd_new fun r H6 n6 s6 h6 => ?_
      refine h (.ref r) (some (padd u (psc ((k * s).fmod mm) v), [psc mm v])) H6 (((((s1.trans s2).trans s3).trans s4).trans s5).trans s6) ⟨r, q2, l, _, rfl, h6, by walk_at "cy", by walk_at "cy", .cons (by walk_at "cy") .nil, fu.add (FitsP.sc fc fv (Nat.le_refl _)) (by omega) (by omega), fun w hw => by cases List.mem_singleton.mp hw; exact FitsP.sc fmm fv (by omega), by simp⟩ ?_ (.some (by simp))
      refine st_oneM m1 bz.eq.symm hmv hmm hk ⟨-((k * s).fdiv mm), ?_⟩
      rw [Int.fmod_def, Int.neg_mul, Int.mul_comm mm]
      omega
theorem vals1 {H : Hp} {l : Addr} {vals : List Int} : (vals.map V.int).length = vals.length := List.length_map _
/-- fits: the goal is 0 by the modulus -/
theorem fits_dec (goal m : Int) : ∃ b, (if decide (m = 0) = true then V.bl (decide (goal = 0)) else V.bl (decide (goal.fmod m = 0))) = V.bl b ∧ (b = true ↔ m ∣ goal) := by
  by_cases hm : m = 0
  · subst hm
    exact ⟨decide (goal = 0), rfl, by rw [decide_eq_true_iff, Int.zero_dvd]⟩
  · exact ⟨decide (goal.fmod m = 0), by rw [decide_eq_false hm]; rfl, by rw [decide_eq_true_iff]; exact fmod_zero_iff⟩
abbrev s_steered : Stmt := top 10
def N_steered : List Str := ["point", "rows", "values", "goal", "modulus", "fits", "common", "times", "more", "still", "moving", "found"]
theorem sc_steered : FnScope ["point", "rows", "values", "goal", "modulus", "fits", "common", "times", "more", "still", "moving", "found"] ["point", "rows", "values", "goal", "modulus"] (defScope s_steered) := ⟨rfl, rfl, rfl, by decide +kernel, rfl, by decide +kernel, by decide +kernel⟩
def spSt : Sp := fun vs H Q _ => ∃ (pp pr pz : Addr) (u : P2) (xs : List V) (rows : List P2) (vals : List Int) (goal m : Int) (kP kR kV kG kM : Nat), vs = [.ref pp, .ref pr, .ref pz, .int goal, .int m] ∧ T2 H pp u ∧ H pr = some (.lst xs) ∧ Rws H xs rows ∧ H pz = some (.lst (vals.map V.int)) ∧
  rows.length = vals.length ∧ rows.length ≤ 2 ∧ FitsP kP u ∧ (∀ v ∈ rows, FitsP kR v) ∧ (∀ z ∈ vals, Fits kV z) ∧ Fits kG goal ∧ Fits kM m ∧ 0 ≤ m ∧
  kV ≤ 8980 ∧ kM ≤ 8980 ∧ kP + kR + kG ≤ 800000 ∧ ∀ x res H', Same H H' → ResAt H' x (kP + kG + kM + kR + kV + 4) (kM + kR + kV + 2) res → StSpec u rows vals goal m res → Q x H'
theorem ok_steered (T : Txt K mg CP CB CT CE) : Cal P w K mg base L2.CX0 3 "steered" spSt := by
  have g_bezout_of := ok_bezout_of (P := P) (w := w) (base := base) T
  have g_row_sum := ok_row_sum (P := P) (w := w) (base := base) T
  have g_row_times := ok_row_times (P := P) (w := w) (base := base) T
  have g_steered_one := ok_steered_one (P := P) (w := w) (base := base) T
  refine T.f_steered.cal sc_steered (fun vs H Q E ⟨pp, pr, pz, u, xs, rows, vals, goal, m, kP, kR, kV, kG, kM, e, _⟩ => by subst e; rfl) (N := N_steered) fun f cdv A outer s H vs Q E hr h => ?_
  obtain ⟨pp, pr, pz, u, xs, rows, vals, goal, m, kP, kR, kV, kG, kM, rfl, hu, hl, hw, hv, el, l2, fu, fr, fv, fG, fM, m0, bV, bM, bS, h⟩ := h
  refine ⟨_, (pss_cons (ps_if (pt_not (truK (K := K) rfl (pv 1) (by intro _; rfl))) (pss_cons (ps_set (i := 5) sc_steered.nd rfl (Or.inl rfl) (pe_ifExp (pt_cmpR op_eq (pv 4) pe_int (nomark _)) (pe_cmpR op_eq (pv 3) pe_int (nomark _)) (pe_cmpR op_eq (pe_op op_modN (pv 3) (pv 4)) pe_int (nomark _))))
 (pss_one (ps_ret (pe_ifExp (pt_val (pv 5)) (tupS (pa_cons (pv 0) (pa_cons (lstS pa_nil) pa_nil))) pe_non)))) pss_nil)
 (pss_cons (ps_if (pt_cmpR op_eq (pe_callB (lenK (K := K) rfl) (by rfl) T.n_len (by decide +kernel) (pa_cons (pv 1) pa_nil)) pe_int (nomark _)) (pss_one (ps_ret (calS g_steered_one pass0 hr (by decide) (by rfl) (pa_cons (pv 0) (pa_cons (pe_ix (ixLK (K := K) rfl) (pv 1) pe_int (fun _ _ => rfl)) (pa_cons (pe_ix (ixLK (K := K) rfl) (pv 2) pe_int (fun _ _ => rfl)) (pa_cons (pv 3) (pa_cons (pv 4) pa_nil)))))))) pss_nil)
 (pss_cons (ps_asg (calS g_bezout_of pass0 hr (by decide) (by rfl) (pa_cons (pe_ix (ixLK (K := K) rfl) (pv 2) pe_int (fun _ _ => rfl)) (pa_cons (pe_ix (ixLK (K := K) rfl) (pv 2) pe_int (fun _ _ => rfl)) pa_nil))) (pg_tup rfl (pgs_cons (pg_name (i := 6) sc_steered.nd rfl (Or.inl rfl)) (pgs_cons (pg_name (i := 7) sc_steered.nd rfl (Or.inl rfl)) (pgs_cons (pg_name (i := 8) sc_steered.nd rfl (Or.inl rfl)) pgs_nil)))))
 (pss_cons (ps_if (pt_cmpR op_eq (pv 6) pe_int (nomark _)) (pss_cons (ps_set (i := 5) sc_steered.nd rfl (Or.inl rfl) (pe_ifExp (pt_cmpR op_eq (pv 4) pe_int (nomark _)) (pe_cmpR op_eq (pv 3) pe_int (nomark _)) (pe_cmpR op_eq (pe_op op_modN (pv 3) (pv 4)) pe_int (nomark _))))
 (pss_one (ps_ret (pe_ifExp (pt_val (pv 5)) (tupS (pa_cons (pv 0) (pa_cons (pe_callTy (listK (K := K) rfl) (by rfl) T.n_list (by decide +kernel) (pa_cons (pv 1) pa_nil)) pa_nil))) pe_non)))) pss_nil)
 (pss_cons (ps_set (i := 9) sc_steered.nd rfl (Or.inl rfl) (calS g_row_sum pass0 hr (by decide) (by rfl) (pa_cons (calS g_row_times pass0 hr (by decide) (by rfl) (pa_cons (pe_op op_fdX (pe_ix (ixLK (K := K) rfl) (pv 2) pe_int (fun _ _ => rfl)) (pv 6)) (pa_cons (pe_ix (ixLK (K := K) rfl) (pv 1) pe_int (fun _ _ => rfl)) pa_nil))) (pa_cons (calS g_row_times pass0 hr (by decide) (by rfl) (pa_cons (pe_op op_fdX (pe_un un_neg (pe_ix (ixLK (K := K) rfl) (pv 2) pe_int (fun _ _ => rfl))) (pv 6)) (pa_cons (pe_ix (ixLK (K := K) rfl) (pv 1) pe_int (fun _ _ => rfl)) pa_nil))) pa_nil))))
 (pss_cons (ps_set (i := 10) sc_steered.nd rfl (Or.inl rfl) (calS g_row_sum pass0 hr (by decide) (by rfl) (pa_cons (calS g_row_times pass0 hr (by decide) (by rfl) (pa_cons (pv 7) (pa_cons (pe_ix (ixLK (K := K) rfl) (pv 1) pe_int (fun _ _ => rfl)) pa_nil))) (pa_cons (calS g_row_times pass0 hr (by decide) (by rfl) (pa_cons (pv 8) (pa_cons (pe_ix (ixLK (K := K) rfl) (pv 1) pe_int (fun _ _ => rfl)) pa_nil))) pa_nil))))
 (pss_cons (ps_set (i := 11) sc_steered.nd rfl (Or.inl rfl) (calS g_steered_one pass0 hr (by decide) (by rfl) (pa_cons (pv 0) (pa_cons (pv 10) (pa_cons (pv 6) (pa_cons (pv 3) (pa_cons (pv 4) pa_nil)))))))
 (pss_one (ps_ret (pe_ifExp (pt_cmpR op_isNS (pv 11) pe_non (nomark _)) pe_non (tupS (pa_cons (pe_ix (ixTK (K := K) rfl) (pv 11) pe_int (fun _ _ => rfl)) (pa_cons (pe_op op_catS (lstS (pa_cons (pv 9) pa_nil)) (pe_ix (ixTK (K := K) rfl) (pv 11) pe_int (fun _ _ => rfl))) pa_nil))))))))))))), ?_⟩
  walk_at "rd"
  match rows, vals, el, l2, hw, fr, fv, hv, h with
  | [], [], el, l2, hw, fr, fv, hv, h =>
    cases hw.nil_inv
    refine rd_truL (c := false) hl rfl ?_
    walk_at "rd"
    refine rd_joinD (x := .bl (decide (goal = 0))) (y := .bl (decide (goal.fmod m = 0))) (fun _ Q q => by walk_at "rd"; exact q) (fun hm Q q => by walk_at "rd"; refine rd_I hm ?_; walk_at "rd"; exact q) ?_
    obtain ⟨b, eb, ib⟩ := fits_dec goal m
    rw [eb]
    walk_at "rd"
    cases b with
    | true =>
      walk_at "rd"
      refine rd_newL fun l H1 n1 s1 h1 => ?_
      walk_at "rd"
      refine rd_new fun r H2 n2 s2 h2 => ?_
      exact h (.ref r) (some (u, [])) H2 (s1.trans s2) ⟨r, pp, l, _, rfl, h2, by walk_at "cy", by walk_at "cy", .nil, fu.mono (by omega), fun w hw => absurd hw (by simp), by simp⟩ (st_nil_some (ib.mp rfl))
    | false =>
      walk_at "rd"
      exact h .non none H (Same.refl H) rfl (st_nil_none fun hd => absurd (ib.mpr hd) (by decide))
  | [r0], [v0], el, l2, hw, fr, fv, hv, h =>
    obtain ⟨p0, ys, rfl, h0, hw⟩ := hw.inv
    cases hw.nil_inv
    refine rd_truL (c := true) hl rfl ?_
    walk_at "rd"
    have hv' : H pz = some (.lst [.int v0]) := hv
    refine rd_dec (fun _ => ?_) (fun hn => absurd rfl hn)
    walk_at "rd"
    exact ⟨pp, p0, u, r0, v0, goal, m, kP, kR, kV, kG, kM, rfl, hu, h0, fu, fr r0 (by simp), fv v0 (by simp), fG, fM, m0, by omega, by omega, by omega, fun x res H' s1 ra st _ => h x res H' s1 (ra.wide (by omega) (by omega)) st⟩
  | [r0, r1], [v0, v1], el, l2, hw, fr, fv, hv, h =>
    obtain ⟨p0, ys, rfl, h0, hw⟩ := hw.inv
    obtain ⟨p1, ys, rfl, h1, hw⟩ := hw.inv
    cases hw.nil_inv
    have hv' : H pz = some (.lst [.int v0, .int v1]) := hv
    have f0 : FitsP kR r0 := fr r0 (by simp)
    have f1 : FitsP kR r1 := fr r1 (by simp)
    have w0 : Fits kV v0 := fv v0 (by simp)
    have w1 : Fits kV v1 := fv v1 (by simp)
    refine rd_truL (c := true) hl rfl ?_
    walk_at "rd"
    refine rd_dec (fun hn => absurd (show ((2 : Nat) : Int) = 1 from hn) (by decide)) (fun _ => ?_)
    walk_at "rd"
    refine ⟨v0, v1, kV, rfl, w0, w1, by omega, fun p H1 g s t s1 hz bz => ?_⟩
    walk_at "rd"
    refine rd_dec (fun hg => ?_) (fun hg => ?_)
    · have z : v0 = 0 ∧ v1 = 0 := by
        have e := bz.gcd
        rw [hg] at e
        have := Int.gcd_eq_zero_iff.mp (show Int.gcd v0 v1 = 0 by omega)
        exact this
      obtain ⟨rfl, rfl⟩ := z
      walk_at "rd"
      refine rd_joinD (x := .bl (decide (goal = 0))) (y := .bl (decide (goal.fmod m = 0))) (fun _ Q q => by walk_at "rd"; exact q) (fun hm Q q => by walk_at "rd"; refine rd_I hm ?_; walk_at "rd"; exact q) ?_
      obtain ⟨b, eb, ib⟩ := fits_dec goal m
      rw [eb]
      walk_at "rd"
      cases b with
      | true =>
        walk_at "rd"
        refine rd_listL (by walk_at "cy") fun l H2 n2 s2 h2 => ?_
        walk_at "rd"
        refine rd_new fun r H3 n3 s3 h3 => ?_
        exact h (.ref r) (some (u, [r0, r1])) H3 ((s1.trans s2).trans s3) ⟨r, pp, l, _, rfl, h3, by walk_at "cy", by walk_at "cy", .cons (by walk_at "cy") (.cons (by walk_at "cy") .nil), fu.mono (by omega), fun w hw => (fr w hw).mono (by omega), by simp⟩ (st_two0 (ib.mp rfl))
      | false =>
        walk_at "rd"
        exact h .non none H1 s1 rfl (st_two0_none fun hd => absurd (ib.mpr hd) (by decide))
    · walk_at "rd"
      have fg : Fits 8999 g := bz.fg.mono (by omega)
      obtain ⟨q0, e0⟩ : g ∣ v0 := by rw [bz.gcd]; exact Int.gcd_dvd_left _ _
      obtain ⟨q1, e1⟩ : g ∣ v1 := by rw [bz.gcd]; exact Int.gcd_dvd_right _ _
      have d0 : (-v0).fdiv g = -q0 := fdiv_exact (by rw [e0, Int.mul_neg]) hg
      have d1 : v1.fdiv g = q1 := fdiv_exact e1 hg
      have fq0 : Fits kV (-q0) := (w0.le (natAbs_quot e0 hg)).neg
      have fq1 : Fits kV q1 := w1.le (natAbs_quot e1 hg)
      refine rd_I ⟨hg, fg⟩ ?_
      walk_at "rd"
      rw [d1]
      refine ⟨_, _, _, max (kV + 1) kR, rfl, by walk_at "cy", fq1.mono (by omega), f0.1.mono (by omega), f0.2.mono (by omega), by omega, fun a1 H2 s2 h2 => ?_⟩
      walk_at "rd"
      refine rd_I ⟨hg, fg⟩ ?_
      walk_at "rd"
      rw [d0]
      refine ⟨_, _, _, max (kV + 1) kR, rfl, by walk_at "cy", fq0.mono (by omega), f1.1.mono (by omega), f1.2.mono (by omega), by omega, fun a2 H3 s3 h3 => ?_⟩
      walk_at "rd"
      refine ⟨_, _, _, _, rfl, by walk_at "cy", h3, fun a3 H4 s4 h4 => ?_⟩
      walk_at "rd"
      refine ⟨_, _, _, max (kV + 1) kR, rfl, by walk_at "cy", bz.fs.mono (by omega), f0.1.mono (by omega), f0.2.mono (by omega), by omega, fun b1 H5 s5 h5 => ?_⟩
      walk_at "rd"
      refine ⟨_, _, _, max (kV + 1) kR, rfl, by walk_at "cy", bz.ft.mono (by omega), f1.1.mono (by omega), f1.2.mono (by omega), by omega, fun b2 H6 s6 h6 => ?_⟩
      walk_at "rd"
      refine ⟨_, _, _, _, rfl, by walk_at "cy", h6, fun b3 H7 s7 h7 => ?_⟩
      walk_at "rd"
      have fm : FitsP (kR + kV + 2) (padd (psc s r0) (psc t r1)) := (FitsP.sc bz.fs f0 (Nat.le_refl _)).add (FitsP.sc bz.ft f1 (Nat.le_refl _)) (by omega) (by omega)
      have fs : FitsP (kR + kV + 2) (padd (psc q1 r0) (psc (-q0) r1)) := (FitsP.sc fq1 f0 (Nat.le_refl _)).add (FitsP.sc fq0 f1 (Nat.le_refl _)) (by omega) (by omega)
      refine ⟨pp, b3, u, _, g, goal, m, kP, kR + kV + 2, kV, kG, kM, rfl, by walk_at "cy", h7, fu, fm, bz.fg, fG, fM, m0, by omega, by omega, by omega, fun x res H8 s8 ra st so => ?_⟩
      have st2 := st_two (r0 := r0) (r1 := r1) hg bz.eq.symm e0 e1 st
      walk_at "rd"
      have sa := fun (_ : Unit) => ((((((s1.trans s2).trans s3).trans s4).trans s5).trans s6).trans s7).trans s8
      cases res with
      | none =>
        cases (show x = .non from ra)
        walk_at "rd"
        exact h .non none H8 (sa ()) rfl st2
      | some pr =>
        obtain ⟨u', rows'⟩ := pr
        obtain ⟨r, p', l', xs', rfl, c1, c2, c3, c4, c5, c6, c7⟩ := ra
        walk_at "rd"
        refine rd_newL fun l H9 n9 s9 h9 => ?_
        walk_at "rd"
        have c7' : rows'.length ≤ 1 := so _ _ rfl
        refine rd_cat h9 (by walk_at "cy") (by have := c4.1; simp; omega) fun l2 H10 n10 s10 h10 => ?_
        walk_at "rd"
        refine rd_new fun r2 H11 n11 s11 h11 => ?_
        refine h (.ref r2) (some (u', padd (psc q1 r0) (psc (-q0) r1) :: rows')) H11 ((((sa ()).trans s9).trans s10).trans s11) ⟨r2, p', l2, _, rfl, h11, by walk_at "cy", by walk_at "cy", ?_, c5.mono (by omega), fun w hw => ?_, by simp; omega⟩ st2
        · exact .cons (by walk_at "cy") (c4.mono ((s9.trans s10).trans s11))
        · rcases List.mem_cons.mp hw with rfl | hw
          · exact fs.mono (by omega)
          · exact (c6 w hw).mono (by omega)
/-! ### forms -/
/-- a form and its modulus, in the heap -/
def FormAt (H : Hp) (x : V) (f : P2) (m : Int) : Prop := ∃ r p, x = .ref r ∧ H r = some (.tup [.ref p, .int m]) ∧ T2 H p f
abbrev s_forms_of : Stmt := top 11
def N_forms_of : List Str := ["rows", "p", "q", "common", "one", "other", "s"]
theorem sc_forms_of : FnScope ["rows", "p", "q", "common", "one", "other", "s"] ["rows"] (defScope s_forms_of) := ⟨rfl, rfl, rfl, by decide +kernel, rfl, by decide +kernel, by decide +kernel⟩
def spForms : Sp := fun vs H Q _ => ∃ (pr : Addr) (xs : List V) (T : Tb) (k : Nat), vs = [.ref pr] ∧ H pr = some (.lst xs) ∧ Rws H xs (ends T) ∧ T.Ok ∧ (∀ v ∈ ends T, FitsP k v) ∧ k ≤ 4000 ∧
  ∀ l x0 x1 f0 m0 f1 m1 H', Same H H' → H' l = some (.lst [x0, x1]) → FormAt H' x0 f0 m0 → FormAt H' x1 f1 m1 → FormsOf T f0 m0 f1 m1 → FitsP (k + 1) f0 → FitsP (k + 1) f1 → Fits (2 * k) m0 → Fits (2 * k) m1 → Q (.ref l) H'
theorem ok_forms_of (T : Txt K mg CP CB CT CE) : Cal P w K mg base L2.CX0 2 "forms_of" spForms := by
  have g_bezout_of := ok_bezout_of (P := P) (w := w) (base := base) T
  refine T.f_forms_of.cal sc_forms_of (fun vs H Q E ⟨pr, xs, Tt, k, e, _⟩ => by subst e; rfl) (N := N_forms_of) fun f cdv A outer s H vs Q E hr h => ?_
  obtain ⟨pr, xs, S, k, rfl, hl, hw, ok, fr, bk, h⟩ := h
  refine ⟨_, (pss_cons (ps_if (pt_not (truK (K := K) rfl (pv 0) (by intro _; rfl))) (pss_one (ps_ret (lstS (pa_cons (tupS (pa_cons (tupS (pa_cons pe_int (pa_cons pe_int pa_nil))) (pa_cons pe_int pa_nil))) (pa_cons (tupS (pa_cons (tupS (pa_cons pe_int (pa_cons pe_int pa_nil))) (pa_cons pe_int pa_nil))) pa_nil))))) pss_nil)
 (pss_cons (ps_asg (pe_ix (ixLK (K := K) rfl) (pv 0) pe_int (fun _ _ => rfl)) (pg_tup rfl (pgs_cons (pg_name (i := 1) sc_forms_of.nd rfl (Or.inl rfl)) (pgs_cons (pg_name (i := 2) sc_forms_of.nd rfl (Or.inl rfl)) pgs_nil))))
 (pss_cons (ps_if (pt_cmpR op_eq (pe_callB (lenK (K := K) rfl) (by rfl) T.n_len (by decide +kernel) (pa_cons (pv 0) pa_nil)) pe_int (nomark _)) (pss_cons (ps_asg (calS g_bezout_of pass0 hr (by decide) (by rfl) (pa_cons (pv 1) (pa_cons (pv 2) pa_nil))) (pg_tup rfl (pgs_cons (pg_name (i := 3) sc_forms_of.nd rfl (Or.inl rfl)) (pgs_cons (pg_name (i := 4) sc_forms_of.nd rfl (Or.inl rfl)) (pgs_cons (pg_name (i := 5) sc_forms_of.nd rfl (Or.inl rfl)) pgs_nil)))))
 (pss_one (ps_ret (lstS (pa_cons (tupS (pa_cons (tupS (pa_cons (pe_op op_fdX (pe_un un_neg (pv 2)) (pv 3)) (pa_cons (pe_op op_fdX (pv 1) (pv 3)) pa_nil))) (pa_cons pe_int pa_nil))) (pa_cons (tupS (pa_cons (tupS (pa_cons (pv 4) (pa_cons (pv 5) pa_nil))) (pa_cons (pv 3) pa_nil))) pa_nil)))))) pss_nil)
 (pss_cons (ps_set (i := 6) sc_forms_of.nd rfl (Or.inl rfl) (pe_ix (ixTK (K := K) rfl) (pe_ix (ixLK (K := K) rfl) (pv 0) pe_int (fun _ _ => rfl)) pe_int (fun _ _ => rfl)))
 (pss_one (ps_ret (lstS (pa_cons (tupS (pa_cons (tupS (pa_cons pe_int (pa_cons pe_int pa_nil))) (pa_cons (pv 1) pa_nil))) (pa_cons (tupS (pa_cons (tupS (pa_cons (pe_un un_neg (pv 2)) (pa_cons (pv 1) pa_nil))) (pa_cons (pe_op op_mulX (pv 1) (pv 6)) pa_nil))) pa_nil))))))))), ?_⟩
  walk_at "rd"
  rcases rows_cases S with ⟨h1, h2, e⟩ | h'
  · have ee : ends S = [] := by unfold ends; rw [e]; rfl
    rw [ee] at hw
    cases hw.nil_inv
    refine rd_truL (c := false) hl rfl ?_
    walk_at "rd"
    refine rd_new fun a1 H1 n1 s1 c1 => ?_
    walk_at "rd"
    refine rd_new fun a2 H2 n2 s2 c2 => ?_
    walk_at "rd"
    refine rd_new fun a3 H3 n3 s3 c3 => ?_
    walk_at "rd"
    refine rd_new fun a4 H4 n4 s4 c4 => ?_
    walk_at "rd"
    refine rd_newL fun l H5 n5 s5 c5 => ?_
    exact h l _ _ (1, 0) 0 (0, 1) 0 H5 ((((s1.trans s2).trans s3).trans s4).trans s5) c5 ⟨a2, a1, rfl, by walk_at "cy", (show T2 H1 a1 (1, 0) from c1).mono (((s2.trans s3).trans s4).trans s5)⟩ ⟨a4, a3, rfl, by walk_at "cy", (show T2 H3 a3 (0, 1) from c3).mono (s4.trans s5)⟩
      (forms_0 ok h1 h2) ⟨.one (by omega), .zero⟩ ⟨.zero, .one (by omega)⟩ .zero .zero
  have h'' : (∃ a b : Int, ends S = [(a, b)] ∧ ¬ (a = 0 ∧ b = 0) ∧ ∀ v : P2, S.LatP v ↔ ∃ k, v.1 = k * a ∧ v.2 = k * b) ∨ (0 < S.p ∧ 0 < S.s ∧ ends S = [(S.p, S.q), (0, S.s)]) := by
    rcases h' with ⟨h1, h2, e⟩ | ⟨h1, h2, e⟩ | ⟨h1, h2, e⟩
    · exact .inl ⟨S.p, S.q, by unfold ends; rw [e]; rfl, by omega, lat_p ok h2⟩
    · exact .inl ⟨0, S.s, by unfold ends; rw [e]; rfl, by omega, lat_s ok h1⟩
    · exact .inr ⟨h1, h2, by unfold ends; rw [e]; rfl⟩
  rcases h'' with ⟨a, b, ee, nz, lat⟩ | ⟨h1, h2, ee⟩
  · rw [ee] at hw
    obtain ⟨p0, ys, rfl, h0, hw⟩ := hw.inv
    cases hw.nil_inv
    have fa : FitsP k (a, b) := fr _ (by rw [ee]; simp)
    refine rd_truL (c := true) hl rfl ?_
    walk_at "rd"
    refine rd_dec (fun _ => ?_) (fun hn => absurd rfl hn)
    walk_at "rd"
    refine ⟨a, b, k, rfl, fa.1, fa.2, by omega, fun p H1 g s t s1 hz bz => ?_⟩
    walk_at "rd"
    have g0 : 0 < g := by
      rw [bz.gcd]
      have : Int.gcd a b ≠ 0 := fun e => nz (Int.gcd_eq_zero_iff.mp e)
      omega
    have fg : Fits 8999 g := bz.fg.mono (by omega)
    obtain ⟨qa, ea⟩ : g ∣ a := by rw [bz.gcd]; exact Int.gcd_dvd_left _ _
    obtain ⟨qb, eb⟩ : g ∣ b := by rw [bz.gcd]; exact Int.gcd_dvd_right _ _
    have da : a.fdiv g = qa := fdiv_exact ea (by omega)
    have db : (-b).fdiv g = -qb := fdiv_exact (by rw [eb, Int.mul_neg]) (by omega)
    refine rd_I ⟨by omega, fg⟩ ?_
    walk_at "rd"
    refine rd_I ⟨by omega, fg⟩ ?_
    rw [da, db]
    walk_at "rd"
    refine rd_new fun a1 H2 n2 s2 c2 => ?_
    walk_at "rd"
    refine rd_new fun a2 H3 n3 s3 c3 => ?_
    walk_at "rd"
    refine rd_new fun a3 H4 n4 s4 c4 => ?_
    walk_at "rd"
    refine rd_new fun a4 H5 n5 s5 c5 => ?_
    walk_at "rd"
    refine rd_newL fun l H6 n6 s6 c6 => ?_
    exact h l _ _ (-qb, qa) 0 (s, t) g H6 (((((s1.trans s2).trans s3).trans s4).trans s5).trans s6) c6 ⟨a2, a1, rfl, by walk_at "cy", (show T2 H2 a1 (-qb, qa) from c2).mono (((s3.trans s4).trans s5).trans s6)⟩ ⟨a4, a3, rfl, by walk_at "cy", (show T2 H4 a3 (s, t) from c4).mono (s5.trans s6)⟩
      (forms_1 lat g0 bz.eq.symm ea eb) ⟨((fa.2.le (natAbs_quot eb (by omega))).neg).mono (by omega), (fa.1.le (natAbs_quot ea (by omega))).mono (by omega)⟩ ⟨bz.fs, bz.ft⟩ .zero (bz.fg.mono (by omega))
  · rw [ee] at hw
    obtain ⟨p0, ys, rfl, h0, hw⟩ := hw.inv
    obtain ⟨p1, ys, rfl, c0, hw⟩ := hw.inv
    cases hw.nil_inv
    have fa : FitsP k (S.p, S.q) := fr _ (by rw [ee]; simp)
    have fb : FitsP k (0, S.s) := fr _ (by rw [ee]; simp)
    refine rd_truL (c := true) hl rfl ?_
    walk_at "rd"
    refine rd_dec (fun hn => absurd (show ((2 : Nat) : Int) = 1 from hn) (by decide)) (fun _ => ?_)
    walk_at "rd"
    refine rd_new fun a1 H2 n2 s2 c2 => ?_
    walk_at "rd"
    refine rd_new fun a2 H3 n3 s3 c3 => ?_
    walk_at "rd"
    refine rd_new fun a3 H4 n4 s4 c4 => ?_
    walk_at "rd"
    refine rd_I (mul_ok fa.1 fb.2 (by omega)) ?_
    walk_at "rd"
    refine rd_new fun a4 H5 n5 s5 c5 => ?_
    walk_at "rd"
    refine rd_newL fun l H6 n6 s6 c6 => ?_
    exact h l _ _ (1, 0) S.p (-S.q, S.p) (S.p * S.s) H6 ((((s2.trans s3).trans s4).trans s5).trans s6) c6 ⟨a2, a1, rfl, by walk_at "cy", (show T2 H2 a1 (1, 0) from c2).mono (((s3.trans s4).trans s5).trans s6)⟩ ⟨a4, a3, rfl, by walk_at "cy", (show T2 H4 a3 (-S.q, S.p) from c4).mono (s5.trans s6)⟩
      (forms_2 h1 h2) ⟨.one (by omega), .zero⟩ ⟨fa.2.neg.mono (by omega), fa.1.mono (by omega)⟩ (fa.1.mono (by omega)) (fa.1.mul fb.2 (by omega))
end
end Wk
namespace Wk
set_option linter.all false
set_option maxRecDepth 100000
set_option maxHeartbeats 4000000
open PySem L2
local macro_rules | `(tactic| walk_at "cy") => `(tactic| first
  | assumption
  | ((with_reducible refine' at_mono (H := ?H) ?s ?h); (case s => assumption); (case h => walk_at "cy"))
  | ((with_reducible refine' PlAt.mono (H := ?H) ?s ?h); (case s => assumption); (case h => walk_at "cy")))
local macro_rules | `(tactic| walk_at "rd1") => `(tactic| first
  | (with_reducible refine' rd_seq ?_) | (with_reducible refine' rd_asg ?_) | (with_reducible refine' rd_par ?_) | (with_reducible refine' rd_ret ?_)
  | (with_reducible refine' rd_ifs ?_) | (with_reducible refine' rd_drop ?_) | (with_reducible refine' rd_next ?_) | (with_reducible refine' rd_asgG ?_)
  | ((with_reducible refine' rd_var (v := ?v) ?e ?h); (case e => exact rfl)) | (with_reducible refine' rd_c ?_) | (with_reducible refine' rd_op ?_) | (with_reducible refine' rd_un ?_)
  | (with_reducible refine' rd_cb ?_) | (with_reducible refine' rd_cons ?_) | (with_reducible refine' rd_nil ?_)
  | (with_reducible refine' rd_I0 ?_) | (with_reducible refine' rd_U ?_) | (with_reducible refine' rd_eqI ?_) | (with_reducible refine' rd_neI ?_)
  | (with_reducible refine' rd_test ?_) | (with_reducible refine' rd_bl ?_) | (with_reducible refine' rd_not ?_) | (with_reducible refine' rd_and ?_) | (with_reducible refine' rd_or ?_)
  | (with_reducible refine' rd_t ?_) | (with_reducible refine' rd_f ?_) | (with_reducible refine' rd_nt ?_) | (with_reducible refine' rd_nf ?_)
  | (with_reducible refine' rd_andV ?_) | (with_reducible refine' rd_orV ?_) | (with_reducible refine' rd_notV ?_) | (with_reducible refine' rd_B ?_) | (with_reducible refine' rd_forR1 ?_) | (with_reducible refine' rd_forR2 ?_) | (with_reducible refine' rd_for ?_) | (with_reducible refine' rd_iT ?_) | (with_reducible refine' rd_iL ?_) | (with_reducible refine' rd_lc ?_)
  | (with_reducible refine' rd_if ?_) | (with_reducible refine' rd_isNr ?_) | (with_reducible refine' rd_isN0 ?_) | (with_reducible refine' rd_notNr ?_) | (with_reducible refine' rd_notN0 ?_) | (with_reducible refine' rd_abs ?_) | ((with_reducible refine' rd_lenL (xs := ?xs) ?f ?h); (case f => walk_at "cy")) | ((with_reducible refine' rd_lenT (xs := ?xs) ?f ?h); (case f => walk_at "cy")) | (with_reducible refine' rd_mt ?_) | (with_reducible refine' rd_bm ?_) | (with_reducible refine' rd_tru ?_) | (with_reducible refine' rd_truInt ?_) | (with_reducible refine' rd_fld ?_)
  | ((with_reducible refine' rd_ixT (xs := ?xs) (v := ?v) ?f ?e ?h); (case f => walk_at "cy"); (case e => exact rfl))
  | ((with_reducible refine' rd_ixL (xs := ?xs) (v := ?v) ?f ?e ?h); (case f => walk_at "cy"); (case e => exact rfl))
  | ((with_reducible refine' rd_gtup (xs := ?xs) ?f ?e ?h); (case f => walk_at "cy"); (case e => exact rfl))
  | (with_reducible refine' rd_gcons ?_) | (with_reducible refine' rd_gnil ?_) | (with_reducible refine' rd_gname ?_))
local macro_rules | `(tactic| walk_at "rd") => `(tactic| repeat walk_at "rd1")
local macro_rules | `(tactic| walk_at "cy") => `(tactic| first
  | assumption
  | ((with_reducible refine' at_mono (H := ?H) ?s ?h); (case s => assumption); (case h => walk_at "cy"))
  | ((with_reducible refine' T2.mono (H := ?H) ?s ?h); (case s => assumption); (case h => walk_at "cy"))
  | ((with_reducible refine' PlAt.mono (H := ?H) ?s ?h); (case s => assumption); (case h => walk_at "cy"))
  | ((with_reducible refine' Pls.mono (H := ?H) ?s ?h); (case s => assumption); (case h => walk_at "cy")))
section
variable {P : Program} {w : World} {K : PySem.W.Frag} {mg : Str → Option Value} {base : Heap} {CP CB CT CE : Addr}
/-! ### tables -/
def tbF (told led rec made : Addr) (c : Int) : List (Str × V) := [("told", .ref told), ("ledge", .ref led), ("home", .int c), ("recipe", .ref rec), ("made", .ref made)]
def TbAt (CP CT : Addr) (H : Hp) (p : Addr) (T : Tb) : Prop := ∃ dx told led rec made xs, H p = some (.ins CT dx (tbF told led rec made T.c)) ∧ H led = some (.tup xs) ∧ Pls CP H xs T.rows
theorem TbAt.mono {H H' : Hp} {p : Addr} {T : Tb} (s : Same H H') (h : TbAt CP CT H p T) : TbAt CP CT H' p T := let ⟨dx, a, b, c, d, xs, h1, h2, h3⟩ := h; ⟨dx, a, b, c, d, xs, s _ _ h1, s _ _ h2, h3.mono s⟩
theorem tbF_ledge {a b c d : Addr} {n : Int} : (tbF a b c d n).lookup ("ledge" : Str) = some (.ref b) := by unfold tbF; rw [lk_miss (by decide +kernel)]; exact lk_hit
theorem tbF_home {a b c d : Addr} {n : Int} : (tbF a b c d n).lookup ("home" : Str) = some (.int n) := by unfold tbF; rw [lk_miss (by decide +kernel), lk_miss (by decide +kernel)]; exact lk_hit
theorem tbF_no {a b c d : Addr} {n : Int} {m : Str} (h1 : (m == ("told" : Str)) = false) (h2 : (m == ("ledge" : Str)) = false) (h3 : (m == ("home" : Str)) = false) (h4 : (m == ("recipe" : Str)) = false) (h5 : (m == ("made" : Str)) = false) : (tbF a b c d n).lookup m = none := by
  unfold tbF
  rw [lk_miss h1, lk_miss h2, lk_miss h3, lk_miss h4, lk_miss h5]
  rfl
theorem rd_home {H : Hp} {Q : VK} {p : Addr} {S : Tb} (T : Txt K mg CP CB CT CE) (h : TbAt CP CT H p S) (k : Q (.int S.c) H) : rFld K "home" (.ref p) H Q := let ⟨dx, a, b, c, d, xs, h1, h2, h3⟩ := h; ⟨p, CT, dx, _, _, rfl, h1, T.cl_Table, T.a_CT_home, tbF_home, k⟩
theorem rd_ledge {H : Hp} {Q : VK} {p : Addr} {S : Tb} (T : Txt K mg CP CB CT CE) (h : TbAt CP CT H p S) (k : ∀ l xs, H l = some (.tup xs) → Pls CP H xs S.rows → Q (.ref l) H) : rFld K "ledge" (.ref p) H Q := let ⟨dx, a, b, c, d, xs, h1, h2, h3⟩ := h; ⟨p, CT, dx, _, _, rfl, h1, T.cl_Table, T.a_CT_ledge, tbF_ledge, k b xs h2 h3⟩
theorem tb_ins {H : Hp} {p : Addr} {S : Tb} {m : Str} (h : TbAt CP CT H p S) (h1 : (m == ("told" : Str)) = false := by decide +kernel) (h2 : (m == ("ledge" : Str)) = false := by decide +kernel) (h3 : (m == ("home" : Str)) = false := by decide +kernel) (h4 : (m == ("recipe" : Str)) = false := by decide +kernel) (h5 : (m == ("made" : Str)) = false := by decide +kernel) :
    ∃ a dx fs, V.ref p = .ref a ∧ H a = some (.ins CT dx fs) ∧ fs.lookup m = none := let ⟨dx, a, b, c, d, xs, e1, e2, e3⟩ := h; ⟨p, dx, _, rfl, e1, tbF_no h1 h2 h3 h4 h5⟩
theorem pl_ins {H : Hp} {p : Addr} {g : Pl} {m : Str} (h : PlAt CP H p g) (h1 : (m == ("x" : Str)) = false := by decide +kernel) (h2 : (m == ("y" : Str)) = false := by decide +kernel) (h3 : (m == ("area" : Str)) = false := by decide +kernel) :
    ∃ a dx fs, V.ref p = .ref a ∧ H a = some (.ins CP dx fs) ∧ fs.lookup m = none := let ⟨dx, e⟩ := h; ⟨p, dx, _, rfl, e, plF_no g h1 h2 h3⟩
abbrev s_need_table : Stmt := top 37
def N_need_table : List Str := ["value"]
theorem sc_need_table : FnScope ["value"] ["value"] (defScope s_need_table) := ⟨rfl, rfl, rfl, by decide +kernel, rfl, by decide +kernel, by decide +kernel⟩
def spNeedTb (CP CT : Addr) : Sp := fun vs H Q _ => ∃ (p : Addr) (S : Tb), vs = [.ref p] ∧ TbAt CP CT H p S ∧ Q .non H
theorem ok_need_table (T : Txt K mg CP CB CT CE) : Cal P w K mg base L2.CX0 1 "need_table" (spNeedTb CP CT) := by
  refine T.f_need_table.cal sc_need_table (fun vs H Q E ⟨p, g, e, _⟩ => by subst e; rfl) (N := N_need_table) fun f cdv A outer s H vs Q E hr h => ?_
  obtain ⟨p, S, rfl, ⟨dx, a, b, c, d, xs, h1, h2, h3⟩, h⟩ := h
  refine ⟨_, (pss_one (ps_if (pt_not (pt_val (pe_callB (isiK (K := K) rfl) (by rfl) T.n_isinstance (by decide +kernel) (pa_cons (pv 0) (pa_cons (pe_glob (v := .ref CT) rfl T.g_Table rfl) pa_nil))))) (pss_one ps_never) pss_nil)), ?_⟩
  walk_at "rd"
  refine rd_isC T.isT h1 ?_
  walk_at "rd"
  exact h
abbrev s_Table_ends : Stmt := inClass (top 35) 6
def N_Table_ends : List Str := ["self", "row"]
theorem sc_Table_ends : FnScope ["self", "row"] ["self"] (defScope s_Table_ends) := ⟨rfl, rfl, rfl, by decide +kernel, rfl, by decide +kernel, by decide +kernel⟩
def spEnds (CP CT : Addr) : Sp := fun vs H Q _ => ∃ (p : Addr) (S : Tb), vs = [.ref p] ∧ TbAt CP CT H p S ∧ ∀ l xs H', H l = none → Same H H' → H' l = some (.lst xs) → Rws H' xs (ends S) → Q (.ref l) H'
theorem ok_ends (T : Txt K mg CP CB CT CE) : Mth P w K mg base L2.CX0 1 CT "ends" (spEnds CP CT) := by
  refine T.m_Table_ends.mth sc_Table_ends (fun vs H Q E ⟨p, S, e, _⟩ => by subst e; rfl) (N := N_Table_ends) fun f cdv A outer s H vs Q E hr h => ?_
  obtain ⟨p, S, rfl, hS, h⟩ := h
  refine ⟨_, (pss_one (ps_ret (pe_lc (own := [("row", 1)]) (g := gName 1) (tt := tYes) (by rfl) sc_Table_ends.nd (piT (K := K) rfl (fldK (K := K) rfl (pv 0) rfl)) (blkOk_by (own := [("row", 1)]) (N := N_Table_ends) (sc := defScope s_Table_ends) (by decide +kernel)) (fun _ _ _ _ _ => pg_name (i := 1) sc_Table_ends.nd rfl (Or.inl rfl)) (fun _ _ _ _ _ => pts_nil) (fun _ _ _ _ _ => by exact (tupS (pa_cons (fldK (K := K) rfl (pv 1) rfl) (pa_cons (fldK (K := K) rfl (pv 1) rfl) pa_nil))))))), ?_⟩
  walk_at "rd"
  refine rd_ledge T hS fun l xs hl hx => ?_
  have hn : xs.length ≤ 2 := by
    rw [hx.1]
    rcases rows_cases S with ⟨_, _, e⟩ | ⟨_, _, e⟩ | ⟨_, _, e⟩ | ⟨_, _, e⟩ <;> rw [e] <;> simp
  refine rd_lcT hl (by omega) (fun k y H' => ∀ g, S.rows[k]? = some g → ∃ q, y = .ref q ∧ T2 H' q (g.x, g.y)) (fun k y H1 H2 s h g e => let ⟨q, e1, e2⟩ := h g e; ⟨q, e1, e2.mono s⟩) (fun k y H1 D xs ys hD h g e => ?_) (fun x => rfl) (fun i x H1 hx1 s1 F hF => ?_) (fun D ys H' n s1 hD hl2 hR => ?_)
  · obtain ⟨q, e1, e2⟩ := h g e
    refine ⟨q, e1, ?_⟩
    show upd H1 D _ q = _
    rw [upd_ne (ne_of e2 hD (by intro z; cases z))]
    exact e2
  · obtain ⟨q, g, rfl, hg, hq⟩ := (hx.mono s1).get hx1
    walk_at "rd"
    refine rd_px T hq ?_
    walk_at "rd"
    refine rd_py T hq ?_
    walk_at "rd"
    refine rd_new fun a1 H2 n2 s2 c2 => hF _ H2 s2 fun g' hg' => ⟨a1, rfl, ?_⟩
    rw [hg] at hg'
    cases hg'
    exact c2
  · refine h D ys H' n s1 hD ⟨by rw [hl2, hx.1]; unfold ends; rw [List.length_map], fun i v hv => ?_⟩
    unfold ends at hv
    rw [List.getElem?_map] at hv
    cases e : S.rows[i]? with
    | none => rw [e] at hv; cases hv
    | some g =>
      rw [e] at hv
      cases (Option.some.inj hv)
      have hi : i < ys.length := by rw [hl2, hx.1]; exact (List.getElem?_eq_some_iff.mp e).1
      obtain ⟨q, e1, e2⟩ := hR i ys[i] (List.getElem?_eq_getElem hi) g e
      exact ⟨q, by rw [List.getElem?_eq_getElem hi, e1], e2⟩
theorem rows_le (S : Tb) : S.rows.length ≤ 2 := by
  rcases rows_cases S with ⟨_, _, e⟩ | ⟨_, _, e⟩ | ⟨_, _, e⟩ | ⟨_, _, e⟩ <;> rw [e] <;> simp
/-- how great a table's numbers are -/
structure TbB (T : Tb) : Prop where
  p : Fits 118 T.p
  q : Fits 118 T.q
  s : Fits 118 T.s
  r : Fits 3000 T.r
  t : Fits 3000 T.t
  c : Fits 3000 T.c
theorem TbB.row {S : Tb} (b : TbB S) {g : Pl} (h : g ∈ S.rows) : Fits 118 g.x ∧ Fits 118 g.y ∧ Fits 3000 g.a := by
  rcases rows_cases S with ⟨_, _, e⟩ | ⟨_, _, e⟩ | ⟨_, _, e⟩ | ⟨_, _, e⟩
  · rw [e] at h; cases h
  · rw [e] at h; cases List.mem_singleton.mp h; exact ⟨b.p, b.q, b.r⟩
  · rw [e] at h; cases List.mem_singleton.mp h; exact ⟨.zero, b.s, b.t⟩
  · rw [e] at h
    rcases List.mem_cons.mp h with rfl | h
    · exact ⟨b.p, b.q, b.r⟩
    · cases List.mem_singleton.mp h; exact ⟨.zero, b.s, b.t⟩
theorem row_nz {S : Tb} {g : Pl} (hgm : g ∈ S.rows) : g.x ≠ 0 ∨ g.y ≠ 0 := by
  rcases rows_cases S with ⟨_, _, e⟩ | ⟨hp, _, e⟩ | ⟨_, hs, e⟩ | ⟨hp, hs, e⟩
  · rw [e] at hgm; cases hgm
  · rw [e] at hgm; cases List.mem_singleton.mp hgm; exact .inl (by show S.p ≠ 0; omega)
  · rw [e] at hgm; cases List.mem_singleton.mp hgm; exact .inr (by show S.s ≠ 0; omega)
  · rw [e] at hgm
    rcases List.mem_cons.mp hgm with rfl | hgm
    · exact .inl (by show S.p ≠ 0; omega)
    · cases List.mem_singleton.mp hgm; exact .inr (by show S.s ≠ 0; omega)
theorem FP.mul {a b : Nat} {g h : Pl} (hg : FP a g) (hh : FP b h) : FP (a + b + 2) (g.mul h) :=
  ⟨hg.1.add hh.1 (by omega) (by omega), hg.2.1.add hh.2.1 (by omega) (by omega), (hg.2.2.add hh.2.2 (k := a + b + 1) (by omega) (by omega)).add (hg.1.mul hh.2.1 (Nat.le_refl _)) (by omega) (by omega)⟩
theorem FP.pow {a j : Nat} {g : Pl} {n : Int} (hg : FP a g) (hn : Fits j n) : FP (2 * j + 2 * a + 4) (g.pow n) :=
  ⟨hn.mul hg.1 (by omega), hn.mul hg.2.1 (by omega), (hn.mul hg.2.2 (Nat.le_refl _)).add (((fits_tri hn).mul hg.1 (Nat.le_refl _)).mul hg.2.1 (Nat.le_refl _)) (by omega) (by omega)⟩
theorem FP.inv {a : Nat} {g : Pl} (hg : FP a g) : FP (2 * a + 1) g.inv := ⟨hg.1.neg.mono (by omega), hg.2.1.neg.mono (by omega), (hg.1.mul hg.2.1 (Nat.le_refl _)).sub hg.2.2 (by omega) (by omega)⟩
/-! over: sizes by the turn -/
structure OvB (kv i : Nat) (l : P2) (f : Pl) : Prop where
  l : FitsP (kv + i * 119) l
  x : Fits (kv + 118 + 120 * i) f.x
  y : Fits (kv + 118 + 120 * i) f.y
  a : Fits (max (2 * kv + 700) (kv + 3121) + 2 * i) f.a
theorem ovB_zero {kv : Nat} {v : P2} (h : FitsP kv v) : OvB kv 0 v home := ⟨h.mono (by omega), .zero, .zero, .zero⟩
theorem ovT_fits {k : Nat} {g : Pl} {l : P2} (h : FitsP k l) : Fits k (ovT g l) := by
  unfold ovT
  split
  · exact h.1.fdiv _
  · exact h.2.fdiv _
theorem ovB_step {kv i : Nat} {l : P2} {f g : Pl} (h : OvB kv i l f) (hi : i < 2) (b1 : Fits 118 g.x) (b2 : Fits 118 g.y) (b3 : Fits 3000 g.a) : OvB kv (i + 1) (l.1 - ovT g l * g.x, l.2 - ovT g l * g.y) (f.mul (g.pow (ovT g l))) := by
  have ht := ovT_fits (g := g) h.l
  refine ⟨⟨h.l.1.sub (ht.mul b1 (Nat.le_refl _)) (by omega) (by omega), h.l.2.sub (ht.mul b2 (Nat.le_refl _)) (by omega) (by omega)⟩, ?_, ?_, ?_⟩
  · exact h.x.add (ht.mul b1 (Nat.le_refl _)) (by omega) (by omega)
  · exact h.y.add (ht.mul b2 (Nat.le_refl _)) (by omega) (by omega)
  · refine (h.a.add (((ht.mul b3 (Nat.le_refl _)).add (((fits_tri ht).mul b1 (Nat.le_refl _)).mul b2 (Nat.le_refl _)) (k := max (2 * kv + 700) (kv + 3121)) (by omega) (by omega))) (k := max (2 * kv + 700) (kv + 3121) + 2 * i + 1) (by omega) (by omega)).add (h.x.mul (ht.mul b2 (Nat.le_refl _)) (k := 2 * kv + 700) (by omega)) (by omega) (by omega)
abbrev s_Table_over : Stmt := inClass (top 35) 9
def N_Table_over : List Str := ["self", "row", "left", "found", "line", "times"]
theorem sc_Table_over : FnScope ["self", "row", "left", "found", "line", "times"] ["self", "row"] (defScope s_Table_over) := ⟨rfl, rfl, rfl, by decide +kernel, rfl, by decide +kernel, by decide +kernel⟩
def spOver (CP CT : Addr) : Sp := fun vs H Q _ => ∃ (p r : Addr) (S : Tb) (v : P2) (kv : Nat), vs = [.ref p, .ref r] ∧ TbAt CP CT H p S ∧ TbB S ∧ T2 H r v ∧ FitsP kv v ∧ kv ≤ 1000000 ∧ ∀ H', Same H H' → Fits (max (2 * kv + 700) (kv + 3121) + 4) (overM S v) → Q (.int (overM S v)) H'
theorem ok_over (T : Txt K mg CP CB CT CE) : Mth P w K mg base L2.CX0 6 CT "over" (spOver CP CT) := by
  have g_Place := ok_Place (P := P) (w := w) (base := base) T
  have T_mul := ok_mul (P := P) (w := w) (base := base) T
  have g_power := ok_power (P := P) (w := w) (base := base) T
  refine T.m_Table_over.mth sc_Table_over (fun vs H Q E ⟨p, r, S, v, kv, e, _⟩ => by subst e; rfl) (N := N_Table_over) fun f cdv A outer s H vs Q E hr h => ?_
  obtain ⟨p, r, S, v, kv, rfl, hS, bS, hv, fv, bk, h⟩ := h
  refine ⟨_, (pss_cons (ps_par (i := 2) (j := 3) rfl sc_Table_over.nd rfl rfl (by decide) rfl rfl (pa_cons (pv 1) (pa_cons (mkcS g_Place pass0 hr (by decide) (by rfl) place_new (pa_cons pe_int (pa_cons pe_int (pa_cons pe_int pa_nil)))) pa_nil)) (by rfl))
 (pss_cons (ps_for PassesOwn.never rfl (piT (K := K) rfl (fldK (K := K) rfl (pv 0) rfl)) (pg_name (i := 4) sc_Table_over.nd rfl (Or.inl rfl)) (pss_cons (ps_set (i := 5) sc_Table_over.nd rfl (Or.inl rfl) (pe_ifExp (truK (K := K) rfl (fldK (K := K) rfl (pv 4) rfl) (by intro _; rfl)) (pe_op op_fdX (pe_ix (ixTK (K := K) rfl) (pv 2) pe_int (fun _ _ => rfl)) (fldK (K := K) rfl (pv 4) rfl)) (pe_op op_fdX (pe_ix (ixTK (K := K) rfl) (pv 2) pe_int (fun _ _ => rfl)) (fldK (K := K) rfl (pv 4) rfl))))
 (pss_cons (ps_set (i := 3) sc_Table_over.nd rfl (Or.inl rfl) (pe_op (op_own2 T_mul pass0 hr (by decide) rfl T.plFirst) (pv 3) (mthS g_power pass0 hr (by decide) (pv 4) (pa_cons (pv 5) pa_nil))))
 (pss_one (ps_set (i := 2) sc_Table_over.nd rfl (Or.inl rfl) (tupS (pa_cons (pe_op op_sub (pe_ix (ixTK (K := K) rfl) (pv 2) pe_int (fun _ _ => rfl)) (pe_op op_mulX (pv 5) (fldK (K := K) rfl (pv 4) rfl))) (pa_cons (pe_op op_sub (pe_ix (ixTK (K := K) rfl) (pv 2) pe_int (fun _ _ => rfl)) (pe_op op_mulX (pv 5) (fldK (K := K) rfl (pv 4) rfl))) pa_nil))))))))
 (pss_one (ps_ret (fldK (K := K) rfl (pv 3) rfl))))), ?_⟩
  walk_at "rd"
  refine ⟨0, 0, 0, rfl, fun q H1 n1 s1 hq => ?_⟩
  walk_at "rd"
  refine rd_ledge T (hS.mono s1) fun l xs hl hx => ?_
  refine rd_forT hl (fun i σ' H' => ∃ lr fq l f c4 c5, σ' = [some (.ref p), some (.ref r), some (.ref lr), some (.ref fq), c4, c5] ∧ Same H1 H' ∧ T2 H' lr l ∧ PlAt CP H' fq f ∧ OvB kv i l f ∧ ovL (S.rows.drop i) l f = ovL S.rows v home)
    ⟨r, q, v, home, none, none, rfl, Same.refl _, hv.mono s1, hq, ovB_zero fv, rfl⟩ (fun i σ' H' _ h => by obtain ⟨_, _, _, _, _, _, _, s2, _⟩ := h; exact s2 _ _ hl) ?_ ?_
  · rintro i z σ' H' hz ⟨lr, fq, l', f', c4, c5, rfl, s2, hlr, hfq, B, he⟩
    obtain ⟨gq, g, rfl, hg, hgq⟩ := (hx.mono s2).get hz
    have hi2 : i < 2 := by have := (List.getElem?_eq_some_iff.mp hg).1; have := rows_le S; omega
    have hgm := List.mem_of_getElem? hg
    obtain ⟨b1, b2, b3⟩ := bS.row hgm
    have hd : S.rows.drop i = g :: S.rows.drop (i + 1) := by
      obtain ⟨h1, h2⟩ := List.getElem?_eq_some_iff.mp hg
      rw [List.drop_eq_getElem_cons h1, h2]
    rw [hd] at he
    have nz := row_nz hgm
    walk_at "rd"
    refine rd_px T hgq ?_
    walk_at "rd"
    have val : ∀ G : V → Prop, G (.int (ovT g l')) → (g.x ≠ 0 → G (.int (l'.1.fdiv g.x))) ∧ (g.x = 0 → G (.int (l'.2.fdiv g.y))) := fun G k => by
      unfold ovT at k
      exact ⟨fun n => by rw [if_pos n] at k; exact k, fun n => by rw [if_neg (fun z => z n)] at k; exact k⟩
    refine rd_joinB (x := .int (l'.1.fdiv g.x)) (y := .int (l'.2.fdiv g.y)) (fun hn Q q => ?_) (fun hn Q q => ?_) ?_
    · walk_at "rd"
      refine rd_px T hgq ?_
      refine rd_I ⟨hn, b1.mono (by omega)⟩ ?_
      exact q
    · walk_at "rd"
      refine rd_py T hgq ?_
      refine rd_I ⟨nz.resolve_left (fun z => z hn), b2.mono (by omega)⟩ ?_
      exact q
    have ev : (if (g.x != 0) = true then V.int (l'.1.fdiv g.x) else V.int (l'.2.fdiv g.y)) = V.int (ovT g l') := by
      unfold ovT
      by_cases hn : g.x = 0
      · rw [if_neg (by simp [hn]), if_neg (fun z => z hn)]
      · rw [if_pos (by simp [hn]), if_pos hn]
    rw [ev]
    have ft : Fits (kv + 119) (ovT g l') := (ovT_fits (g := g) B.l).mono (by omega)
    walk_at "rd"
    refine rd_mtB (pl_ins hgq) ?_
    walk_at "rd"
    refine ⟨gq, _, g, max (kv + 119) 3000, rfl, hgq, ⟨b1.mono (by omega), b2.mono (by omega), b3.mono (by omega)⟩, ft.mono (by omega), by omega, fun gp H2 n2 s2' hgp => ?_⟩
    obtain ⟨dx1, e1⟩ := hfq.mono s2'
    obtain ⟨dx2, e2⟩ := id hgp
    refine ⟨fq, dx1, _, gp, dx2, _, rfl, rfl, e1, e2, fq, gp, _, _, kv + 400, rfl, hfq.mono s2', hgp, B.x.mono (by omega), (ft.mul b2 (Nat.le_refl _)).mono (by omega), by omega, fun nf H3 n3 s3 hnf => ?_⟩
    walk_at "rd"
    refine rd_px T (by walk_at "cy") ?_
    refine rd_I (mul_ok ft b1 (by omega)) ?_
    walk_at "rd"
    refine rd_py T (by walk_at "cy") ?_
    refine rd_I (mul_ok ft b2 (by omega)) ?_
    walk_at "rd"
    refine rd_new fun nl H4 n4 s4 hnl => ?_
    exact ⟨nl, nf, _, _, _, _, rfl, ((s2.trans s2').trans s3).trans s4, (show T2 H4 nl (l'.1 - ovT g l' * g.x, l'.2 - ovT g l' * g.y) from hnl), hnf.mono s4, ovB_step B hi2 b1 b2 b3, he⟩
  · rintro σ' H' ⟨lr, fq, l', f', c4, c5, rfl, s2, hlr, hfq, B, he⟩
    have hn : xs.length = S.rows.length := hx.1
    rw [hn, List.drop_length] at he
    have e : f'.a = overM S v := by
      unfold overM
      rw [← he]
      rfl
    walk_at "rd"
    refine rd_pa T hfq ?_
    rw [e]
    refine h H' (s1.trans s2) ?_
    rw [← e]
    have := rows_le S
    exact B.a.mono (by omega)
/-! figures -/
abbrev s_Table_figures : Stmt := inClass (top 35) 7
def N_Table_figures : List Str := ["self", "place", "left", "counts", "row", "whole", "part", "fits"]
theorem sc_Table_figures : FnScope ["self", "place", "left", "counts", "row", "whole", "part", "fits"] ["self", "place"] (defScope s_Table_figures) := ⟨rfl, rfl, rfl, by decide +kernel, rfl, by decide +kernel, by decide +kernel⟩
def spFig (CP CT : Addr) : Sp := fun vs H Q _ => ∃ (p r : Addr) (S : Tb) (g : Pl) (k : Nat), vs = [.ref p, .ref r] ∧ TbAt CP CT H p S ∧ S.Ok ∧ TbB S ∧ PlAt CP H r g ∧ FP k g ∧ k ≤ 100000 ∧ (∀ H', Same H H' → ¬ S.Mem g → Q .non H') ∧ ∀ q xs H', Same H H' → H' q = some (.tup xs) → S.Mem g → Q (.ref q) H'
theorem ok_figures (T : Txt K mg CP CB CT CE) : Mth P w K mg base L2.CX0 6 CT "figures" (spFig CP CT) := by
  have g_need_place := ok_need_place (P := P) (w := w) (base := base) T
  have T_mul := ok_mul (P := P) (w := w) (base := base) T
  have g_power := ok_power (P := P) (w := w) (base := base) T
  refine T.m_Table_figures.mth sc_Table_figures (fun vs H Q E ⟨p, r, S, g, k, e, _⟩ => by subst e; rfl) (N := N_Table_figures) fun f cdv A outer s H vs Q E hr h => ?_
  obtain ⟨p, r, S, g, k, rfl, hS, ok, bS, hg, fg, bk, hN, hY⟩ := h
  refine ⟨_, (pss_cons (ps_expr (calS g_need_place pass0 hr (by decide) (by rfl) (pa_cons (pv 1) pa_nil)))
 (pss_cons (ps_set (i := 2) sc_Table_figures.nd rfl (Or.inl rfl) (pv 1))
 (pss_cons (ps_set (i := 3) sc_Table_figures.nd rfl (Or.inl rfl) (lstS pa_nil))
 (pss_cons (ps_for PassesOwn.never rfl (piT (K := K) rfl (fldK (K := K) rfl (pv 0) rfl)) (pg_name (i := 4) sc_Table_figures.nd rfl (Or.inl rfl)) (pss_cons (ps_asg (pe_ifExp (truK (K := K) rfl (fldK (K := K) rfl (pv 4) rfl) (by intro _; rfl)) (tupS (pa_cons (fldK (K := K) rfl (pv 4) rfl) (pa_cons (fldK (K := K) rfl (pv 2) rfl) pa_nil))) (tupS (pa_cons (fldK (K := K) rfl (pv 4) rfl) (pa_cons (fldK (K := K) rfl (pv 2) rfl) pa_nil)))) (pg_tup rfl (pgs_cons (pg_name (i := 5) sc_Table_figures.nd rfl (Or.inl rfl)) (pgs_cons (pg_name (i := 6) sc_Table_figures.nd rfl (Or.inl rfl)) pgs_nil))))
 (pss_cons (ps_if (truK (K := K) rfl (pe_op op_modN (pv 6) (pv 5)) (by intro _; rfl)) (pss_one (ps_ret pe_non)) pss_nil)
 (pss_cons (ps_expr (pe_bm PySem.F.plainAttrs_list PySem.F.slot_list_append PySem.F.type_list_append mt_append (pv 3) (pa_cons (pe_op op_fdX (pv 6) (pv 5)) pa_nil)))
 (pss_one (ps_set (i := 2) sc_Table_figures.nd rfl (Or.inl rfl) (pe_op (op_own2 T_mul pass0 hr (by decide) rfl T.plFirst) (mthS g_power pass0 hr (by decide) (pv 4) (pa_cons (pe_un un_neg (pe_op op_fdX (pv 6) (pv 5))) pa_nil)) (pv 2))))))))
 (pss_cons (ps_set (i := 7) sc_Table_figures.nd rfl (Or.inl rfl) (pe_ifExp (pt_cmpR op_eq (fldK (K := K) rfl (pv 0) rfl) pe_int (nomark _)) (pe_cmpR op_eq (fldK (K := K) rfl (pv 2) rfl) pe_int (nomark _)) (pe_cmpR op_eq (pe_op op_modN (fldK (K := K) rfl (pv 2) rfl) (fldK (K := K) rfl (pv 0) rfl)) pe_int (nomark _))))
 (pss_cons (ps_if (PW.pt (pw_or (truK (K := K) rfl (fldK (K := K) rfl (pv 2) rfl) (by intro _; rfl)) (pw_or (truK (K := K) rfl (fldK (K := K) rfl (pv 2) rfl) (by intro _; rfl)) (pw_or1 (pt_not (pt_val (pv 7))))))) (pss_one (ps_ret pe_non)) pss_nil)
 (pss_one (ps_ret (pe_callTy (tupK (K := K) rfl) (by rfl) T.n_tuple (by decide +kernel) (pa_cons (pe_op op_catS (pv 3) (lstS (pa_cons (pe_ifExp (truK (K := K) rfl (fldK (K := K) rfl (pv 0) rfl) (by intro _; rfl)) (pe_op op_fdX (fldK (K := K) rfl (pv 2) rfl) (fldK (K := K) rfl (pv 0) rfl)) pe_int) pa_nil))) pa_nil)))))))))), ?_⟩
  walk_at "rd"
  refine ⟨r, g, rfl, hg, ?_⟩
  walk_at "rd"
  refine rd_newL fun cl H1 n1 s1 hcl => ?_
  walk_at "rd"
  obtain ⟨dx, fa, fb, fc, fd, xs, hp, hl, hx⟩ := id hS
  refine ⟨p, CT, dx, _, _, rfl, s1 _ _ hp, T.cl_Table, T.a_CT_ledge, tbF_ledge, ?_⟩
  have bound : ∀ i, i ≤ 2 → (3 ^ i * (max k 3000) + 3003 * (3 ^ i - 1)) ≤ 10000000 := fun i hi => by
    match i, hi with
    | 0, _ => simp; omega
    | 1, _ => simp; omega
    | 2, _ => simp; omega
  refine rd_forT (s1 _ _ hl) (fun i σ' H' => ∃ lq l cs c4 c5 c6, σ' = [some (.ref p), some (.ref r), some (.ref lq), some (.ref cl), c4, c5, c6, none] ∧ Same H H' ∧ PlAt CP H' lq l ∧ H' cl = some (.lst cs) ∧ cs.length = i ∧ FP (3 ^ i * (max k 3000) + 3003 * (3 ^ i - 1)) l ∧ figL (S.rows.drop i) l = figL S.rows g)
    ⟨r, g, [], none, none, none, rfl, s1, hg.mono s1, hcl, rfl, fg.mono (by simp; omega), rfl⟩ (fun i σ' H' _ h => by obtain ⟨_, _, _, _, _, _, _, s2, _⟩ := h; exact s2 _ _ hl) ?_ ?_
  · rintro i z σ' H' hz ⟨lq, l, cs, c4, c5, c6, rfl, s2, hlq, hcs, hcl2, B, he⟩
    obtain ⟨gq, r', rfl, hgr, hgq⟩ := (hx.mono s2).get hz
    have hi2 : i < 2 := by have := (List.getElem?_eq_some_iff.mp hgr).1; have := rows_le S; omega
    have hgm := List.mem_of_getElem? hgr
    obtain ⟨b1, b2, b3⟩ := bS.row hgm
    have hd : S.rows.drop i = r' :: S.rows.drop (i + 1) := by
      obtain ⟨h1, h2⟩ := List.getElem?_eq_some_iff.mp hgr
      rw [List.drop_eq_getElem_cons h1, h2]
    rw [hd] at he
    have nz := row_nz hgm
    have kb := bound i (by omega)
    generalize hki : 3 ^ i * (max k 3000) + 3003 * (3 ^ i - 1) = ki at *
    walk_at "rd"
    refine rd_px T hgq ?_
    walk_at "rd"
    refine rd_joinT (r := rTup) (w := [.int (figW r' l).1, .int (figW r' l).2]) (fun hn Q q => ?_) (fun hn Q q => ?_) ?_
    · walk_at "rd"
      refine rd_px T hgq ?_
      walk_at "rd"
      refine rd_px T hlq ?_
      walk_at "rd"
      have e : figW r' l = (r'.x, l.x) := if_pos hn
      rw [e] at q
      exact q
    · walk_at "rd"
      refine rd_py T hgq ?_
      walk_at "rd"
      refine rd_py T hlq ?_
      walk_at "rd"
      have e : figW r' l = (r'.y, l.y) := if_neg (fun z => z hn)
      rw [e] at q
      exact q
    have w0 : (figW r' l).1 ≠ 0 := by
      unfold figW
      by_cases hn : r'.x = 0
      · rw [if_neg (fun z => z hn)]; exact nz.resolve_left (fun z => z hn)
      · rw [if_pos hn]; exact hn
    have wf : Fits 118 (figW r' l).1 ∧ Fits ki (figW r' l).2 := by
      unfold figW
      by_cases hn : r'.x = 0
      · rw [if_neg (fun z => z hn)]; exact ⟨b2, B.2.1⟩
      · rw [if_pos hn]; exact ⟨b1, B.1⟩
    have hf : figL (r' :: S.rows.drop (i + 1)) l = if (figW r' l).2.fmod (figW r' l).1 ≠ 0 then none else figL (S.rows.drop (i + 1)) ((r'.pow (-((figW r' l).2.fdiv (figW r' l).1))).mul l) := rfl
    rw [hf] at he
    generalize hfw : figW r' l = wp at *
    obtain ⟨wh, pa⟩ := wp
    refine rd_new fun t H2 n2 s2' ht => ?_
    walk_at "rd"
    refine rd_I w0 ?_
    walk_at "rd"
    refine rd_bne (fun hm => ?_) (fun hm => ?_)
    · rw [if_pos hm] at he
      walk_at "rd"
      refine hN H2 (s2.trans s2') fun hmem => ?_
      obtain ⟨l', h1, _⟩ := (fig_in ok g).mpr hmem
      rw [← he] at h1
      cases h1
    · rw [if_neg (fun z => z hm)] at he
      walk_at "rd"
      refine rd_bmL (s2' _ _ hcs) ?_
      walk_at "rd"
      refine rd_I ⟨w0, wf.1.mono (by omega)⟩ ?_
      walk_at "rd"
      refine rd_append (s2' _ _ hcs) (by omega) fun H3 s3 hcs3 => ?_
      have fq : Fits ki (pa.fdiv wh) := wf.2.fdiv _
      have hgq3 : PlAt CP H3 gq r' := (hgq.mono s2').monoB (s2' _ _ hcs) s3
      have hlq3 : PlAt CP H3 lq l := (hlq.mono s2').monoB (s2' _ _ hcs) s3
      walk_at "rd"
      refine rd_mtB (pl_ins hgq3) ?_
      walk_at "rd"
      refine rd_I ⟨w0, wf.1.mono (by omega)⟩ ?_
      walk_at "rd"
      have fr : FP 3000 r' := ⟨b1.mono (by omega), b2.mono (by omega), b3⟩
      have k3 : 3000 ≤ ki := by
        rw [← hki]
        have : 1 ≤ 3 ^ i := Nat.one_le_pow _ _ (by decide)
        have := Nat.le_mul_of_pos_left (max k 3000) this
        omega
      refine ⟨gq, _, r', ki, rfl, hgq3, fr.mono k3, fq.neg, by omega, fun gp H4 n4 s4 hgp => ?_⟩
      obtain ⟨dx1, e1⟩ := id hgp
      obtain ⟨dx2, e2⟩ := hlq3.mono s4
      have fpw : FP (2 * ki + 2 * 3000 + 4) (r'.pow (-(pa.fdiv wh))) := fr.pow fq.neg
      walk_at "rd"
      refine ⟨gp, dx1, _, lq, dx2, _, rfl, rfl, e1, e2, gp, lq, _, _, 2 * ki + 6004, rfl, hgp, hlq3.mono s4, fpw.1, B.2.1.mono (by omega), ?_, fun nf H5 n5 s5 hnf => ?_⟩
      · have := bound 2 (by decide)
        have : 3 ^ i ≤ 3 := by
          match i, hi2 with
          | 0, _ => decide
          | 1, _ => decide
        have : 3 ^ i * max k 3000 ≤ 3 * max k 3000 := Nat.mul_le_mul_right _ this
        omega
      refine ⟨nf, _, cs ++ [.int (pa.fdiv wh)], _, _, _, rfl, ?_, hnf, ?_, by rw [List.length_append, hcl2]; rfl, ?_, he⟩
      · exact ((SameB.same n1 (s2.trans s2') s3).trans s4).trans s5
      · exact s5 _ _ (s4 _ _ hcs3)
      · have e3 : 3 ^ (i + 1) * max k 3000 + 3003 * (3 ^ (i + 1) - 1) = 3 * ki + 6006 := by
          rw [Nat.pow_succ, ← hki]
          have : 1 ≤ 3 ^ i := Nat.one_le_pow _ _ (by decide)
          have h1 : 3 ^ i * 3 * max k 3000 = 3 * (3 ^ i * max k 3000) := by rw [Nat.mul_comm (3 ^ i) 3, Nat.mul_assoc]
          rw [h1]
          omega
        rw [e3]
        exact (fpw.mul B).mono (by omega)
  · rintro σ' H' ⟨lq, l, cs, c4, c5, c6, rfl, s2, hlq, hcs, hcl2, B, he⟩
    have hn : xs.length = S.rows.length := hx.1
    have hl2 : xs.length ≤ 2 := by rw [hn]; exact rows_le S
    rw [hn, List.drop_length] at he
    have he' : figL S.rows g = some l := he.symm
    have hS2 := hS.mono s2
    walk_at "rd"
    refine rd_home T hS2 ?_
    walk_at "rd"
    refine rd_joinD (x := .bl (decide (l.a = 0))) (y := .bl (decide (l.a.fmod S.c = 0))) (fun _ Q q => by walk_at "rd"; refine rd_pa T hlq ?_; walk_at "rd"; exact q) (fun hm Q q => by walk_at "rd"; refine rd_pa T hlq ?_; walk_at "rd"; refine rd_home T hS2 ?_; refine rd_I hm ?_; walk_at "rd"; exact q) ?_
    obtain ⟨b, eb, ib⟩ := fits_dec l.a S.c
    rw [eb]
    have no : ∀ (h : ¬ (l.x = 0 ∧ l.y = 0 ∧ S.c ∣ l.a)), ¬ S.Mem g := fun h hmem => by
      obtain ⟨l', h1, h2, h3, h4⟩ := (fig_in ok g).mpr hmem
      rw [he'] at h1
      cases h1
      exact h ⟨h2, h3, h4⟩
    walk_at "rd"
    refine rd_px T hlq ?_
    walk_at "rd"
    refine rd_bne (fun hx0 => ?_) (fun hx0 => ?_)
    · walk_at "rd"
      exact hN H' s2 (no fun z => hx0 z.1)
    walk_at "rd"
    refine rd_py T hlq ?_
    walk_at "rd"
    refine rd_bne (fun hy0 => ?_) (fun hy0 => ?_)
    · walk_at "rd"
      exact hN H' s2 (no fun z => hy0 z.2.1)
    walk_at "rd"
    cases b with
    | false =>
      walk_at "rd"
      exact hN H' s2 (no fun z => absurd (ib.mpr z.2.2) (by decide))
    | true =>
      have hmem : S.Mem g := (fig_in ok g).mp ⟨l, he', hx0, hy0, ib.mp rfl⟩
      walk_at "rd"
      refine rd_home T hS2 ?_
      walk_at "rd"
      refine rd_joinB (x := .int (l.a.fdiv S.c)) (y := .int 0) (fun hc Q q => ?_) (fun hc Q q => ?_) ?_
      · walk_at "rd"
        refine rd_pa T hlq ?_
        walk_at "rd"
        refine rd_home T hS2 ?_
        refine rd_I ⟨hc, bS.c.mono (by omega)⟩ ?_
        exact q
      · walk_at "rd"
        exact q
      walk_at "rd"
      refine rd_newL fun l2 H3 n3 s3 h3 => ?_
      walk_at "rd"
      refine rd_cat (s3 _ _ hcs) h3 (by simp; omega) fun l4 H4 n4 s4 h4 => ?_
      walk_at "rd"
      refine rd_tupL h4 fun l5 H5 n5 s5 h5 => ?_
      exact hY l5 _ H5 (((s2.trans s3).trans s4).trans s5) h5 hmem
abbrev s_Table_contains : Stmt := inClass (top 35) 2
def N_Table_contains : List Str := ["self", "place"]
theorem sc_Table_contains : FnScope ["self", "place"] ["self", "place"] (defScope s_Table_contains) := ⟨rfl, rfl, rfl, by decide +kernel, rfl, by decide +kernel, by decide +kernel⟩
def spCon (CP CT : Addr) : Sp := fun vs H Q _ => ∃ (p r : Addr) (S : Tb) (g : Pl) (k : Nat), vs = [.ref p, .ref r] ∧ TbAt CP CT H p S ∧ S.Ok ∧ TbB S ∧ PlAt CP H r g ∧ FP k g ∧ k ≤ 100000 ∧ ∀ b H', Same H H' → (b = true ↔ S.Mem g) → Q (.bl b) H'
theorem ok_contains (T : Txt K mg CP CB CT CE) : Mth P w K mg base L2.CX0 7 CT "__contains__" (spCon CP CT) := by
  have g_figures := ok_figures (P := P) (w := w) (base := base) T
  refine T.m_Table_contains.mth sc_Table_contains (fun vs H Q E ⟨p, r, S, g, k, e, _⟩ => by subst e; rfl) (N := N_Table_contains) fun f cdv A outer s H vs Q E hr h => ?_
  obtain ⟨p, r, S, g, k, rfl, hS, ok, bS, hg, fg, bk, h⟩ := h
  refine ⟨_, (pss_one (ps_ret (pe_cmpR op_notNS (mthS g_figures pass0 hr (by decide) (pv 0) (pa_cons (pv 1) pa_nil)) pe_non (nomark _)))), ?_⟩
  walk_at "rd"
  refine rd_mtB (tb_ins hS) ?_
  walk_at "rd"
  refine ⟨p, r, S, g, k, rfl, hS, ok, bS, hg, fg, bk, fun H1 s1 hn => ?_, fun q xs H1 s1 _ hy => ?_⟩
  · walk_at "rd"
    exact h false H1 s1 ⟨fun z => absurd z (by decide), fun z => absurd z hn⟩
  · walk_at "rd"
    exact h true H1 s1 ⟨fun _ => hy, fun _ => rfl⟩
end
end Wk
namespace Wk
set_option linter.all false
set_option maxRecDepth 100000
set_option maxHeartbeats 4000000
open PySem L2
local macro_rules | `(tactic| walk_at "cy") => `(tactic| first
  | assumption
  | ((with_reducible refine' at_mono (H := ?H) ?s ?h); (case s => assumption); (case h => walk_at "cy"))
  | ((with_reducible refine' PlAt.mono (H := ?H) ?s ?h); (case s => assumption); (case h => walk_at "cy")))
local macro_rules | `(tactic| walk_at "rd1") => `(tactic| first
  | (with_reducible refine' rd_seq ?_) | (with_reducible refine' rd_asg ?_) | (with_reducible refine' rd_par ?_) | (with_reducible refine' rd_ret ?_)
  | (with_reducible refine' rd_ifs ?_) | (with_reducible refine' rd_drop ?_) | (with_reducible refine' rd_next ?_) | (with_reducible refine' rd_asgG ?_)
  | ((with_reducible refine' rd_var (v := ?v) ?e ?h); (case e => exact rfl)) | (with_reducible refine' rd_c ?_) | (with_reducible refine' rd_op ?_) | (with_reducible refine' rd_un ?_)
  | (with_reducible refine' rd_cb ?_) | (with_reducible refine' rd_cons ?_) | (with_reducible refine' rd_nil ?_)
  | (with_reducible refine' rd_I0 ?_) | (with_reducible refine' rd_U ?_) | (with_reducible refine' rd_eqI ?_) | (with_reducible refine' rd_neI ?_)
  | (with_reducible refine' rd_test ?_) | (with_reducible refine' rd_bl ?_) | (with_reducible refine' rd_not ?_) | (with_reducible refine' rd_and ?_) | (with_reducible refine' rd_or ?_)
  | (with_reducible refine' rd_t ?_) | (with_reducible refine' rd_f ?_) | (with_reducible refine' rd_nt ?_) | (with_reducible refine' rd_nf ?_)
  | (with_reducible refine' rd_andV ?_) | (with_reducible refine' rd_orV ?_) | (with_reducible refine' rd_notV ?_) | (with_reducible refine' rd_B ?_) | (with_reducible refine' rd_forR1 ?_) | (with_reducible refine' rd_forR2 ?_) | (with_reducible refine' rd_for ?_) | (with_reducible refine' rd_iT ?_) | (with_reducible refine' rd_iL ?_) | (with_reducible refine' rd_lc ?_)
  | (with_reducible refine' rd_if ?_) | (with_reducible refine' rd_isNr ?_) | (with_reducible refine' rd_isN0 ?_) | (with_reducible refine' rd_notNr ?_) | (with_reducible refine' rd_notN0 ?_) | (with_reducible refine' rd_abs ?_) | ((with_reducible refine' rd_lenL (xs := ?xs) ?f ?h); (case f => walk_at "cy")) | ((with_reducible refine' rd_lenT (xs := ?xs) ?f ?h); (case f => walk_at "cy")) | (with_reducible refine' rd_mt ?_) | (with_reducible refine' rd_bm ?_) | (with_reducible refine' rd_tru ?_) | (with_reducible refine' rd_truInt ?_) | (with_reducible refine' rd_fld ?_)
  | ((with_reducible refine' rd_ixT (xs := ?xs) (v := ?v) ?f ?e ?h); (case f => walk_at "cy"); (case e => exact rfl))
  | ((with_reducible refine' rd_ixL (xs := ?xs) (v := ?v) ?f ?e ?h); (case f => walk_at "cy"); (case e => exact rfl))
  | ((with_reducible refine' rd_gtup (xs := ?xs) ?f ?e ?h); (case f => walk_at "cy"); (case e => exact rfl))
  | (with_reducible refine' rd_gcons ?_) | (with_reducible refine' rd_gnil ?_) | (with_reducible refine' rd_gname ?_))
local macro_rules | `(tactic| walk_at "rd") => `(tactic| repeat walk_at "rd1")
local macro_rules | `(tactic| walk_at "cy") => `(tactic| first
  | assumption
  | ((with_reducible refine' at_mono (H := ?H) ?s ?h); (case s => assumption); (case h => walk_at "cy"))
  | ((with_reducible refine' T2.mono (H := ?H) ?s ?h); (case s => assumption); (case h => walk_at "cy"))
  | ((with_reducible refine' PlAt.mono (H := ?H) ?s ?h); (case s => assumption); (case h => walk_at "cy"))
  | ((with_reducible refine' Pls.mono (H := ?H) ?s ?h); (case s => assumption); (case h => walk_at "cy"))
  | ((with_reducible refine' TbAt.mono (H := ?H) ?s ?h); (case s => assumption); (case h => walk_at "cy"))
  | ((with_reducible refine' Rws.mono (H := ?H) ?s ?h); (case s => assumption); (case h => walk_at "cy")))
section
variable {P : Program} {w : World} {K : PySem.W.Frag} {mg : Str → Option Value} {base : Heap} {CP CB CT CE : Addr}
/-! ### products -/
abbrev s_both_areas : Stmt := top 39
def N_both_areas : List Str := ["one", "other", "goal", "row", "rest", "first", "second"]
theorem sc_both_areas : FnScope ["one", "other", "goal", "row", "rest", "first", "second"] ["one", "other", "goal", "row"] (defScope s_both_areas) := ⟨rfl, rfl, rfl, by decide +kernel, rfl, by decide +kernel, by decide +kernel⟩
def spBoth (CP CT : Addr) : Sp := fun vs H Q _ => ∃ (p q pg pr : Addr) (S U : Tb) (goal v : P2) (kv : Nat), vs = [.ref p, .ref q, .ref pg, .ref pr] ∧ TbAt CP CT H p S ∧ TbAt CP CT H q U ∧ TbB S ∧ TbB U ∧ T2 H pg goal ∧ T2 H pr v ∧ FitsP kv v ∧ FitsP 170 goal ∧ 170 ≤ kv ∧ kv ≤ 100000 ∧
  ∀ H', Same H H' → Fits (max (2 * kv + 720) (kv + 3141)) (Fa (overM S) (overM U) goal v) → Q (.int (Fa (overM S) (overM U) goal v)) H'
theorem ok_both_areas (T : Txt K mg CP CB CT CE) : Cal P w K mg base L2.CX0 7 "both_areas" (spBoth CP CT) := by
  have g_Place := ok_Place (P := P) (w := w) (base := base) T
  have T_mul := ok_mul (P := P) (w := w) (base := base) T
  have g_over := ok_over (P := P) (w := w) (base := base) T
  refine T.f_both_areas.cal sc_both_areas (fun vs H Q E ⟨p, q, pg, pr, S, U, goal, v, kv, e, _⟩ => by subst e; rfl) (N := N_both_areas) fun f cdv A outer s H vs Q E hr h => ?_
  obtain ⟨p, q, pg, pr, S, U, goal, v, kv, rfl, hS, hU, bS, bU, hg, hv, fv, fg, b0, bk, h⟩ := h
  refine ⟨_, (pss_cons (ps_set (i := 4) sc_both_areas.nd rfl (Or.inl rfl) (tupS (pa_cons (pe_op op_sub (pe_ix (ixTK (K := K) rfl) (pv 2) pe_int (fun _ _ => rfl)) (pe_ix (ixTK (K := K) rfl) (pv 3) pe_int (fun _ _ => rfl))) (pa_cons (pe_op op_sub (pe_ix (ixTK (K := K) rfl) (pv 2) pe_int (fun _ _ => rfl)) (pe_ix (ixTK (K := K) rfl) (pv 3) pe_int (fun _ _ => rfl))) pa_nil))))
 (pss_cons (ps_par (i := 5) (j := 6) rfl sc_both_areas.nd rfl rfl (by decide) rfl rfl (pa_cons (mkcS g_Place pass0 hr (by decide) (by rfl) place_new (pa_cons (pe_ix (ixTK (K := K) rfl) (pv 3) pe_int (fun _ _ => rfl)) (pa_cons (pe_ix (ixTK (K := K) rfl) (pv 3) pe_int (fun _ _ => rfl)) (pa_cons (mthS g_over pass0 hr (by decide) (pv 0) (pa_cons (pv 3) pa_nil)) pa_nil)))) (pa_cons (mkcS g_Place pass0 hr (by decide) (by rfl) place_new (pa_cons (pe_ix (ixTK (K := K) rfl) (pv 4) pe_int (fun _ _ => rfl)) (pa_cons (pe_ix (ixTK (K := K) rfl) (pv 4) pe_int (fun _ _ => rfl)) (pa_cons (mthS g_over pass0 hr (by decide) (pv 1) (pa_cons (pv 4) pa_nil)) pa_nil)))) pa_nil)) (by rfl))
 (pss_one (ps_ret (fldK (K := K) rfl (pe_op (op_own2 T_mul pass0 hr (by decide) rfl T.plFirst) (pv 5) (pv 6)) rfl))))), ?_⟩
  walk_at "rd"
  refine rd_new fun pw H1 n1 s1 hw => ?_
  have hw' : T2 H1 pw (psub goal v) := hw
  have fw : FitsP (kv + 1) (psub goal v) := ⟨fg.1.sub fv.1 (by omega) (by omega), fg.2.sub fv.2 (by omega) (by omega)⟩
  walk_at "rd"
  refine rd_mtB (tb_ins (hS.mono s1)) ?_
  walk_at "rd"
  refine ⟨p, pr, S, v, kv, rfl, hS.mono s1, bS, hv.mono s1, fv, by omega, fun H2 s2 f1 => ?_⟩
  walk_at "rd"
  refine ⟨_, _, _, rfl, fun a H3 n3 s3 ha => ?_⟩
  walk_at "rd"
  refine rd_mtB (tb_ins (S := U) (by walk_at "cy")) ?_
  walk_at "rd"
  refine ⟨q, pw, U, psub goal v, kv + 1, rfl, by walk_at "cy", bU, by walk_at "cy", fw, by omega, fun H4 s4 f2 => ?_⟩
  walk_at "rd"
  refine ⟨_, _, _, rfl, fun b H5 n5 s5 hb => ?_⟩
  walk_at "rd"
  obtain ⟨dx1, e1⟩ : PlAt CP H5 a _ := (ha.mono s4).mono s5
  obtain ⟨dx2, e2⟩ := id hb
  refine ⟨a, dx1, _, b, dx2, _, rfl, rfl, e1, e2, a, b, _, _, kv + 1, rfl, (ha.mono s4).mono s5, hb, fv.1.mono (by omega), fw.2, by omega, fun c H6 n6 s6 hc => ?_⟩
  walk_at "rd"
  refine rd_pa T hc ?_
  exact h H6 (((((s1.trans s2).trans s3).trans s4).trans s5).trans s6) ((f1.add f2 (k := max (2 * kv + 702) (kv + 3122) + 5) (by omega) (by omega)).add (fv.1.mul fw.2 (Nat.le_refl _)) (by omega) (by omega))
abbrev s_parted : Stmt := top 41
def N_parted : List Str := ["one", "other", "place", "row", "common", "times", "more", "left", "count", "first"]
theorem sc_parted : FnScope ["one", "other", "place", "row", "common", "times", "more", "left", "count", "first"] ["one", "other", "place", "row"] (defScope s_parted) := ⟨rfl, rfl, rfl, by decide +kernel, rfl, by decide +kernel, by decide +kernel⟩
def spParted (CP CT : Addr) : Sp := fun vs H Q _ => ∃ (p q pl pr : Addr) (S U : Tb) (g : Pl) (v : P2) (kv : Nat), vs = [.ref p, .ref q, .ref pl, .ref pr] ∧ TbAt CP CT H p S ∧ TbAt CP CT H q U ∧ TbB S ∧ TbB U ∧ S.Ok ∧ U.Ok ∧ PlAt CP H pl g ∧ T2 H pr v ∧ FitsP kv v ∧ FitsP 170 (g.x, g.y) ∧ Fits 3060 g.a ∧ 170 ≤ kv ∧ kv ≤ 24000 ∧
  Both S U (g.x, g.y) v ∧ ((Int.gcd S.c U.c : Nat) : Int) ∣ g.a - Fa (overM S) (overM U) (g.x, g.y) v ∧
  ∀ r p1 p2 a b H', Same H H' → H' r = some (.tup [.ref p1, .ref p2]) → PlAt CP H' p1 a → PlAt CP H' p2 b → S.Mem a → U.Mem b → a.mul b = g → FP 60000 a → FP 60000 b → Q (.ref r) H'
theorem ok_parted (T : Txt K mg CP CB CT CE) : Cal P w K mg base L2.CX0 8 "parted" (spParted CP CT) := by
  have g_Place := ok_Place (P := P) (w := w) (base := base) T
  have T_mul := ok_mul (P := P) (w := w) (base := base) T
  have T_inv := ok_inv (P := P) (w := w) (base := base) T
  have g_over := ok_over (P := P) (w := w) (base := base) T
  have g_bezout_of := ok_bezout_of (P := P) (w := w) (base := base) T
  have g_both_areas := ok_both_areas (P := P) (w := w) (base := base) T
  refine T.f_parted.cal sc_parted (fun vs H Q E ⟨p, q, pl, pr, S, U, g, v, kv, e, _⟩ => by subst e; rfl) (N := N_parted) fun f cdv A outer s H vs Q E hr h => ?_
  obtain ⟨p, q, pl, pr, S, U, g, v, kv, rfl, hS, hU, bS, bU, oS, oU, hg, hv, fv, fg, fa, b0, bk, hB, hd, h⟩ := h
  refine ⟨_, (pss_cons (ps_asg (calS g_bezout_of pass0 hr (by decide) (by rfl) (pa_cons (fldK (K := K) rfl (pv 0) rfl) (pa_cons (fldK (K := K) rfl (pv 1) rfl) pa_nil))) (pg_tup rfl (pgs_cons (pg_name (i := 4) sc_parted.nd rfl (Or.inl rfl)) (pgs_cons (pg_name (i := 5) sc_parted.nd rfl (Or.inl rfl)) (pgs_cons (pg_name (i := 6) sc_parted.nd rfl (Or.inl rfl)) pgs_nil)))))
 (pss_cons (ps_set (i := 7) sc_parted.nd rfl (Or.inl rfl) (pe_op op_sub (fldK (K := K) rfl (pv 2) rfl) (calS g_both_areas pass0 hr (by decide) (by rfl) (pa_cons (pv 0) (pa_cons (pv 1) (pa_cons (tupS (pa_cons (fldK (K := K) rfl (pv 2) rfl) (pa_cons (fldK (K := K) rfl (pv 2) rfl) pa_nil))) (pa_cons (pv 3) pa_nil)))))))
 (pss_cons (ps_set (i := 8) sc_parted.nd rfl (Or.inl rfl) (pe_ifExp (truK (K := K) rfl (pv 4) (by intro _; rfl)) (pe_op op_fdX (pv 7) (pv 4)) pe_int))
 (pss_cons (ps_set (i := 9) sc_parted.nd rfl (Or.inl rfl) (mkcS g_Place pass0 hr (by decide) (by rfl) place_new (pa_cons (pe_ix (ixTK (K := K) rfl) (pv 3) pe_int (fun _ _ => rfl)) (pa_cons (pe_ix (ixTK (K := K) rfl) (pv 3) pe_int (fun _ _ => rfl)) (pa_cons (pe_op op_add (mthS g_over pass0 hr (by decide) (pv 0) (pa_cons (pv 3) pa_nil)) (pe_op op_mulX (pe_op op_mulX (pv 8) (pv 5)) (fldK (K := K) rfl (pv 0) rfl))) pa_nil)))))
 (pss_one (ps_ret (tupS (pa_cons (pv 9) (pa_cons (pe_op (op_own2 T_mul pass0 hr (by decide) rfl T.plFirst) (pe_un (un_own1 T_inv pass0 hr (by decide)) (pv 9)) (pv 2)) pa_nil))))))))), ?_⟩
  walk_at "rd"
  refine rd_home T hS ?_
  walk_at "rd"
  refine rd_home T hU ?_
  walk_at "rd"
  refine ⟨_, _, 3000, rfl, bS.c, bU.c, by omega, fun tq H1 d cs ct s1 ht bz => ?_⟩
  walk_at "rd"
  refine rd_pa T (by walk_at "cy") ?_
  walk_at "rd"
  refine rd_px T (by walk_at "cy") ?_
  walk_at "rd"
  refine rd_py T (by walk_at "cy") ?_
  walk_at "rd"
  refine rd_new fun pg H2 n2 s2 hpg => ?_
  walk_at "rd"
  refine ⟨p, q, pg, pr, S, U, (g.x, g.y), v, kv, rfl, by walk_at "cy", by walk_at "cy", bS, bU, hpg, by walk_at "cy", fv, fg, b0, by omega, fun H3 s3 fF => ?_⟩
  walk_at "rd"
  generalize hF : Fa (overM S) (overM U) (g.x, g.y) v = F at *
  obtain ⟨k, hk⟩ := hd
  have hgc : d = ((Int.gcd S.c U.c : Nat) : Int) := bz.gcd
  rw [← hgc] at hk
  have fl : Fits (max (2 * kv + 720) (kv + 3141) + 1) (g.a - F) := fa.sub fF (by omega) (by omega)
  obtain ⟨count, hcnt, hce, hcf⟩ : ∃ count : Int, (if (d != 0) = true then V.int ((g.a - F).fdiv d) else V.int 0) = V.int count ∧ count * d = k * d ∧ Fits (max (2 * kv + 720) (kv + 3141) + 1) count := by
    by_cases hz : d = 0
    · exact ⟨0, by simp [hz], by rw [hz]; omega, .zero⟩
    · exact ⟨(g.a - F).fdiv d, by simp [hz], by rw [fdiv_exact hk hz], fl.fdiv _⟩
  have fd : Fits 8999 d := bz.fg.mono (by omega)
  refine rd_joinB (x := .int ((g.a - F).fdiv d)) (y := .int 0) (fun hn Q q => by walk_at "rd"; refine rd_I ⟨hn, fd⟩ ?_; exact q) (fun hn Q q => by walk_at "rd"; exact q) ?_
  rw [hcnt]
  walk_at "rd"
  refine rd_mtB (tb_ins (S := S) (by walk_at "cy")) ?_
  walk_at "rd"
  refine ⟨p, pr, S, v, kv, rfl, by walk_at "cy", bS, by walk_at "cy", fv, by omega, fun H4 s4 fo => ?_⟩
  walk_at "rd"
  refine rd_I (mul_ok hcf bz.fs (by omega)) ?_
  walk_at "rd"
  refine rd_home T (S := S) (by walk_at "cy") ?_
  refine rd_I (mul_ok (hcf.mul bz.fs (Nat.le_refl _)) bS.c (by omega)) ?_
  walk_at "rd"
  have f1 : Fits (max (2 * kv + 720) (kv + 3141) + 6002) (count * cs * S.c) := (hcf.mul bz.fs (Nat.le_refl _)).mul bS.c (Nat.le_refl _)
  have ff : Fits (max (2 * kv + 720) (kv + 3141) + 6010) (overM S v + count * cs * S.c) := fo.add f1 (by omega) (by omega)
  refine ⟨_, _, _, rfl, fun a H5 n5 s5 ha => ?_⟩
  walk_at "rd"
  obtain ⟨dx1, e1⟩ := id ha
  refine ⟨a, dx1, _, rfl, e1, a, _, kv, rfl, ha, fv.1, fv.2, by omega, fun b H6 n6 s6 hb => ?_⟩
  walk_at "rd"
  obtain ⟨dx2, e2⟩ := id hb
  obtain ⟨dx3, e3⟩ : PlAt CP H6 pl g := by walk_at "cy"
  refine ⟨b, dx2, _, pl, dx3, _, rfl, rfl, e2, e3, b, pl, _, _, kv, rfl, hb, ⟨dx3, e3⟩, fv.1.neg, fg.2.mono (by omega), by omega, fun c H7 n7 s7 hc => ?_⟩
  walk_at "rd"
  refine rd_new fun r H8 n8 s8 hr8 => ?_
  have R := parted_right (over_ok oS) (over_ok oU) (pl := g) (pt := v) (count := count) bz.eq.symm hB (k := k) (by rw [hF]; exact hk) hce (fun hz => by
    rw [hgc] at hz
    have := Int.gcd_eq_zero_iff.mp (show Int.gcd S.c U.c = 0 by omega)
    exact this) rfl
  refine h r a c _ _ H8 (((((((s1.trans s2).trans s3).trans s4).trans s5).trans s6).trans s7).trans s8) hr8 (by walk_at "cy") (by walk_at "cy") R.1 R.2.1 R.2.2 ⟨fv.1.mono (by omega), fv.2.mono (by omega), ff.mono (by omega)⟩ ⟨fv.1.neg.add fg.1 (by omega) (by omega), fv.2.neg.add fg.2 (by omega) (by omega), ?_⟩
  have f3 : Fits (kv + kv) (v.1 * v.2) := fv.1.mul fv.2 (Nat.le_refl _)
  have f4 : Fits (max (2 * kv + 720) (kv + 3141) + 6011) (v.1 * v.2 - (overM S v + count * cs * S.c)) := f3.sub ff (by omega) (by omega)
  have f5 : Fits (max (2 * kv + 720) (kv + 3141) + 6012) (v.1 * v.2 - (overM S v + count * cs * S.c) + g.a) := f4.add fa (by omega) (by omega)
  have f6 : Fits (kv + 170) (-v.1 * g.y) := fv.1.neg.mul fg.2 (Nat.le_refl _)
  exact f5.add f6 (by omega) (by omega)
def kpI : Nat → Nat | 0 => 1 | 1 => 886 | _ => 3441
def krI : Nat → Nat | 0 => 118 | 1 => 594 | _ => 1546
def kgI : Nat → Nat | 0 => 289 | _ => 1007
def CndI (S : Tb) (f0 f1 goal : P2) (m0 m1 : Int) : Nat → P2 → Prop
  | 0 => S.LatP
  | 1 => fun v => S.LatP v ∧ m0 ∣ fat f0 v - fat f0 goal
  | _ => fun v => (S.LatP v ∧ m0 ∣ fat f0 v - fat f0 goal) ∧ m1 ∣ fat f1 v - fat f1 goal
theorem kI_ok {i : Nat} (h : i < 2) : 288 < kgI i ∧ kpI i + 120 < kgI i ∧ kpI i + kgI i + 236 + krI i + (krI i + 120) + 4 ≤ kpI (i + 1) ∧ 236 + krI i + (krI i + 120) + 2 ≤ krI (i + 1) ∧ krI i ≤ 594 ∧ kgI i ≤ 1007 ∧ kpI i ≤ 886 := by
  match i, h with
  | 0, _ => decide
  | 1, _ => decide
/-- a found point and its rows, in the heap -/
def FoundAt (H : Hp) (fq : Addr) (pt : P2) (rows : List P2) (kp kr : Nat) : Prop := ∃ pp lp xs, H fq = some (.tup [.ref pp, .ref lp]) ∧ T2 H pp pt ∧ H lp = some (.lst xs) ∧ Rws H xs rows ∧ rows.length ≤ 2 ∧ FitsP kp pt ∧ ∀ v ∈ rows, FitsP kr v
theorem FoundAt.mono {H H' : Hp} {fq : Addr} {pt : P2} {rows : List P2} {kp kr : Nat} (s : Same H H') (h : FoundAt H fq pt rows kp kr) : FoundAt H' fq pt rows kp kr := let ⟨pp, lp, xs, a, b, c, d, e⟩ := h; ⟨pp, lp, xs, s _ _ a, b.mono s, s _ _ c, d.mono s, e⟩
theorem ints_of {rows : List P2} {ys : List V} {f : P2 → Int} (hl : ys.length = rows.length) (h : ∀ (k : Nat) y, ys[k]? = some y → ∀ v, rows[k]? = some v → y = .int (f v)) : ys = (rows.map f).map V.int := by
  refine List.ext_getElem? fun k => ?_
  rw [List.getElem?_map, List.getElem?_map]
  cases e : rows[k]? with
  | none =>
    have : rows.length ≤ k := List.getElem?_eq_none_iff.mp e
    rw [List.getElem?_eq_none_iff.mpr (by omega)]
    rfl
  | some v =>
    have hk : k < ys.length := by rw [hl]; exact (List.getElem?_eq_some_iff.mp e).1
    rw [List.getElem?_eq_getElem hk]
    exact congrArg some (h k _ (List.getElem?_eq_getElem hk) v e)
abbrev s_in_product : Stmt := top 40
def N_in_product : List Str := ["one", "other", "place", "goal", "found", "form", "modulus", "wanted", "row", "begun", "values"]
theorem sc_in_product : FnScope ["one", "other", "place", "goal", "found", "form", "modulus", "wanted", "row", "begun", "values"] ["one", "other", "place"] (defScope s_in_product) := ⟨rfl, rfl, rfl, by decide +kernel, rfl, by decide +kernel, by decide +kernel⟩
def spProd (CP CT : Addr) : Sp := fun vs H Q _ => ∃ (p q pl : Addr) (S U : Tb) (g : Pl), vs = [.ref p, .ref q, .ref pl] ∧ TbAt CP CT H p S ∧ TbAt CP CT H q U ∧ TbB S ∧ TbB U ∧ S.Ok ∧ U.Ok ∧ PlAt CP H pl g ∧ FitsP 168 (g.x, g.y) ∧ Fits 3060 g.a ∧
  (∀ H', Same H H' → (¬ ∃ a b, S.Mem a ∧ U.Mem b ∧ a.mul b = g) → Q .non H') ∧
  ∀ r p1 p2 a b H', Same H H' → H' r = some (.tup [.ref p1, .ref p2]) → PlAt CP H' p1 a → PlAt CP H' p2 b → S.Mem a → U.Mem b → a.mul b = g → FP 60000 a → FP 60000 b → Q (.ref r) H'
theorem ok_in_product (T : Txt K mg CP CB CT CE) : Cal P w K mg base L2.CX0 9 "in_product" (spProd CP CT) := by
  have g_need_table := ok_need_table (P := P) (w := w) (base := base) T
  have g_need_place := ok_need_place (P := P) (w := w) (base := base) T
  have g_ends := ok_ends (P := P) (w := w) (base := base) T
  have g_forms_of := ok_forms_of (P := P) (w := w) (base := base) T
  have g_form_at := ok_form_at (P := P) (w := w) (base := base) T
  have g_steered := ok_steered (P := P) (w := w) (base := base) T
  have g_row_sum := ok_row_sum (P := P) (w := w) (base := base) T
  have g_divisor_of := ok_divisor_of (P := P) (w := w) (base := base) T
  have g_both_areas := ok_both_areas (P := P) (w := w) (base := base) T
  have g_parted := ok_parted (P := P) (w := w) (base := base) T
  refine T.f_in_product.cal sc_in_product (fun vs H Q E ⟨p, q, pl, S, U, g, e, _⟩ => by subst e; rfl) (N := N_in_product) fun f cdv A outer s H vs Q E hr h => ?_
  obtain ⟨p, q, pl, S, U, g, rfl, hS, hU, bS, bU, oS, oU, hg, fg, fa, hN, hY⟩ := h
  refine ⟨_, (pss_cons (ps_expr (calS g_need_table pass0 hr (by decide) (by rfl) (pa_cons (pv 0) pa_nil)))
 (pss_cons (ps_expr (calS g_need_table pass0 hr (by decide) (by rfl) (pa_cons (pv 1) pa_nil)))
 (pss_cons (ps_expr (calS g_need_place pass0 hr (by decide) (by rfl) (pa_cons (pv 2) pa_nil)))
 (pss_cons (ps_set (i := 3) sc_in_product.nd rfl (Or.inr rfl) (tupS (pa_cons (fldK (K := K) rfl (pv 2) rfl) (pa_cons (fldK (K := K) rfl (pv 2) rfl) pa_nil))))
 (pss_cons (ps_set (i := 4) sc_in_product.nd rfl (Or.inr rfl) (tupS (pa_cons (tupS (pa_cons pe_int (pa_cons pe_int pa_nil))) (pa_cons (mth0S g_ends pass0 hr (by decide) (pv 0)) pa_nil))))
 (pss_cons (ps_for PassesOwn.never rfl (piL (K := K) rfl (calS g_forms_of pass0 hr (by decide) (by rfl) (pa_cons (mth0S g_ends pass0 hr (by decide) (pv 1)) pa_nil))) (pg_tup rfl (pgs_cons (pg_name (i := 5) sc_in_product.nd rfl (Or.inr rfl)) (pgs_cons (pg_name (i := 6) sc_in_product.nd rfl (Or.inl rfl)) pgs_nil))) (pss_cons (ps_set (i := 7) sc_in_product.nd rfl (Or.inl rfl) (pe_op op_sub (calS g_form_at pass0 hr (by decide) (by rfl) (pa_cons (pv 5) (pa_cons (pv 3) pa_nil))) (calS g_form_at pass0 hr (by decide) (by rfl) (pa_cons (pv 5) (pa_cons (pe_ix (ixTK (K := K) rfl) (pv 4) pe_int (fun _ _ => rfl)) pa_nil)))))
 (pss_cons (ps_set (i := 4) sc_in_product.nd rfl (Or.inr rfl) (calS g_steered pass0 hr (by decide) (by rfl) (pa_cons (pe_ix (ixTK (K := K) rfl) (pv 4) pe_int (fun _ _ => rfl)) (pa_cons (pe_ix (ixTK (K := K) rfl) (pv 4) pe_int (fun _ _ => rfl)) (pa_cons (pe_lc (own := [("row", 8)]) (g := gName 8) (tt := tYes) (by rfl) sc_in_product.nd (piL (K := K) rfl (pe_ix (ixTK (K := K) rfl) (pv 4) pe_int (fun _ _ => rfl))) (blkOk_by (own := [("row", 8)]) (N := N_in_product) (sc := defScope s_in_product) (by decide +kernel)) (fun _ _ _ _ _ => pg_name (i := 8) sc_in_product.nd rfl (Or.inl rfl)) (fun _ _ _ _ _ => pts_nil) (fun _ _ _ _ _ => by exact (calS g_form_at pass0 hr (by decide) (by rfl) (pa_cons (pv 5) (pa_cons (pv 8) pa_nil))))) (pa_cons (pv 7) (pa_cons (pv 6) pa_nil)))))))
 (pss_one (ps_if (pt_cmpR op_isNS (pv 4) pe_non (nomark _)) (pss_one (ps_ret pe_non)) pss_nil)))))
 (pss_cons (ps_set (i := 9) sc_in_product.nd rfl (Or.inr rfl) (calS g_both_areas pass0 hr (by decide) (by rfl) (pa_cons (pv 0) (pa_cons (pv 1) (pa_cons (pv 3) (pa_cons (pe_ix (ixTK (K := K) rfl) (pv 4) pe_int (fun _ _ => rfl)) pa_nil))))))
 (pss_cons (ps_setLc (i := 10) (own := [("row", 8)]) (g := gName 8) (tt := tYes) (by rfl) sc_in_product.nd rfl rfl (sw_true rfl rfl rfl (by decide +kernel)) (piL (K := K) rfl (pe_ix (ixTK (K := K) rfl) (pv 4) pe_int (fun _ _ => rfl))) (blkOk_by (own := [("row", 8)]) (N := N_in_product) (sc := defScope s_in_product) (by decide +kernel)) (fun _ _ _ _ _ => pg_name (i := 8) sc_in_product.nd rfl (Or.inl rfl)) (fun _ _ _ _ _ => pts_nil) (fun _ _ _ _ _ => by exact (pe_op op_sub (calS g_both_areas pass0 hr (by decide) (by rfl) (pa_cons (pv 0) (pa_cons (pv 1) (pa_cons (pv 3) (pa_cons (calS g_row_sum pass0 hr (by decide) (by rfl) (pa_cons (pe_ix (ixTK (K := K) rfl) (pv 4) pe_int (fun _ _ => rfl)) (pa_cons (pv 8) pa_nil))) pa_nil))))) (pv 9))))
 (pss_cons (ps_set (i := 4) sc_in_product.nd rfl (Or.inr rfl) (calS g_steered pass0 hr (by decide) (by rfl) (pa_cons (pe_ix (ixTK (K := K) rfl) (pv 4) pe_int (fun _ _ => rfl)) (pa_cons (pe_ix (ixTK (K := K) rfl) (pv 4) pe_int (fun _ _ => rfl)) (pa_cons (pv 10) (pa_cons (pe_op op_sub (fldK (K := K) rfl (pv 2) rfl) (pv 9)) (pa_cons (calS g_divisor_of pass0 hr (by decide) (by rfl) (pa_cons (fldK (K := K) rfl (pv 0) rfl) (pa_cons (fldK (K := K) rfl (pv 1) rfl) pa_nil))) pa_nil)))))))
 (pss_cons (ps_if (pt_cmpR op_isNS (pv 4) pe_non (nomark _)) (pss_one (ps_ret pe_non)) pss_nil)
 (pss_one (ps_ret (calS g_parted pass0 hr (by decide) (by rfl) (pa_cons (pv 0) (pa_cons (pv 1) (pa_cons (pv 2) (pa_cons (pe_ix (ixTK (K := K) rfl) (pv 4) pe_int (fun _ _ => rfl)) pa_nil))))))))))))))))), ?_⟩
  walk_at "rd"
  refine ⟨p, S, rfl, hS, ?_⟩
  walk_at "rd"
  refine ⟨q, U, rfl, hU, ?_⟩
  walk_at "rd"
  refine ⟨pl, g, rfl, hg, ?_⟩
  walk_at "rd"
  refine rd_px T hg ?_
  walk_at "rd"
  refine rd_py T hg ?_
  walk_at "rd"
  refine rd_new fun pg H1 n1 s1 hpg0 => ?_
  have hpg : T2 H1 pg (g.x, g.y) := hpg0
  walk_at "rd"
  refine rd_new fun pz H2 n2 s2 hpz0 => ?_
  have hpz : T2 H2 pz (0, 0) := hpz0
  walk_at "rd"
  refine rd_mtB (tb_ins (S := S) (by walk_at "cy")) ?_
  walk_at "rd"
  refine ⟨p, S, rfl, by walk_at "cy", fun lS xsS H3 n3 s3 hlS hwS => ?_⟩
  walk_at "rd"
  refine rd_new fun fq0 H4 n4 s4 hfq0 => ?_
  walk_at "rd"
  refine rd_mtB (tb_ins (S := U) (by walk_at "cy")) ?_
  walk_at "rd"
  refine ⟨q, U, rfl, by walk_at "cy", fun lU xsU H5 n5 s5 hlU hwU => ?_⟩
  walk_at "rd"
  have endB : ∀ {W : Tb}, TbB W → ∀ v ∈ ends W, FitsP 118 v := fun {W} bW v hv => by
    obtain ⟨r, hr, rfl⟩ := List.mem_map.mp hv
    exact ⟨(bW.row hr).1, (bW.row hr).2.1⟩
  refine ⟨lU, xsU, U, 118, rfl, hlU, hwU, oU, endB bU, by omega, fun lF x0 x1 f0 m0 f1 m1 H6 s6 hlF hx0 hx1 FF ff0 ff1 fm0 fm1 => ?_⟩
  walk_at "rd"
  have key : ∀ i x, ([x0, x1] : List V)[i]? = some x → i < 2 ∧ ∃ f m, FormAt H6 x f m ∧ FitsP 119 f ∧ Fits 236 m ∧ 0 ≤ m ∧ (∀ v, CndI S f0 f1 (g.x, g.y) m0 m1 (i + 1) v ↔ CndI S f0 f1 (g.x, g.y) m0 m1 i v ∧ m ∣ fat f v - fat f (g.x, g.y)) := fun i x hx => by
    match i, hx with
    | 0, hx => cases Option.some.inj hx; exact ⟨by decide, f0, m0, hx0, ff0, fm0, FF.n0, fun v => Iff.rfl⟩
    | 1, hx => cases Option.some.inj hx; exact ⟨by decide, f1, m1, hx1, ff1, fm1, FF.n1, fun v => Iff.rfl⟩
    | i + 2, hx => simp at hx
  have cndB : ∀ i v, i ≤ 2 → Both S U (g.x, g.y) v → CndI S f0 f1 (g.x, g.y) m0 m1 i v := fun i v hi hb => by
    have h2 := (both_iff FF v).mp hb
    match i, hi with
    | 0, _ => exact h2.1.1
    | 1, _ => exact h2.1
    | 2, _ => exact h2
  have sH6 := fun (_ : Unit) => ((((s1.trans s2).trans s3).trans s4).trans s5).trans s6
  refine rd_forL hlF (fun i σ' H' => ∃ fq pt rows c5 c6 c7 c8, σ' = [some (.ref p), some (.ref q), some (.ref pl), some (.ref pg), some (.ref fq), c5, c6, c7, c8, none, none] ∧ Same H6 H' ∧ i ≤ 2 ∧ FoundAt H' fq pt rows (kpI i) (krI i) ∧ Rep pt rows (CndI S f0 f1 (g.x, g.y) m0 m1 i))
    ⟨fq0, (0, 0), ends S, none, none, none, none, rfl, Same.refl _, by decide, ⟨pz, lS, xsS, by walk_at "cy", by walk_at "cy", by walk_at "cy", by walk_at "cy", by unfold ends; rw [List.length_map]; exact rows_le S, ⟨.zero, .zero⟩, endB bS⟩, rep_ends oS⟩ (fun i σ' H' _ h => by obtain ⟨_, _, _, _, _, _, _, _, s7, _⟩ := h; exact s7 _ _ hlF) ?_ ?_
  · rintro i x σ' H' hx ⟨fq, pt, rows, c5, c6, c7, c8, rfl, s7, hi, ⟨pp, lp, xs, a1, a2, a3, a4, a5, a6, a7⟩, R⟩
    obtain ⟨hi2, f, m, ⟨rf, pf, rfl, b1, b2⟩, ff, fm, m0', hc⟩ := key i x hx
    obtain ⟨k1, k2, k3, k4, k5, k6, k7⟩ := kI_ok hi2
    have b1' := s7 _ _ b1
    have b2' := b2.mono s7
    walk_at "rd"
    refine ⟨pf, pg, f, (g.x, g.y), 168, rfl, b2', by walk_at "cy", ff.1.mono (by omega), ff.2.mono (by omega), fg.1, fg.2, by omega, ?_⟩
    walk_at "rd"
    refine ⟨pf, pp, f, pt, kpI i + 119, rfl, b2', a2, ff.1.mono (by omega), ff.2.mono (by omega), a6.1.mono (by omega), a6.2.mono (by omega), by omega, ?_⟩
    walk_at "rd"
    have fwant : Fits (kgI i) (fat f (g.x, g.y) - fat f pt) := (ff.fat fg (k := 288) (by omega)).sub (ff.fat a6 (k := kpI i + 120) (by omega)) (by omega) (by omega)
    refine rd_lcL a3 (by rw [a4.1]; omega) (fun k y H' => ∀ v, rows[k]? = some v → y = .int (fat f v)) (fun k y H1 H2 s h => h) (fun k y H1 D xs ys hD h => h) (fun x => rfl) (fun k x H8 hxk s8 F hF => ?_) (fun D ys H8 nD s8 hD hl hR => ?_)
    · obtain ⟨v, hv⟩ : ∃ v, rows[k]? = some v := ⟨rows[k]'(by rw [← a4.1]; exact (List.getElem?_eq_some_iff.mp hxk).1), List.getElem?_eq_getElem _⟩
      obtain ⟨pv', e1, e2⟩ := (a4.mono s8).2 k v hv
      rw [hxk] at e1
      cases Option.some.inj e1
      have fv := a7 v (List.mem_of_getElem? hv)
      walk_at "rd"
      refine ⟨pf, pv', f, v, krI i + 119, rfl, b2'.mono s8, e2, ff.1.mono (by omega), ff.2.mono (by omega), fv.1.mono (by omega), fv.2.mono (by omega), by omega, ?_⟩
      exact hF _ H8 (Same.refl _) fun v' hv' => by rw [hv] at hv'; cases hv'; rfl
    · have hys := ints_of (f := fat f) (by rw [hl, a4.1]) hR
      subst hys
      walk_at "rd"
      refine ⟨pp, lp, D, pt, xs, rows, rows.map (fat f), _, m, kpI i, krI i, krI i + 120, kgI i, 236, rfl, a2.mono s8, s8 _ _ a3, a4.mono s8, hD, by simp, a5, a6, a7, fun z hz => ?_, fwant, fm, m0', by omega, by omega, by omega, fun x res H9 s9 ra st => ?_⟩
      · obtain ⟨v, hv, rfl⟩ := List.mem_map.mp hz
        exact ff.fat (a7 v hv) (by omega)
      · have RS := R.step (f := f) (goal := fat f (g.x, g.y)) st
        walk_at "rd"
        cases res with
        | none =>
          cases (show x = .non from ra)
          walk_at "rd"
          refine hN H9 ((((sH6 ()).trans s7).trans s8).trans s9) fun hp => ?_
          obtain ⟨v, hv⟩ := prod_both hp
          exact RS v (cndB i v hi hv) ((hc v).mp (cndB (i + 1) v (by omega) hv)).2
        | some pr =>
          obtain ⟨pt', rows'⟩ := pr
          obtain ⟨r, p', l', xs', rfl, d1, d2, d3, d4, d5, d6, d7⟩ := ra
          walk_at "rd"
          exact ⟨r, pt', rows', _, _, _, _, rfl, (s7.trans s8).trans s9, by omega, ⟨p', l', xs', d1, d2, d3, d4, d7, d5.mono (by omega), fun v hv => (d6 v hv).mono (by omega)⟩, fun v => (RS v).trans (hc v).symm⟩
  · rintro σ' H' ⟨fq, pt, rows, c5, c6, c7, c8, rfl, s7, hi, ⟨pp, lp, xs, a1, a2, a3, a4, a5, a6, a7⟩, R⟩
    have RB : Rep pt rows (Both S U (g.x, g.y)) := fun v => (R v).trans (both_iff FF v).symm
    have a6' : FitsP 3441 pt := a6
    have a7' : ∀ v ∈ rows, FitsP 1546 v := a7
    walk_at "rd"
    have fg' : FitsP 170 (g.x, g.y) := ⟨fg.1.mono (by omega), fg.2.mono (by omega)⟩
    refine ⟨p, q, pg, pp, S, U, (g.x, g.y), pt, 3441, rfl, by walk_at "cy", by walk_at "cy", bS, bU, by walk_at "cy", a2, a6', fg', by omega, by omega, fun H9 s9 fF => ?_⟩
    have fF' : Fits 7602 (Fa (overM S) (overM U) (g.x, g.y) pt) := fF.mono (by omega)
    walk_at "rd"
    refine rd_lcL (s9 _ _ a3) (by rw [a4.1]; omega) (fun k y H' => ∀ v, rows[k]? = some v → y = .int (Fa (overM S) (overM U) (g.x, g.y) (padd pt v) - Fa (overM S) (overM U) (g.x, g.y) pt) ∧ Fits 7605 (Fa (overM S) (overM U) (g.x, g.y) (padd pt v) - Fa (overM S) (overM U) (g.x, g.y) pt)) (fun k y H1 H2 s h => h) (fun k y H1 D xs ys hD h => h) (fun x => rfl) (fun k x H8 hxk s8 F hF => ?_) (fun D ys H8 nD s8 hD hl hR => ?_)
    · obtain ⟨v, hv⟩ : ∃ v, rows[k]? = some v := ⟨rows[k]'(by rw [← a4.1]; exact (List.getElem?_eq_some_iff.mp hxk).1), List.getElem?_eq_getElem _⟩
      obtain ⟨pv', e1, e2⟩ := ((a4.mono s9).mono s8).2 k v hv
      rw [hxk] at e1
      cases Option.some.inj e1
      have fv := a7' v (List.mem_of_getElem? hv)
      walk_at "rd"
      refine ⟨pp, pv', pt, v, rfl, by walk_at "cy", e2, fun r H10 s10 hr10 => ?_⟩
      walk_at "rd"
      refine ⟨p, q, pg, r, S, U, (g.x, g.y), padd pt v, 3442, rfl, by walk_at "cy", by walk_at "cy", bS, bU, by walk_at "cy", hr10, ⟨a6'.1.add fv.1 (by omega) (by omega), a6'.2.add fv.2 (by omega) (by omega)⟩, fg', by omega, by omega, fun H11 s11 fF2 => ?_⟩
      have fF2' : Fits 7604 (Fa (overM S) (overM U) (g.x, g.y) (padd pt v)) := fF2.mono (by omega)
      walk_at "rd"
      exact hF _ H11 (s10.trans s11) fun v' hv' => by rw [hv] at hv'; cases hv'; exact ⟨rfl, fF2'.sub fF' (by omega) (by omega)⟩
    · have hys := ints_of (f := fun v => Fa (overM S) (overM U) (g.x, g.y) (padd pt v) - Fa (overM S) (overM U) (g.x, g.y) pt) (by rw [hl, a4.1]) (fun k y hy v hv => (hR k y hy v hv).1)
      have hfv : ∀ v ∈ rows, Fits 7605 (Fa (overM S) (overM U) (g.x, g.y) (padd pt v) - Fa (overM S) (overM U) (g.x, g.y) pt) := fun v hv => by
        obtain ⟨k, hk⟩ := List.getElem?_of_mem hv
        have hk2 : k < ys.length := by rw [hl, a4.1]; exact (List.getElem?_eq_some_iff.mp hk).1
        exact (hR k _ (List.getElem?_eq_getElem hk2) v hk).2
      clear hR
      subst hys
      walk_at "rd"
      refine rd_pa T (by walk_at "cy") ?_
      walk_at "rd"
      refine rd_home T (by walk_at "cy") ?_
      walk_at "rd"
      refine rd_home T (by walk_at "cy") ?_
      walk_at "rd"
      refine ⟨S.c, U.c, rfl, ?_⟩
      walk_at "rd"
      have fgo : Fits 7603 (g.a - Fa (overM S) (overM U) (g.x, g.y) pt) := (fa.mono (by omega : 3060 ≤ 7602)).sub fF' (by omega) (by omega)
      have fgc := gcd_fits bS.c bU.c
      refine ⟨pp, lp, D, pt, xs, rows, rows.map (fun v => Fa (overM S) (overM U) (g.x, g.y) (padd pt v) - Fa (overM S) (overM U) (g.x, g.y) pt), _, _, 3441, 1546, 7605, 7603, 3000, rfl, by walk_at "cy", by walk_at "cy", by walk_at "cy", hD, by simp, a5, a6', a7', fun z hz => ?_, fgo, fgc, by omega, by omega, by omega, by omega, fun x res H10 s10 ra st => ?_⟩
      · obtain ⟨v, hv, rfl⟩ := List.mem_map.mp hz
        exact hfv v hv
      · walk_at "rd"
        have gd1 : ((Int.gcd S.c U.c : Nat) : Int) ∣ S.c := Int.gcd_dvd_left ..
        have gd2 : ((Int.gcd S.c U.c : Nat) : Int) ∣ U.c := Int.gcd_dvd_right ..
        cases res with
        | none =>
          cases (show x = .non from ra)
          walk_at "rd"
          exact hN H10 (((((sH6 ()).trans s7).trans s9).trans s8).trans s10) (prod_none oS oU (over_ok oS) (over_ok oU) gd1 gd2 RB st)
        | some pr =>
          obtain ⟨pt', rows'⟩ := pr
          obtain ⟨r, p', l', xs', rfl, d1, d2, d3, d4, d5, d6, d7⟩ := ra
          have ps := prod_some oS oU (over_ok oS) (over_ok oU) gd1 gd2 RB st
          walk_at "rd"
          refine ⟨p, q, pl, p', S, U, g, pt', 24000, rfl, by walk_at "cy", by walk_at "cy", bS, bU, oS, oU, by walk_at "cy", d2, ⟨d5.1.mono (by omega), d5.2.mono (by omega)⟩, fg', fa, by omega, by omega, ps.1, ps.2, fun r p1 p2 a b H11 s11 z1 z2 z3 z4 z5 z6 z7 z8 => ?_⟩
          walk_at "rd"
          exact hY r p1 p2 a b H11 ((((((sH6 ()).trans s7).trans s9).trans s8).trans s10).trans s11) z1 z2 z3 z4 z5 z6 z7 z8
end
end Wk
namespace Wk
set_option linter.all false
set_option maxRecDepth 100000
set_option maxHeartbeats 4000000
open PySem L2
local macro_rules | `(tactic| walk_at "cy") => `(tactic| first
  | assumption
  | ((with_reducible refine' at_mono (H := ?H) ?s ?h); (case s => assumption); (case h => walk_at "cy"))
  | ((with_reducible refine' PlAt.mono (H := ?H) ?s ?h); (case s => assumption); (case h => walk_at "cy")))
local macro_rules | `(tactic| walk_at "rd1") => `(tactic| first
  | (with_reducible refine' rd_seq ?_) | (with_reducible refine' rd_asg ?_) | (with_reducible refine' rd_par ?_) | (with_reducible refine' rd_ret ?_)
  | (with_reducible refine' rd_ifs ?_) | (with_reducible refine' rd_drop ?_) | (with_reducible refine' rd_next ?_) | (with_reducible refine' rd_asgG ?_)
  | ((with_reducible refine' rd_var (v := ?v) ?e ?h); (case e => exact rfl)) | (with_reducible refine' rd_c ?_) | (with_reducible refine' rd_op ?_) | (with_reducible refine' rd_un ?_)
  | (with_reducible refine' rd_cb ?_) | (with_reducible refine' rd_cons ?_) | (with_reducible refine' rd_nil ?_)
  | (with_reducible refine' rd_I0 ?_) | (with_reducible refine' rd_U ?_) | (with_reducible refine' rd_eqI ?_) | (with_reducible refine' rd_neI ?_)
  | (with_reducible refine' rd_test ?_) | (with_reducible refine' rd_bl ?_) | (with_reducible refine' rd_not ?_) | (with_reducible refine' rd_and ?_) | (with_reducible refine' rd_or ?_)
  | (with_reducible refine' rd_t ?_) | (with_reducible refine' rd_f ?_) | (with_reducible refine' rd_nt ?_) | (with_reducible refine' rd_nf ?_)
  | (with_reducible refine' rd_andV ?_) | (with_reducible refine' rd_orV ?_) | (with_reducible refine' rd_notV ?_) | (with_reducible refine' rd_B ?_) | (with_reducible refine' rd_forR1 ?_) | (with_reducible refine' rd_forR2 ?_) | (with_reducible refine' rd_for ?_) | (with_reducible refine' rd_iT ?_) | (with_reducible refine' rd_iL ?_) | (with_reducible refine' rd_lc ?_)
  | (with_reducible refine' rd_if ?_) | (with_reducible refine' rd_isNr ?_) | (with_reducible refine' rd_isN0 ?_) | (with_reducible refine' rd_notNr ?_) | (with_reducible refine' rd_notN0 ?_) | (with_reducible refine' rd_abs ?_) | ((with_reducible refine' rd_lenL (xs := ?xs) ?f ?h); (case f => walk_at "cy")) | ((with_reducible refine' rd_lenT (xs := ?xs) ?f ?h); (case f => walk_at "cy")) | (with_reducible refine' rd_mt ?_) | (with_reducible refine' rd_bm ?_) | (with_reducible refine' rd_tru ?_) | (with_reducible refine' rd_truInt ?_) | (with_reducible refine' rd_fld ?_)
  | ((with_reducible refine' rd_ixT (xs := ?xs) (v := ?v) ?f ?e ?h); (case f => walk_at "cy"); (case e => exact rfl))
  | ((with_reducible refine' rd_ixL (xs := ?xs) (v := ?v) ?f ?e ?h); (case f => walk_at "cy"); (case e => exact rfl))
  | ((with_reducible refine' rd_gtup (xs := ?xs) ?f ?e ?h); (case f => walk_at "cy"); (case e => exact rfl))
  | (with_reducible refine' rd_gcons ?_) | (with_reducible refine' rd_gnil ?_) | (with_reducible refine' rd_gname ?_))
local macro_rules | `(tactic| walk_at "rd") => `(tactic| repeat walk_at "rd1")
local macro_rules | `(tactic| walk_at "cy") => `(tactic| first
  | assumption
  | ((with_reducible refine' at_mono (H := ?H) ?s ?h); (case s => assumption); (case h => walk_at "cy"))
  | ((with_reducible refine' T2.mono (H := ?H) ?s ?h); (case s => assumption); (case h => walk_at "cy"))
  | ((with_reducible refine' PlAt.mono (H := ?H) ?s ?h); (case s => assumption); (case h => walk_at "cy"))
  | ((with_reducible refine' Pls.mono (H := ?H) ?s ?h); (case s => assumption); (case h => walk_at "cy")))
/-! ### the brew: points made line by line -/
abbrev Ln := Nat × Int × Nat
inductive Grow (ls : List Ln) (st : List Pl) : List Ln → List Pl → Prop
  | refl : Grow ls st ls st
  | line {ls' : List Ln} {st' : List Pl} {i j : Nat} {t : Int} {g h : Pl} : Grow ls st ls' st' → st'[i]? = some g → st'[j]? = some h → FP 100000 g ∧ FP 100000 h ∧ Fits 100000 t → Grow ls st (ls' ++ [(i, t, j)]) (st' ++ [g.mul (h.pow t)])
theorem Grow.trans {l1 l2 l3 : List Ln} {s1 s2 s3 : List Pl} (a : Grow l1 s1 l2 s2) (b : Grow l2 s2 l3 s3) : Grow l1 s1 l3 s3 := by
  induction b with
  | refl => exact a
  | line _ h1 h2 h3 ih => exact .line ih h1 h2 h3
theorem Grow.get {l1 l2 : List Ln} {s1 s2 : List Pl} (a : Grow l1 s1 l2 s2) {i : Nat} {g : Pl} (h : s1[i]? = some g) : s2[i]? = some g := by
  induction a with
  | refl => exact h
  | line _ h1 h2 _ ih => rw [List.getElem?_append_left (List.getElem?_eq_some_iff.mp ih).1]; exact ih
theorem Grow.len {l1 l2 : List Ln} {s1 s2 : List Pl} (a : Grow l1 s1 l2 s2) : s1.length ≤ s2.length := by
  induction a with
  | refl => exact Nat.le_refl _
  | line _ h1 h2 _ ih => rw [List.length_append]; omega
def Lns (H : Hp) (ys : List V) (ls : List Ln) : Prop := ys.length = ls.length ∧ ∀ (k : Nat) l, ls[k]? = some l → ∃ p, ys[k]? = some (.ref p) ∧ H p = some (.tup [.int (l.1 : Nat), .int l.2.1, .int (l.2.2 : Nat)])
def Kept (ls ll : Addr) (H H' : Hp) : Prop := ∀ b o, b ≠ ls → b ≠ ll → H b = some o → H' b = some o
theorem Kept.of {ls ll : Addr} {H H' : Hp} (s : Same H H') : Kept ls ll H H' := fun b o _ _ e => s b o e
theorem Kept.trans {ls ll : Addr} {H H1 H2 : Hp} (a : Kept ls ll H H1) (b : Kept ls ll H1 H2) : Kept ls ll H H2 := fun c o h1 h2 e => b c o h1 h2 (a c o h1 h2 e)
theorem Lns.monoB {H H' : Hp} {ys xs : List V} {ls : List Ln} {D : Addr} (hD : H D = some (.lst xs)) (s : SameB D H H') (h : Lns H ys ls) : Lns H' ys ls := ⟨h.1, fun k l e => let ⟨p, e1, e2⟩ := h.2 k l e; ⟨p, e1, s _ _ (ne_of e2 hD (by intro z; cases z)) e2⟩⟩
theorem Lns.mono {H H' : Hp} {ys : List V} {ls : List Ln} (s : Same H H') (h : Lns H ys ls) : Lns H' ys ls := ⟨h.1, fun k l e => let ⟨p, e1, e2⟩ := h.2 k l e; ⟨p, e1, s _ _ e2⟩⟩
theorem Pls.monoB {C D : Addr} {H H' : Hp} {xs zs : List V} {gs : List Pl} (hD : H D = some (.lst zs)) (s : SameB D H H') (h : Pls C H xs gs) : Pls C H' xs gs := ⟨h.1, fun k g e => let ⟨p, e1, e2⟩ := h.2 k g e; ⟨p, e1, e2.monoB hD s⟩⟩
theorem Lns.snoc {H : Hp} {ys : List V} {ls : List Ln} {p : Addr} {l : Ln} (h : Lns H ys ls) (hp : H p = some (.tup [.int (l.1 : Nat), .int l.2.1, .int (l.2.2 : Nat)])) : Lns H (ys ++ [.ref p]) (ls ++ [l]) := by
  refine ⟨by rw [List.length_append, List.length_append, h.1]; rfl, fun k g' e => ?_⟩
  by_cases hk : k < ls.length
  · rw [List.getElem?_append_left hk] at e
    obtain ⟨q, e1, e2⟩ := h.2 k g' e
    exact ⟨q, by rw [List.getElem?_append_left (by rw [h.1]; exact hk)]; exact e1, e2⟩
  · have hk2 := (List.getElem?_eq_some_iff.mp e).1
    rw [List.length_append] at hk2
    have e1 : [l].length = 1 := rfl
    have : k = ls.length := by omega
    subst this
    rw [List.getElem?_append_right (Nat.le_refl _), Nat.sub_self] at e
    cases (Option.some.inj e : l = g')
    exact ⟨p, by rw [← h.1, List.getElem?_append_right (Nat.le_refl _), Nat.sub_self]; rfl, hp⟩
def brF (ls ll : Addr) : List (Str × V) := [("stock", .ref ls), ("lines", .ref ll)]
theorem brF_s {ls ll : Addr} : (brF ls ll).lookup ("stock" : Str) = some (.ref ls) := lk_hit
theorem brF_l {ls ll : Addr} : (brF ls ll).lookup ("lines" : Str) = some (.ref ll) := by unfold brF; rw [lk_miss (by decide +kernel)]; exact lk_hit
theorem brF_no {ls ll : Addr} {m : Str} (h1 : (m == ("stock" : Str)) = false) (h2 : (m == ("lines" : Str)) = false) : (brF ls ll).lookup m = none := by
  unfold brF
  rw [lk_miss h1, lk_miss h2]
  rfl
/-- a brew in the heap -/
structure BrewAt (CP CB : Addr) (ls ll bp : Addr) (H : Hp) (lines : List Ln) (stock : List Pl) : Prop where
  ins : ∃ dx, H bp = some (.ins CB dx (brF ls ll))
  ne : ls ≠ ll
  st : ∃ xs, H ls = some (.lst xs) ∧ Pls CP H xs stock
  ln : ∃ ys, H ll = some (.lst ys) ∧ Lns H ys lines
  le : lines.length ≤ stock.length
theorem BrewAt.mono {CP CB ls ll bp : Addr} {H H' : Hp} {lines : List Ln} {stock : List Pl} (s : Same H H') (h : BrewAt CP CB ls ll bp H lines stock) : BrewAt CP CB ls ll bp H' lines stock :=
  ⟨let ⟨dx, e⟩ := h.ins; ⟨dx, s _ _ e⟩, h.ne, let ⟨xs, a, b⟩ := h.st; ⟨xs, s _ _ a, b.mono s⟩, let ⟨xs, a, b⟩ := h.ln; ⟨xs, s _ _ a, b.mono s⟩, h.le⟩
/-- a list of another kind changed -/
theorem BrewAt.monoB {CP CB ls ll bp D : Addr} {H H' : Hp} {lines : List Ln} {stock : List Pl} {zs : List V} (hD : H D = some (.lst zs)) (n1 : D ≠ ls) (n2 : D ≠ ll) (s : SameB D H H') (h : BrewAt CP CB ls ll bp H lines stock) : BrewAt CP CB ls ll bp H' lines stock :=
  ⟨let ⟨dx, e⟩ := h.ins; ⟨dx, s _ _ (ne_of e hD (by intro z; cases z)) e⟩, h.ne, let ⟨xs, a, b⟩ := h.st; ⟨xs, s _ _ n1.symm a, b.monoB hD s⟩, let ⟨xs, a, b⟩ := h.ln; ⟨xs, s _ _ n2.symm a, b.monoB hD s⟩, h.le⟩
theorem atI_nat {α : Type} {xs : List α} {i : Nat} {v : α} (h : xs[i]? = some v) : atI xs (i : Int) = some v := by
  have hi := (List.getElem?_eq_some_iff.mp h).1
  unfold atI ixN
  rw [if_pos (by omega), if_pos (by omega)]
  exact h
section
variable {P : Program} {w : World} {K : PySem.W.Frag} {mg : Str → Option Value} {base : Heap} {CP CB CT CE : Addr}
theorem rd_stock {H : Hp} {Q : VK} {ls ll bp : Addr} {lines : List Ln} {stock : List Pl} (T : Txt K mg CP CB CT CE) (h : BrewAt CP CB ls ll bp H lines stock) (k : Q (.ref ls) H) : rFld K "stock" (.ref bp) H Q := let ⟨dx, e⟩ := h.ins; ⟨bp, CB, dx, _, _, rfl, e, T.cl_Brew, T.a_CB_stock, brF_s, k⟩
theorem rd_lines {H : Hp} {Q : VK} {ls ll bp : Addr} {lines : List Ln} {stock : List Pl} (T : Txt K mg CP CB CT CE) (h : BrewAt CP CB ls ll bp H lines stock) (k : Q (.ref ll) H) : rFld K "lines" (.ref bp) H Q := let ⟨dx, e⟩ := h.ins; ⟨bp, CB, dx, _, _, rfl, e, T.cl_Brew, T.a_CB_lines, brF_l, k⟩
theorem rd_stk {H : Hp} {Q : VK} {ls ll bp : Addr} {lines : List Ln} {stock : List Pl} {i : Nat} {g : Pl} (h : BrewAt CP CB ls ll bp H lines stock) (hi : stock[i]? = some g) (k : ∀ p, PlAt CP H p g → Q (.ref p) H) : rIxL K (.ref ls) (.int (i : Nat)) H Q := by
  obtain ⟨xs, e, hs⟩ := h.st
  obtain ⟨p, e1, e2⟩ := hs.2 i g hi
  exact rd_ixL e (atI_nat e1) (k p e2)
theorem BrewAt.cls {ls ll bp : Addr} {H : Hp} {lines : List Ln} {stock : List Pl} (h : BrewAt CP CB ls ll bp H lines stock) {m : Str} (h1 : (m == ("stock" : Str)) = false) (h2 : (m == ("lines" : Str)) = false) : ∃ a dx fs, V.ref bp = .ref a ∧ H a = some (.ins CB dx fs) ∧ fs.lookup m = none := let ⟨dx, e⟩ := h.ins; ⟨bp, dx, _, rfl, e, brF_no h1 h2⟩
theorem own_pl {sp : Sp} {E : XK} {H : Hp} {Q : VK} {p q : Addr} {g g' : Pl} (h : PlAt CP H p g) (h' : PlAt CP H q g') (k : sp [.ref p, .ref q] H Q E) : rOwn2 CP sp E (.ref p) (.ref q) H Q := let ⟨d, e⟩ := h; let ⟨d', e'⟩ := h'; ⟨p, d, _, q, d', _, rfl, rfl, e, e', k⟩
abbrev s_x_of : Stmt := top 28
def N_x_of : List Str := ["place"]
theorem sc_x_of : FnScope ["place"] ["place"] (defScope s_x_of) := ⟨rfl, rfl, rfl, by decide +kernel, rfl, by decide +kernel, by decide +kernel⟩
abbrev s_y_of : Stmt := top 29
def N_y_of : List Str := ["place"]
theorem sc_y_of : FnScope ["place"] ["place"] (defScope s_y_of) := ⟨rfl, rfl, rfl, by decide +kernel, rfl, by decide +kernel, by decide +kernel⟩
abbrev s_area_of : Stmt := top 30
def N_area_of : List Str := ["place"]
theorem sc_area_of : FnScope ["place"] ["place"] (defScope s_area_of) := ⟨rfl, rfl, rfl, by decide +kernel, rfl, by decide +kernel, by decide +kernel⟩
def spPart (CP : Addr) (prt : Pl → Int) : Sp := fun vs H Q _ => ∃ (p : Addr) (g : Pl), vs = [.ref p] ∧ PlAt CP H p g ∧ Q (.int (prt g)) H
theorem ok_x_of (T : Txt K mg CP CB CT CE) : Cal P w K mg base L2.CX0 1 "x_of" (spPart CP Pl.x) := by
  refine T.f_x_of.cal sc_x_of (fun vs H Q E ⟨p, g, e, _⟩ => by subst e; rfl) (N := N_x_of) fun f cdv A outer s H vs Q E hr h => ?_
  obtain ⟨p, g, rfl, hp, h⟩ := h
  refine ⟨_, (pss_one (ps_ret (fldK (K := K) rfl (pv 0) rfl))), ?_⟩
  walk_at "rd"
  exact rd_px T hp h
theorem ok_y_of (T : Txt K mg CP CB CT CE) : Cal P w K mg base L2.CX0 1 "y_of" (spPart CP Pl.y) := by
  refine T.f_y_of.cal sc_y_of (fun vs H Q E ⟨p, g, e, _⟩ => by subst e; rfl) (N := N_y_of) fun f cdv A outer s H vs Q E hr h => ?_
  obtain ⟨p, g, rfl, hp, h⟩ := h
  refine ⟨_, (pss_one (ps_ret (fldK (K := K) rfl (pv 0) rfl))), ?_⟩
  walk_at "rd"
  exact rd_py T hp h
theorem ok_area_of (T : Txt K mg CP CB CT CE) : Cal P w K mg base L2.CX0 1 "area_of" (spPart CP Pl.a) := by
  refine T.f_area_of.cal sc_area_of (fun vs H Q E ⟨p, g, e, _⟩ => by subst e; rfl) (N := N_area_of) fun f cdv A outer s H vs Q E hr h => ?_
  obtain ⟨p, g, rfl, hp, h⟩ := h
  refine ⟨_, (pss_one (ps_ret (fldK (K := K) rfl (pv 0) rfl))), ?_⟩
  walk_at "rd"
  exact rd_pa T hp h
abbrev s_Brew_line : Stmt := inClass (top 27) 1
def N_Brew_line : List Str := ["self", "one", "times", "other"]
theorem sc_Brew_line : FnScope ["self", "one", "times", "other"] ["self", "one", "times", "other"] (defScope s_Brew_line) := ⟨rfl, rfl, rfl, by decide +kernel, rfl, by decide +kernel, by decide +kernel⟩
def spLine (CP CB : Addr) : Sp := fun vs H Q _ => ∃ (bp ls ll : Addr) (lines : List Ln) (stock : List Pl) (i j : Nat) (t : Int) (g h : Pl) (k : Nat), vs = [.ref bp, .int (i : Nat), .int t, .int (j : Nat)] ∧ BrewAt CP CB ls ll bp H lines stock ∧ stock[i]? = some g ∧ stock[j]? = some h ∧ FP k g ∧ FP k h ∧ Fits k t ∧ k ≤ 100000 ∧ stock.length < 100000 ∧
  ∀ H' lines' stock' (n : Nat), Kept ls ll H H' → BrewAt CP CB ls ll bp H' lines' stock' → Grow lines stock lines' stock' → stock'.length ≤ stock.length + 1 → stock'[n]? = some (g.mul (h.pow t)) → (n = i ∧ t = 0 ∨ 0 < n) → Q (.int (n : Nat)) H'
theorem ok_line (T : Txt K mg CP CB CT CE) : Mth P w K mg base L2.CX0 5 CB "line" (spLine CP CB) := by
  have T_mul := ok_mul (P := P) (w := w) (base := base) T
  have g_power := ok_power (P := P) (w := w) (base := base) T
  refine T.m_Brew_line.mth sc_Brew_line (fun vs H Q E ⟨bp, ls, ll, lines, stock, i, j, t, g, h, k, e, _⟩ => by subst e; rfl) (N := N_Brew_line) fun f cdv A outer s H vs Q E hr h => ?_
  obtain ⟨bp, ls, ll, lines, stock, i, j, t, g, h, k, rfl, hB, hi, hj, fg, fh, ft, bk, bl, F⟩ := h
  refine ⟨_, (pss_cons (ps_if (pt_cmpR op_eq (pv 2) pe_int (nomark _)) (pss_one (ps_ret (pv 1))) pss_nil)
 (pss_cons (ps_expr (pe_bm PySem.F.plainAttrs_list PySem.F.slot_list_append PySem.F.type_list_append mt_append (fldK (K := K) rfl (pv 0) rfl) (pa_cons (tupS (pa_cons (pv 1) (pa_cons (pv 2) (pa_cons (pv 3) pa_nil)))) pa_nil)))
 (pss_cons (ps_expr (pe_bm PySem.F.plainAttrs_list PySem.F.slot_list_append PySem.F.type_list_append mt_append (fldK (K := K) rfl (pv 0) rfl) (pa_cons (pe_op (op_own2 T_mul pass0 hr (by decide) rfl T.plFirst) (pe_ix (ixLK (K := K) rfl) (fldK (K := K) rfl (pv 0) rfl) (pv 1) (fun _ _ => rfl)) (mthS g_power pass0 hr (by decide) (pe_ix (ixLK (K := K) rfl) (fldK (K := K) rfl (pv 0) rfl) (pv 3) (fun _ _ => rfl)) (pa_cons (pv 2) pa_nil))) pa_nil)))
 (pss_one (ps_ret (pe_op op_sub (pe_callB (lenK (K := K) rfl) (by rfl) T.n_len (by decide +kernel) (pa_cons (fldK (K := K) rfl (pv 0) rfl) pa_nil)) pe_int)))))), ?_⟩
  walk_at "rd"
  refine rd_dec (fun t0 => ?_) (fun t0 => ?_)
  · walk_at "rd"
    refine F H lines stock i (.of (Same.refl _)) hB .refl (Nat.le_succ _) ?_ (.inl ⟨rfl, t0⟩)
    rw [t0, Pl.pow_zero, Pl.mul_home]
    exact hi
  · walk_at "rd"
    refine rd_lines T hB ?_
    obtain ⟨ys, hll, hls⟩ := hB.ln
    refine rd_bmL hll ?_
    walk_at "rd"
    refine rd_new fun tp H1 n1 s1 htp => ?_
    walk_at "rd"
    have bys : ys.length < 100000 := by rw [hls.1]; exact Nat.lt_of_le_of_lt hB.le bl
    refine rd_append (s1 _ _ hll) bys fun H2 s2 hll2 => ?_
    walk_at "rd"
    have hB1 := hB.mono s1
    obtain ⟨dx, hb1⟩ := hB1.ins
    obtain ⟨xs, hxs, hpl⟩ := hB1.st
    have hb2 := s2 _ _ (ne_of hb1 (s1 _ _ hll) (by intro z; cases z)) hb1
    have hxs2 := s2 _ _ hB.ne hxs
    have hpl2 := hpl.monoB (s1 _ _ hll) s2
    have htp2 := s2 _ _ (ne_of htp (s1 _ _ hll) (by intro z; cases z)) htp
    have hls2 : Lns H2 (ys ++ [.ref tp]) (lines ++ [(i, t, j)]) := ((hls.mono s1).monoB (s1 _ _ hll) s2).snoc htp2
    have rS : ∀ {H : Hp} {Q : VK}, H bp = some (.ins CB dx (brF ls ll)) → Q (.ref ls) H → rFld K "stock" (.ref bp) H Q := fun e k => ⟨bp, CB, dx, _, _, rfl, e, T.cl_Brew, T.a_CB_stock, brF_s, k⟩
    have rK : ∀ {H : Hp} {Q : VK} {xs : List V} {i : Nat} {g : Pl}, H ls = some (.lst xs) → Pls CP H xs stock → stock[i]? = some g → (∀ p, PlAt CP H p g → Q (.ref p) H) → rIxL K (.ref ls) (.int (i : Nat)) H Q := fun e hs hi k => by
      obtain ⟨p, e1, e2⟩ := hs.2 _ _ hi
      exact rd_ixL e (atI_nat e1) (k p e2)
    refine rS hb2 ?_
    refine rd_bmL hxs2 ?_
    walk_at "rd"
    refine rS hb2 ?_
    walk_at "rd"
    refine rK hxs2 hpl2 hi fun pg hpg => ?_
    walk_at "rd"
    refine rS hb2 ?_
    walk_at "rd"
    refine rK hxs2 hpl2 hj fun ph hph => ?_
    refine rd_mtB (pl_ins hph) ?_
    walk_at "rd"
    refine ⟨ph, t, h, k, rfl, hph, fh, ft, by omega, fun pr H3 n3 s3 hpr => ?_⟩
    refine own_pl (hpg.mono s3) hpr ?_
    refine ⟨pg, pr, g, h.pow t, 2 * k, rfl, by walk_at "cy", hpr, fg.1.mono (by omega), ft.mul fh.2.1 (by omega), by omega, fun pm H4 n4 s4 hpm => ?_⟩
    walk_at "rd"
    have hls4 := (hls2.mono s3).mono s4
    have hll4 := s4 _ _ (s3 _ _ hll2)
    have hxs4 := s4 _ _ (s3 _ _ hxs2)
    have hpl4 := (hpl2.mono s3).mono s4
    have hb4 := s4 _ _ (s3 _ _ hb2)
    have bxs : xs.length < 100000 := by rw [hpl.1]; exact bl
    refine rd_append hxs4 bxs fun H5 s5 hxs5 => ?_
    walk_at "rd"
    have hb5 := s5 _ _ (ne_of hb4 hxs4 (by intro z; cases z)) hb4
    have hB5 : BrewAt CP CB ls ll bp H5 (lines ++ [(i, t, j)]) (stock ++ [g.mul (h.pow t)]) :=
      ⟨⟨dx, hb5⟩, hB.ne, ⟨_, hxs5, (hpl4.monoB hxs4 s5).snoc (hpm.monoB hxs4 s5)⟩, ⟨_, s5 _ _ hB.ne.symm hll4, hls4.monoB hxs4 s5⟩, by rw [List.length_append, List.length_append]; exact Nat.add_le_add_right hB.le 1⟩
    refine rS hb5 ?_
    walk_at "rd"
    have e : (((xs ++ [V.ref pm]).length : Nat) : Int) - 1 = ((stock.length : Nat) : Int) := by rw [List.length_append, hpl.1]; show ((stock.length + 1 : Nat) : Int) - 1 = _; omega
    rw [e]
    refine F H5 _ _ stock.length (fun b o h1 h2 e => ?_) hB5 (.line .refl hi hj ⟨fg.mono bk, fh.mono bk, ft.mono bk⟩) (by rw [List.length_append]; exact Nat.le_refl _) ?_ (.inr (Nat.lt_of_le_of_lt (Nat.zero_le _) (List.getElem?_eq_some_iff.mp hi).1))
    · exact s5 _ _ h1 (s4 _ _ (s3 _ _ (s2 _ _ h2 (s1 _ _ e))))
    · rw [List.getElem?_append_right (Nat.le_refl _), Nat.sub_self]
      rfl
abbrev s_Brew_undone : Stmt := inClass (top 27) 2
def N_Brew_undone : List Str := ["self", "number"]
theorem sc_Brew_undone : FnScope ["self", "number"] ["self", "number"] (defScope s_Brew_undone) := ⟨rfl, rfl, rfl, by decide +kernel, rfl, by decide +kernel, by decide +kernel⟩
def spUndone (CP CB : Addr) : Sp := fun vs H Q _ => ∃ (bp ls ll : Addr) (lines : List Ln) (stock : List Pl) (j : Nat) (h : Pl) (k : Nat), vs = [.ref bp, .int (j : Nat)] ∧ BrewAt CP CB ls ll bp H lines stock ∧ stock[0]? = some home ∧ stock[j]? = some h ∧ FP k h ∧ 1 ≤ k ∧ k ≤ 100000 ∧ stock.length < 100000 ∧
  ∀ H' lines' stock' (n : Nat), Kept ls ll H H' → BrewAt CP CB ls ll bp H' lines' stock' → Grow lines stock lines' stock' → stock'.length ≤ stock.length + 1 → stock'[n]? = some h.inv → 0 < n → Q (.int (n : Nat)) H'
theorem ok_undone (T : Txt K mg CP CB CT CE) : Mth P w K mg base L2.CX0 6 CB "undone" (spUndone CP CB) := by
  have g_line := ok_line (P := P) (w := w) (base := base) T
  refine T.m_Brew_undone.mth sc_Brew_undone (fun vs H Q E ⟨bp, ls, ll, lines, stock, j, h, k, e, _⟩ => by subst e; rfl) (N := N_Brew_undone) fun f cdv A outer s H vs Q E hr h => ?_
  obtain ⟨bp, ls, ll, lines, stock, j, h, k, rfl, hB, h0, hj, fh, k1, bk, bl, F⟩ := h
  refine ⟨_, (pss_one (ps_ret (mthS g_line pass0 hr (by decide) (pv 0) (pa_cons pe_int (pa_cons (pe_un un_neg pe_int) (pa_cons (pv 1) pa_nil)))))), ?_⟩
  walk_at "rd"
  refine rd_mtB (hB.cls (by decide +kernel) (by decide +kernel)) ?_
  walk_at "rd"
  refine ⟨bp, ls, ll, lines, stock, 0, j, -1, home, h, k, rfl, hB, h0, hj, ⟨.zero, .zero, .zero⟩, fh, (Fits.one (by omega)).neg, bk, bl, fun H' lines' stock' n q1 q2 q3 q4 q5 q6 => ?_⟩
  rw [Pl.home_mul, Pl.pow_m1] at q5
  exact F H' lines' stock' n q1 q2 q3 q4 q5 (q6.elim (fun z => absurd z.2 (by decide)) id)
abbrev s_Brew_led_down : Stmt := inClass (top 27) 3
def N_Brew_led_down : List Str := ["self", "upper", "lower", "part", "times"]
theorem sc_Brew_led_down : FnScope ["self", "upper", "lower", "part", "times"] ["self", "upper", "lower", "part"] (defScope s_Brew_led_down) := ⟨rfl, rfl, rfl, by decide +kernel, rfl, by decide +kernel, by decide +kernel⟩
theorem rd_callA {i : Nat} {fp : Addr} {S : Addr → Option Sp} {sp : Sp} {t : TA} {σ : L2.St} {H : Hp} {Q : VK} (h1 : σ[i]? = some (some (.ref fp))) (h2 : S fp = some sp) (k : t σ H fun vs H1 => sp vs H1 Q (fun _ _ _ => False)) : tCallA i S t σ H Q := ⟨fp, sp, h1, h2, k⟩
def spLed (P : Program) (w : World) (K : PySem.W.Frag) (mg : Str → Option Value) (base : Heap) (CP CB : Addr) : Sp := fun vs H Q _ => ∃ (bp ls ll fp : Addr) (lines : List Ln) (stock : List Pl) (i j : Nat) (u0 l0 : Pl) (prt : Pl → Int) (N : Nat), vs = [.ref bp, .int (i : Nat), .int (j : Nat), .ref fp] ∧ Held P w K mg base 1 fp (spPart CP prt) ∧ BrewAt CP CB ls ll bp H lines stock ∧
  stock[i]? = some u0 ∧ stock[j]? = some l0 ∧ LedOk prt u0 l0 N ∧ stock.length + N < 100000 ∧
  ∀ H' lines' stock' (i' j' : Nat) n u l r, Kept ls ll H H' → BrewAt CP CB ls ll bp H' lines' stock' → Grow lines stock lines' stock' → stock'.length ≤ stock.length + N → Led prt u0 l0 n u l → prt l = 0 → stock'[i']? = some u → stock'[j']? = some l → (n = 0 → i' = i ∧ j' = j) → H' r = some (.tup [.int (i' : Nat), .int (j' : Nat)]) → Q (.ref r) H'
theorem ok_led_down (T : Txt K mg CP CB CT CE) : Mth P w K mg base L2.CX0 6 CB "led_down" (spLed P w K mg base CP CB) := by
  have g_line := ok_line (P := P) (w := w) (base := base) T
  refine T.m_Brew_led_down.mth sc_Brew_led_down (fun vs H Q E ⟨bp, ls, ll, fp, lines, stock, i, j, u0, l0, prt, N, e, _⟩ => by subst e; rfl) (N := N_Brew_led_down) fun f cdv A outer s H vs Q E hr h => ?_
  obtain ⟨bp, ls, ll, fp, lines, stock, i, j, u0, l0, prt, N, rfl, hP, hB, hi, hj, L, bl, F⟩ := h
  have hA : ∀ f sp, (if f = fp then some (spPart CP prt) else none) = some sp → Held P w K mg base 1 f sp := fun f sp e => by
    by_cases h : f = fp
    · rw [if_pos h] at e; cases e; rw [h]; exact hP
    · rw [if_neg h] at e; cases e
  refine ⟨_, (pss_cons (ps_while PassesOwn.never (pt_cmpR op_ne (pe_callA (i := 3) (S := fun f => if f = fp then some (spPart CP prt) else none) hA (hr.mono (by decide)) rfl (Or.inl rfl) (pa_cons (pe_ix (ixLK (K := K) rfl) (fldK (K := K) rfl (pv 0) rfl) (pv 2) (fun _ _ => rfl)) pa_nil)) pe_int (nomark _)) (pss_cons (ps_set (i := 4) sc_Brew_led_down.nd rfl (Or.inl rfl) (pe_op op_fdX (pe_callA (i := 3) (S := fun f => if f = fp then some (spPart CP prt) else none) hA (hr.mono (by decide)) rfl (Or.inl rfl) (pa_cons (pe_ix (ixLK (K := K) rfl) (fldK (K := K) rfl (pv 0) rfl) (pv 1) (fun _ _ => rfl)) pa_nil)) (pe_callA (i := 3) (S := fun f => if f = fp then some (spPart CP prt) else none) hA (hr.mono (by decide)) rfl (Or.inl rfl) (pa_cons (pe_ix (ixLK (K := K) rfl) (fldK (K := K) rfl (pv 0) rfl) (pv 2) (fun _ _ => rfl)) pa_nil))))
 (pss_one (ps_par (i := 1) (j := 2) rfl sc_Brew_led_down.nd rfl rfl (by decide) rfl rfl (pa_cons (pv 2) (pa_cons (mthS g_line pass0 hr (by decide) (pv 0) (pa_cons (pv 1) (pa_cons (pe_un un_neg (pv 4)) (pa_cons (pv 2) pa_nil)))) pa_nil)) (by rfl)))))
 (pss_one (ps_ret (tupS (pa_cons (pv 1) (pa_cons (pv 2) pa_nil)))))), ?_⟩
  walk_at "rd"
  refine rd_while (fun m σ' H' => ∃ lines' stock' n u l v, ∃ i' j' : Nat, σ' = [some (.ref bp), some (.int (i' : Nat)), some (.int (j' : Nat)), some (.ref fp), v] ∧ Kept ls ll H H' ∧ BrewAt CP CB ls ll bp H' lines' stock' ∧ Grow lines stock lines' stock' ∧ stock'.length ≤ stock.length + n ∧ Led prt u0 l0 n u l ∧ stock'[i']? = some u ∧ stock'[j']? = some l ∧ (n = 0 → i' = i ∧ j' = j) ∧ (prt l).natAbs = m)
    (prt l0).natAbs ⟨lines, stock, 0, u0, l0, none, i, j, rfl, .of (Same.refl _), hB, .refl, Nat.le_refl _, .start, hi, hj, fun _ => ⟨rfl, rfl⟩, rfl⟩ ?_
  rintro m σ' H' ⟨lines', stock', n, u, l, v, i', j', rfl, kp, hB', gr, hl, ld, hi', hj', z0, rfl⟩
  obtain ⟨fu, fl, nN, fpu, fpl⟩ := L.all n u l ld
  walk_at "rd"
  refine rd_callA (sp := spPart CP prt) rfl (if_pos rfl) ?_
  walk_at "rd"
  refine rd_stock T hB' ?_
  walk_at "rd"
  refine rd_stk hB' hj' fun pl hpl => ?_
  walk_at "rd"
  refine ⟨pl, l, rfl, hpl, ?_⟩
  walk_at "rd"
  refine rd_ndec (fun hz => ?_) (fun hz => ?_)
  · refine rd_turn ?_
    walk_at "rd"
    refine rd_callA (sp := spPart CP prt) rfl (if_pos rfl) ?_
    walk_at "rd"
    refine rd_stock T hB' ?_
    walk_at "rd"
    refine rd_stk hB' hi' fun pu hpu => ?_
    walk_at "rd"
    refine ⟨pu, u, rfl, hpu, ?_⟩
    walk_at "rd"
    refine rd_callA (sp := spPart CP prt) rfl (if_pos rfl) ?_
    walk_at "rd"
    refine rd_stock T hB' ?_
    walk_at "rd"
    refine rd_stk hB' hj' fun pl2 hpl2 => ?_
    walk_at "rd"
    refine ⟨pl2, l, rfl, hpl2, ?_⟩
    refine rd_I ⟨hz, fpl.mono (by omega)⟩ ?_
    walk_at "rd"
    refine rd_mtB (hB'.cls (by decide +kernel) (by decide +kernel)) ?_
    walk_at "rd"
    refine ⟨bp, ls, ll, lines', stock', i', j', -quo prt u l, u, l, 3000, rfl, hB', hi', hj', fu, fl, (fpu.fdiv _).neg, by omega, by omega, fun H2 lines2 stock2 n2 q1 q2 q3 q4 q5 q6 => ?_⟩
    walk_at "rd"
    have st : Led prt u0 l0 (n + 1) l (led1 prt u l) := ld.step hz
    exact ⟨_, (by rw [led_mod L.lin ld]; exact fmod_abs_lt hz), lines2, stock2, n + 1, l, led1 prt u l, _, j', n2, rfl, kp.trans q1, q2, gr.trans q3, by omega, st, q3.get hj', q5, fun h => absurd h (by omega), rfl⟩
  · walk_at "rd"
    refine rd_new fun r H2 n2 s2 hr2 => ?_
    exact F H2 lines' stock' i' j' n u l r (kp.trans (.of s2)) (hB'.mono s2) gr (by omega) ld hz hi' hj' z0 hr2
theorem Cal.held {x : Str} {sp : Sp} (c : Cal P w K mg base L2.CX0 1 x sp) : ∃ f, mg x = some (.ref f) ∧ Held P w K mg base 1 f sp := by
  obtain ⟨f, fd, ps, F, m, k, b⟩ := c.ex
  exact ⟨f, m, ⟨fd, ps, F, k, b⟩⟩
abbrev s_put_right : Stmt := top 32
def N_put_right : List Str := ["brew", "number", "part"]
theorem sc_put_right : FnScope ["brew", "number", "part"] ["brew", "number", "part"] (defScope s_put_right) := ⟨rfl, rfl, rfl, by decide +kernel, rfl, by decide +kernel, by decide +kernel⟩
def spPutR (P : Program) (w : World) (K : PySem.W.Frag) (mg : Str → Option Value) (base : Heap) (CP CB : Addr) : Sp := fun vs H Q _ => ∃ (bp ls ll fp : Addr) (lines : List Ln) (stock : List Pl) (j : Nat) (h : Pl) (prt : Pl → Int), vs = [.ref bp, .int (j : Nat), .ref fp] ∧ Held P w K mg base 1 fp (spPart CP prt) ∧ BrewAt CP CB ls ll bp H lines stock ∧
  stock[0]? = some home ∧ stock[j]? = some h ∧ FP 3000 h ∧ stock.length < 100000 ∧
  ∀ H' lines' stock' (n : Nat) h', Kept ls ll H H' → BrewAt CP CB ls ll bp H' lines' stock' → Grow lines stock lines' stock' → stock'.length ≤ stock.length + 1 → Right prt h h' → stock'[n]? = some h' → (prt h < 0 ∧ 0 < n ∨ 0 ≤ prt h ∧ n = j) → Q (.int (n : Nat)) H'
theorem ok_put_right (T : Txt K mg CP CB CT CE) : Cal P w K mg base L2.CX0 7 "put_right" (spPutR P w K mg base CP CB) := by
  have g_undone := ok_undone (P := P) (w := w) (base := base) T
  refine T.f_put_right.cal sc_put_right (fun vs H Q E ⟨bp, ls, ll, fp, lines, stock, j, h, prt, e, _⟩ => by subst e; rfl) (N := N_put_right) fun f cdv A outer s H vs Q E hr h => ?_
  obtain ⟨bp, ls, ll, fp, lines, stock, j, h, prt, rfl, hP, hB, h0, hj, fh, bl, F⟩ := h
  have hA : ∀ f sp, (if f = fp then some (spPart CP prt) else none) = some sp → Held P w K mg base 1 f sp := fun f sp e => by
    by_cases h : f = fp
    · rw [if_pos h] at e; cases e; rw [h]; exact hP
    · rw [if_neg h] at e; cases e
  refine ⟨_, (pss_one (ps_ret (pe_ifExp (pt_cmpR op_lt (pe_callA (i := 2) (S := fun f => if f = fp then some (spPart CP prt) else none) hA (hr.mono (by decide)) rfl (Or.inl rfl) (pa_cons (pe_ix (ixLK (K := K) rfl) (fldK (K := K) rfl (pv 0) rfl) (pv 1) (fun _ _ => rfl)) pa_nil)) pe_int (nomark _)) (mthS g_undone pass0 hr (by decide) (pv 0) (pa_cons (pv 1) pa_nil)) (pv 1)))), ?_⟩
  walk_at "rd"
  refine rd_callA (sp := spPart CP prt) rfl (if_pos rfl) ?_
  walk_at "rd"
  refine rd_stock T hB ?_
  walk_at "rd"
  refine rd_stk hB hj fun pl hpl => ?_
  walk_at "rd"
  refine ⟨pl, h, rfl, hpl, ?_⟩
  walk_at "rd"
  refine rd_dec (fun hz => ?_) (fun hz => ?_)
  · walk_at "rd"
    refine rd_mtB (hB.cls (by decide +kernel) (by decide +kernel)) ?_
    walk_at "rd"
    exact ⟨bp, ls, ll, lines, stock, j, h, 3000, rfl, hB, h0, hj, fh, by omega, by omega, bl, fun H' lines' stock' n q1 q2 q3 q4 q5 q6 => F H' lines' stock' n _ q1 q2 q3 q4 (.inl ⟨hz, rfl⟩) q5 (.inl ⟨hz, q6⟩)⟩
  · walk_at "rd"
    exact F H lines stock j h (.of (Same.refl _)) hB .refl (Nat.le_succ _) (.inr ⟨by omega, rfl⟩) hj (.inr ⟨by omega, rfl⟩)
def natV (ns : List Nat) : List V := ns.map fun n => V.int (n : Nat)
def Picks (stock : List Pl) (ns : List Nat) (gs : List Pl) : Prop := ns.length = gs.length ∧ ∀ (k : Nat) n, ns[k]? = some n → ∃ g, gs[k]? = some g ∧ stock[n]? = some g
theorem Picks.grow {l1 l2 : List Ln} {s1 s2 : List Pl} {ns : List Nat} {gs : List Pl} (h : Picks s1 ns gs) (g : Grow l1 s1 l2 s2) : Picks s2 ns gs := ⟨h.1, fun k n e => let ⟨x, a, b⟩ := h.2 k n e; ⟨x, a, g.get b⟩⟩
theorem Picks.nil {st : List Pl} : Picks st [] [] := ⟨rfl, fun k n e => by simp at e⟩
theorem Picks.snoc {st : List Pl} {ns : List Nat} {gs : List Pl} {n : Nat} {g : Pl} (h : Picks st ns gs) (e : st[n]? = some g) : Picks st (ns ++ [n]) (gs ++ [g]) := by
  refine ⟨by rw [List.length_append, List.length_append, h.1]; rfl, fun k m hm => ?_⟩
  by_cases hk : k < ns.length
  · rw [List.getElem?_append_left hk] at hm
    obtain ⟨x, a, b⟩ := h.2 k m hm
    exact ⟨x, by rw [List.getElem?_append_left (by rw [← h.1]; exact hk)]; exact a, b⟩
  · have hk2 := (List.getElem?_eq_some_iff.mp hm).1
    rw [List.length_append] at hk2
    have e1 : [n].length = 1 := rfl
    have : k = ns.length := by omega
    subst this
    rw [List.getElem?_append_right (Nat.le_refl _), Nat.sub_self] at hm
    cases (Option.some.inj hm : n = m)
    exact ⟨g, by rw [h.1, List.getElem?_append_right (Nat.le_refl _), Nat.sub_self]; rfl, e⟩
theorem natV_snoc (ns : List Nat) (n : Nat) : natV ns ++ [.int (n : Nat)] = natV (ns ++ [n]) := by unfold natV; rw [List.map_append]; rfl
theorem natV_len (ns : List Nat) : (natV ns).length = ns.length := List.length_map ..
abbrev s_settled : Stmt := top 34
def N_settled : List Str := ["brew", "upper", "lower", "root", "rows", "round_area", "number", "place"]
theorem sc_settled : FnScope ["brew", "upper", "lower", "root", "rows", "round_area", "number", "place"] ["brew", "upper", "lower", "root"] (defScope s_settled) := ⟨rfl, rfl, rfl, by decide +kernel, rfl, by decide +kernel, by decide +kernel⟩
def spSettled (CP CB : Addr) : Sp := fun vs H Q _ => ∃ (bp ls ll : Addr) (lines : List Ln) (stock : List Pl) (i j k : Nat) (U L R : Pl), vs = [.ref bp, .int (i : Nat), .int (j : Nat), .int (k : Nat)] ∧ BrewAt CP CB ls ll bp H lines stock ∧
  stock[i]? = some U ∧ stock[j]? = some L ∧ stock[k]? = some R ∧ FP 3000 U ∧ FP 3000 L ∧ FP 3000 R ∧ stock.length + 2 < 100000 ∧
  ∀ H' lines' stock' ns r lr, Kept ls ll H H' → BrewAt CP CB ls ll bp H' lines' stock' → Grow lines stock lines' stock' → stock'.length ≤ stock.length + 2 → Picks stock' ns (([U, L].filter isEnd).map (fitRow R)) → stock'[k]? = some R → lr ≠ ls → lr ≠ ll → H' lr = some (.lst (natV ns)) → H' r = some (.tup [.ref lr, .int (k : Nat)]) → Q (.ref r) H'
theorem ok_settled (T : Txt K mg CP CB CT CE) : Cal P w K mg base L2.CX0 6 "settled" (spSettled CP CB) := by
  have g_line := ok_line (P := P) (w := w) (base := base) T
  refine T.f_settled.cal sc_settled (fun vs H Q E ⟨bp, ls, ll, lines, stock, i, j, k, U, L, R, e, _⟩ => by subst e; rfl) (N := N_settled) fun f cdv A outer s H vs Q E hr h => ?_
  obtain ⟨bp, ls, ll, lines, stock, i, j, k, U, L, R, rfl, hB, hi, hj, hk, fU, fL, fR, bl, F⟩ := h
  refine ⟨_, (pss_cons (ps_par (i := 4) (j := 5) rfl sc_settled.nd rfl rfl (by decide) rfl rfl (pa_cons (lstS pa_nil) (pa_cons (fldK (K := K) rfl (pe_ix (ixLK (K := K) rfl) (fldK (K := K) rfl (pv 0) rfl) (pv 3) (fun _ _ => rfl)) rfl) pa_nil)) (by rfl))
 (pss_cons (ps_for PassesOwn.never rfl (piT (K := K) rfl (tupS (pa_cons (pv 1) (pa_cons (pv 2) pa_nil)))) (pg_name (i := 6) sc_settled.nd rfl (Or.inl rfl)) (pss_cons (ps_set (i := 7) sc_settled.nd rfl (Or.inl rfl) (pe_ix (ixLK (K := K) rfl) (fldK (K := K) rfl (pv 0) rfl) (pv 6) (fun _ _ => rfl)))
 (pss_one (ps_if (PW.pt (pw_or (truK (K := K) rfl (fldK (K := K) rfl (pv 7) rfl) (by intro _; rfl)) (pw_or1 (truK (K := K) rfl (fldK (K := K) rfl (pv 7) rfl) (by intro _; rfl))))) (pss_cons (ps_if (truK (K := K) rfl (pv 5) (by intro _; rfl)) (pss_one (ps_set (i := 6) sc_settled.nd rfl (Or.inl rfl) (mthS g_line pass0 hr (by decide) (pv 0) (pa_cons (pv 6) (pa_cons (pe_un un_neg (pe_op op_fdX (fldK (K := K) rfl (pv 7) rfl) (pv 5))) (pa_cons (pv 3) pa_nil)))))) pss_nil)
 (pss_one (ps_expr (pe_bm PySem.F.plainAttrs_list PySem.F.slot_list_append PySem.F.type_list_append mt_append (pv 4) (pa_cons (pv 6) pa_nil))))) pss_nil))))
 (pss_one (ps_ret (tupS (pa_cons (pv 4) (pa_cons (pv 3) pa_nil))))))), ?_⟩
  walk_at "rd"
  refine rd_newL fun lr H1 n1 s1 hlr => ?_
  have hB1 := hB.mono s1
  have nls : lr ≠ ls := fun e => by obtain ⟨xs, a, _⟩ := hB.st; rw [e, a] at n1; cases n1
  have nll : lr ≠ ll := fun e => by obtain ⟨xs, a, _⟩ := hB.ln; rw [e, a] at n1; cases n1
  walk_at "rd"
  refine rd_stock T hB1 ?_
  walk_at "rd"
  refine rd_stk hB1 hk fun pR hpR => ?_
  refine rd_pa T hpR ?_
  walk_at "rd"
  refine rd_new fun tp H2 n2 s2 htp => ?_
  have hB2 := hB1.mono s2
  have key : ∀ (q : Nat) x, ([.int (i : Nat), .int (j : Nat)] : List V)[q]? = some x → ∃ (m : Nat) (g : Pl), x = .int (m : Nat) ∧ stock[m]? = some g ∧ FP 3000 g ∧ [U, L].take (q + 1) = [U, L].take q ++ [g] := fun q x hx => by
    match q, hx with
    | 0, hx => cases Option.some.inj hx; exact ⟨i, U, rfl, hi, fU, rfl⟩
    | 1, hx => cases Option.some.inj hx; exact ⟨j, L, rfl, hj, fL, rfl⟩
    | q + 2, hx => simp at hx
  refine rd_forT htp (fun q σ' H' => ∃ lines' stock' ns c6 c7, σ' = [some (.ref bp), some (.int (i : Nat)), some (.int (j : Nat)), some (.int (k : Nat)), some (.ref lr), some (.int R.a), c6, c7] ∧ Kept ls ll H H' ∧ BrewAt CP CB ls ll bp H' lines' stock' ∧ Grow lines stock lines' stock' ∧ stock'.length ≤ stock.length + q ∧ Picks stock' ns ((([U, L].take q).filter isEnd).map (fitRow R)) ∧ H' lr = some (.lst (natV ns)) ∧ H' tp = some (.tup [.int (i : Nat), .int (j : Nat)]))
    ⟨lines, stock, [], none, none, rfl, .of (s1.trans s2), hB2, .refl, Nat.le_refl _, .nil, s2 _ _ hlr, htp⟩ (fun q σ' H' _ h => by obtain ⟨_, _, _, _, _, _, _, _, _, _, _, _, h⟩ := h; exact h) ?_ ?_
  · rintro q x σ' H' hx ⟨lines', stock', ns, c6, c7, rfl, kp, hB', gr, hl, pk, hlr', htp'⟩
    obtain ⟨m, g, rfl, hm, fg, tk⟩ := key q x hx
    have hq2 : q < 2 := (List.getElem?_eq_some_iff.mp hx).1
    have hm' := gr.get hm
    walk_at "rd"
    refine rd_stock T hB' ?_
    walk_at "rd"
    refine rd_stk hB' hm' fun pg hpg => ?_
    walk_at "rd"
    refine rd_px T hpg ?_
    walk_at "rd"
    have fin : ∀ (H2 : Hp) lines2 stock2 (n : Nat) c7, Kept ls ll H' H2 → BrewAt CP CB ls ll bp H2 lines2 stock2 → Grow lines' stock' lines2 stock2 → stock2.length ≤ stock'.length + 1 → stock2[n]? = some (fitRow R g) → isEnd g = true →
        (tDrop (tBM K "list" rAppend (tVar 4) (tCons (tVar 6) tNil))) ⟨fun σ2 H2 => ∃ lines' stock' ns c6 c7, σ2 = [some (.ref bp), some (.int (i : Nat)), some (.int (j : Nat)), some (.int (k : Nat)), some (.ref lr), some (.int R.a), c6, c7] ∧ Kept ls ll H H2 ∧ BrewAt CP CB ls ll bp H2 lines' stock' ∧ Grow lines stock lines' stock' ∧ stock'.length ≤ stock.length + (q + 1) ∧ Picks stock' ns ((([U, L].take (q + 1)).filter isEnd).map (fitRow R)) ∧ H2 lr = some (.lst (natV ns)) ∧ H2 tp = some (.tup [.int (i : Nat), .int (j : Nat)]), Q, fun _ _ => False, fun _ _ => False⟩
          [some (.ref bp), some (.int (i : Nat)), some (.int (j : Nat)), some (.int (k : Nat)), some (.ref lr), some (.int R.a), some (.int (n : Nat)), c7] H2 := fun H2 lines2 stock2 n c7 q1 q2 q3 q4 q5 q6 => by
      have hlr2 := q1 _ _ nls nll hlr'
      walk_at "rd"
      refine rd_bmL hlr2 ?_
      walk_at "rd"
      have bn : (natV ns).length < 100000 := by rw [natV_len, pk.1, List.length_map]; exact Nat.lt_of_le_of_lt (List.length_filter_le _ _) (by rw [List.length_take]; show min q 2 < _; omega)
      refine rd_append hlr2 bn fun H3 s3 hlr3 => ?_
      walk_at "rd"
      have tpl : tp ≠ ls := by obtain ⟨xs, a, _⟩ := hB'.st; exact ne_of htp' a (by intro z; cases z)
      have tpm : tp ≠ ll := by obtain ⟨xs, a, _⟩ := hB'.ln; exact ne_of htp' a (by intro z; cases z)
      have htp2 := q1 _ _ tpl tpm htp'
      refine ⟨lines2, stock2, ns ++ [n], _, _, rfl, fun b o h1 h2 e => s3 _ _ (ne_of_none e n1) ((kp.trans q1) _ _ h1 h2 e), q2.monoB hlr2 nls nll s3, gr.trans q3, by omega, ?_, by rw [← natV_snoc]; exact hlr3, s3 _ _ (ne_of htp2 hlr2 (by intro z; cases z)) htp2⟩
      rw [tk, List.filter_append, List.map_append]
      have e1 : [g].filter isEnd = [g] := by simp [List.filter, q6]
      rw [e1]
      exact (pk.grow q3).snoc q5
    have skip : isEnd g = false → ∀ c7, ∃ lines' stock' ns c6 c7', [some (V.ref bp), some (.int (i : Nat)), some (.int (j : Nat)), some (.int (k : Nat)), some (.ref lr), some (.int R.a), some (.int (m : Nat)), c7] = [some (.ref bp), some (.int (i : Nat)), some (.int (j : Nat)), some (.int (k : Nat)), some (.ref lr), some (.int R.a), c6, c7'] ∧ Kept ls ll H H' ∧ BrewAt CP CB ls ll bp H' lines' stock' ∧ Grow lines stock lines' stock' ∧ stock'.length ≤ stock.length + (q + 1) ∧ Picks stock' ns ((([U, L].take (q + 1)).filter isEnd).map (fitRow R)) ∧ H' lr = some (.lst (natV ns)) ∧ H' tp = some (.tup [.int (i : Nat), .int (j : Nat)]) := fun h0 c7 => by
      refine ⟨lines', stock', ns, _, _, rfl, kp, hB', gr, by omega, ?_, hlr', htp'⟩
      rw [tk, List.filter_append, List.map_append]
      have e1 : [g].filter isEnd = [] := by simp [List.filter, h0]
      rw [e1]
      simpa using pk
    have main : isEnd g = true → ∀ c7, c7 = some (.ref pg) → (tSeq (tIfS (tTru K (tVar 5)) (tAsg (tMt CB "line" (spLine CP CB) (fun _ _ _ => False) (tVar 0) (tCons (tVar 6) (tCons (tUn (rU fun i => .int (-i)) (tOp (rI DivOk fun i j => .int (i.fdiv j)) (tFld K (tVar 7) "area") (tVar 5))) (tCons (tVar 3) tNil)))) (gName 6)) tNext)
        (tDrop (tBM K "list" rAppend (tVar 4) (tCons (tVar 6) tNil)))) ⟨fun σ2 H2 => ∃ lines' stock' ns c6 c7, σ2 = [some (.ref bp), some (.int (i : Nat)), some (.int (j : Nat)), some (.int (k : Nat)), some (.ref lr), some (.int R.a), c6, c7] ∧ Kept ls ll H H2 ∧ BrewAt CP CB ls ll bp H2 lines' stock' ∧ Grow lines stock lines' stock' ∧ stock'.length ≤ stock.length + (q + 1) ∧ Picks stock' ns ((([U, L].take (q + 1)).filter isEnd).map (fitRow R)) ∧ H2 lr = some (.lst (natV ns)) ∧ H2 tp = some (.tup [.int (i : Nat), .int (j : Nat)]), Q, fun _ _ => False, fun _ _ => False⟩
          [some (.ref bp), some (.int (i : Nat)), some (.int (j : Nat)), some (.int (k : Nat)), some (.ref lr), some (.int R.a), some (.int (m : Nat)), c7] H' := fun h1 c7 hc => by
      subst hc
      walk_at "rd"
      refine rd_bne (fun hz => ?_) (fun hz => ?_)
      · walk_at "rd"
        refine rd_mtB (hB'.cls (by decide +kernel) (by decide +kernel)) ?_
        walk_at "rd"
        refine rd_pa T hpg ?_
        walk_at "rd"
        refine rd_I ⟨hz, fR.2.2.mono (by omega)⟩ ?_
        walk_at "rd"
        refine ⟨bp, ls, ll, lines', stock', m, k, -(g.a.fdiv R.a), g, R, 3000, rfl, hB', hm', gr.get hk, fg, fR, (fg.2.2.fdiv _).neg, by omega, by omega, fun H2 lines2 stock2 n q1 q2 q3 q4 q5 q6 => ?_⟩
        exact fin H2 lines2 stock2 n _ q1 q2 q3 q4 (by unfold fitRow; rw [if_pos hz]; exact q5) h1
      · refine rd_next ?_
        refine fin H' lines' stock' m _ (.of (Same.refl _)) hB' .refl (Nat.le_succ _) ?_ h1
        have : fitRow R g = g := by unfold fitRow; rw [if_neg (by omega)]
        rw [this]
        exact hm'
    refine rd_bne (fun hx0 => ?_) (fun hx0 => ?_)
    · have h1 : isEnd g = true := decide_eq_true (Or.inl hx0)
      refine rd_t ?_
      exact main h1 _ rfl
    · walk_at "rd"
      refine rd_py T hpg ?_
      walk_at "rd"
      refine rd_bne (fun hy0 => ?_) (fun hy0 => ?_)
      · have h1 : isEnd g = true := decide_eq_true (Or.inr hy0)
        exact main h1 _ rfl
      · have h1 : isEnd g = false := decide_eq_false (by omega)
        exact skip h1 _
  · rintro σ' H' ⟨lines', stock', ns, c6, c7, rfl, kp, hB', gr, hl, pk, hlr', htp'⟩
    walk_at "rd"
    refine rd_new fun r H3 n3 s3 hr3 => ?_
    exact F H3 lines' stock' ns r lr (kp.trans (.of s3)) (hB'.mono s3) gr hl pk (gr.get hk) nls nll (s3 _ _ hlr') hr3
end
end Wk
namespace Wk
set_option linter.all false
set_option maxRecDepth 100000
set_option maxHeartbeats 4000000
open PySem L2
local macro_rules | `(tactic| walk_at "cy") => `(tactic| first
  | assumption
  | ((with_reducible refine' at_mono (H := ?H) ?s ?h); (case s => assumption); (case h => walk_at "cy"))
  | ((with_reducible refine' PlAt.mono (H := ?H) ?s ?h); (case s => assumption); (case h => walk_at "cy")))
local macro_rules | `(tactic| walk_at "rd1") => `(tactic| first
  | (with_reducible refine' rd_seq ?_) | (with_reducible refine' rd_asg ?_) | (with_reducible refine' rd_par ?_) | (with_reducible refine' rd_ret ?_)
  | (with_reducible refine' rd_ifs ?_) | (with_reducible refine' rd_drop ?_) | (with_reducible refine' rd_next ?_) | (with_reducible refine' rd_asgG ?_)
  | ((with_reducible refine' rd_var (v := ?v) ?e ?h); (case e => exact rfl)) | (with_reducible refine' rd_c ?_) | (with_reducible refine' rd_op ?_) | (with_reducible refine' rd_un ?_)
  | (with_reducible refine' rd_cb ?_) | (with_reducible refine' rd_cons ?_) | (with_reducible refine' rd_nil ?_)
  | (with_reducible refine' rd_I0 ?_) | (with_reducible refine' rd_U ?_) | (with_reducible refine' rd_eqI ?_) | (with_reducible refine' rd_neI ?_)
  | (with_reducible refine' rd_test ?_) | (with_reducible refine' rd_bl ?_) | (with_reducible refine' rd_not ?_) | (with_reducible refine' rd_and ?_) | (with_reducible refine' rd_or ?_)
  | (with_reducible refine' rd_t ?_) | (with_reducible refine' rd_f ?_) | (with_reducible refine' rd_nt ?_) | (with_reducible refine' rd_nf ?_)
  | (with_reducible refine' rd_andV ?_) | (with_reducible refine' rd_orV ?_) | (with_reducible refine' rd_notV ?_) | (with_reducible refine' rd_B ?_) | (with_reducible refine' rd_forR1 ?_) | (with_reducible refine' rd_forR2 ?_) | (with_reducible refine' rd_for ?_) | (with_reducible refine' rd_iT ?_) | (with_reducible refine' rd_iL ?_) | (with_reducible refine' rd_lc ?_)
  | (with_reducible refine' rd_if ?_) | (with_reducible refine' rd_isNr ?_) | (with_reducible refine' rd_isN0 ?_) | (with_reducible refine' rd_notNr ?_) | (with_reducible refine' rd_notN0 ?_) | (with_reducible refine' rd_abs ?_) | ((with_reducible refine' rd_lenL (xs := ?xs) ?f ?h); (case f => walk_at "cy")) | ((with_reducible refine' rd_lenT (xs := ?xs) ?f ?h); (case f => walk_at "cy")) | (with_reducible refine' rd_mt ?_) | (with_reducible refine' rd_bm ?_) | (with_reducible refine' rd_tru ?_) | (with_reducible refine' rd_truInt ?_) | (with_reducible refine' rd_fld ?_)
  | ((with_reducible refine' rd_ixT (xs := ?xs) (v := ?v) ?f ?e ?h); (case f => walk_at "cy"); (case e => exact rfl))
  | ((with_reducible refine' rd_ixL (xs := ?xs) (v := ?v) ?f ?e ?h); (case f => walk_at "cy"); (case e => exact rfl))
  | ((with_reducible refine' rd_gtup (xs := ?xs) ?f ?e ?h); (case f => walk_at "cy"); (case e => exact rfl))
  | (with_reducible refine' rd_gcons ?_) | (with_reducible refine' rd_gnil ?_) | (with_reducible refine' rd_gname ?_))
local macro_rules | `(tactic| walk_at "rd") => `(tactic| repeat walk_at "rd1")
local macro_rules | `(tactic| walk_at "cy") => `(tactic| first
  | assumption
  | ((with_reducible refine' at_mono (H := ?H) ?s ?h); (case s => assumption); (case h => walk_at "cy"))
  | ((with_reducible refine' T2.mono (H := ?H) ?s ?h); (case s => assumption); (case h => walk_at "cy"))
  | ((with_reducible refine' PlAt.mono (H := ?H) ?s ?h); (case s => assumption); (case h => walk_at "cy"))
  | ((with_reducible refine' Pls.mono (H := ?H) ?s ?h); (case s => assumption); (case h => walk_at "cy")))
section
variable {P : Program} {w : World} {K : PySem.W.Frag} {mg : Str → Option Value} {base : Heap} {CP CB CT CE : Addr}
abbrev s_gathered : Stmt := top 33
def N_gathered : List Str := ["brew", "many", "upper", "lower", "number", "rest", "tall", "wide", "homes", "root"]
theorem sc_gathered : FnScope ["brew", "many", "upper", "lower", "number", "rest", "tall", "wide", "homes", "root"] ["brew", "many"] (defScope s_gathered) := ⟨rfl, rfl, rfl, by decide +kernel, rfl, by decide +kernel, by decide +kernel⟩
/-- the brew's lists are no others -/
theorem BrewAt.ne_new {ls ll bp D : Addr} {H : Hp} {lines : List Ln} {stock : List Pl} (h : BrewAt CP CB ls ll bp H lines stock) (n : H D = none) : D ≠ ls ∧ D ≠ ll := by
  obtain ⟨xs, a, _⟩ := h.st
  obtain ⟨ys, b, _⟩ := h.ln
  exact ⟨fun e => (by rw [e, a] at n; cases n), fun e => (by rw [e, b] at n; cases n)⟩
theorem BrewAt.ne_tup {ls ll bp D : Addr} {H : Hp} {lines : List Ln} {stock : List Pl} {xs : List V} (h : BrewAt CP CB ls ll bp H lines stock) (n : H D = some (.tup xs)) : D ≠ ls ∧ D ≠ ll := by
  obtain ⟨xs, a, _⟩ := h.st
  obtain ⟨ys, b, _⟩ := h.ln
  exact ⟨ne_of n a (by intro z; cases z), ne_of n b (by intro z; cases z)⟩
theorem rd_seqJ {t u : TS} {N : L2.St → Hp → Prop} {R : VK} {B C : L2.St → Hp → Prop} {σ : L2.St} {H : Hp} (W : L2.St → Hp → Prop) (h : ∀ N', (∀ σ' H', W σ' H' → N' σ' H') → t ⟨N', R, B, C⟩ σ H) (k : ∀ σ' H', W σ' H' → u ⟨N, R, B, C⟩ σ' H') : tSeq t u ⟨N, R, B, C⟩ σ H := h _ k
theorem right_idx {prt : Pl → Int} (hinv : ∀ g : Pl, prt g.inv = 0 → prt g = 0) (hh : prt home = 0) {stock : List Pl} {i n : Nat} {U U1 : Pl} (h0 : stock[0]? = some home) (hi : stock[i]? = some U) (z : i = 0 ∨ prt U ≠ 0) (r : Right prt U U1) (q : prt U < 0 ∧ 0 < n ∨ 0 ≤ prt U ∧ n = i) : ((n : Nat) : Int) ≠ 0 ↔ prt U1 ≠ 0 := by
  rcases q with ⟨a, b⟩ | ⟨a, b⟩
  · rcases r with ⟨_, rfl⟩ | ⟨c, _⟩
    · exact ⟨fun _ e => by have := hinv _ e; omega, fun _ => by omega⟩
    · omega
  · rcases r with ⟨c, _⟩ | ⟨_, rfl⟩
    · omega
    · subst b
      constructor
      · intro h
        rcases z with z | z
        · omega
        · exact z
      · intro h e
        have : n = 0 := by omega
        subst this
        rw [h0] at hi
        cases hi
        exact h hh
theorem fp_line {k : Nat} {g h : Pl} {t : Int} (fg : FP k g) (fh : FP k h) (ft : Fits k t) : FP (5 * k + 10) (g.mul (h.pow t)) := by
  refine ⟨?_, ?_, ?_⟩
  · exact (fg.1.mono (by omega : k ≤ 5 * k + 9)).add (ft.mul fh.1 (k := 5 * k + 9) (by omega)) (by omega) (by omega)
  · exact (fg.2.1.mono (by omega : k ≤ 5 * k + 9)).add (ft.mul fh.2.1 (k := 5 * k + 9) (by omega)) (by omega) (by omega)
  · simp only [Pl.mul, Pl.pow]
    have f1 : Fits (5 * k + 6) (t * h.a) := ft.mul fh.2.2 (by omega)
    have f2 : Fits (5 * k + 6) (tri t * h.x * h.y) := ((fits_tri ft).mul fh.1 (k := 3 * k + 2) (by omega)).mul fh.2.1 (by omega)
    have f3 : Fits (5 * k + 6) (g.x * (t * h.y)) := fg.1.mul (ft.mul fh.2.1 (k := 2 * k) (by omega)) (by omega)
    exact ((fg.2.2.mono (by omega : k ≤ 5 * k + 8)).add (f1.add f2 (k := 5 * k + 7) (by omega) (by omega)) (k := 5 * k + 9) (by omega) (by omega)).add f3 (by omega) (by omega)
/-- a state while the middles are gathered -/
structure HomeSt (CP CB ls ll bp : Addr) (told : List Pl) (H : Hp) (iu il : Nat) (U L : Pl) (hl : Addr) (gs : List Pl) (lim : Nat) (H' : Hp) (lines : List Ln) (stock : List Pl) (ns : List Nat) : Prop where
  kp : Kept ls ll H H'
  br : BrewAt CP CB ls ll bp H' lines stock
  gr : Grow [] (home :: told) lines stock
  len : stock.length ≤ lim
  u : stock[iu]? = some U
  l : stock[il]? = some L
  pk : Picks stock ns gs
  hl : H' hl = some (.lst (natV ns))
theorem HomeSt.step {ls ll bp hl : Addr} {told : List Pl} {H : Hp} {iu il : Nat} {U L : Pl} {gs : List Pl} {lim : Nat} {H1 H2 : Hp} {lines lines2 : List Ln} {stock stock2 : List Pl} {ns : List Nat} (S : HomeSt CP CB ls ll bp told H iu il U L hl gs lim H1 lines stock ns) (nh : hl ≠ ls ∧ hl ≠ ll)
    (q1 : Kept ls ll H1 H2) (q2 : BrewAt CP CB ls ll bp H2 lines2 stock2) (q3 : Grow lines stock lines2 stock2) {n : Nat} (q4 : stock2.length ≤ stock.length + n) : HomeSt CP CB ls ll bp told H iu il U L hl gs (lim + n) H2 lines2 stock2 ns :=
  ⟨S.kp.trans q1, q2, S.gr.trans q3, Nat.le_trans q4 (Nat.add_le_add_right S.len n), q3.get S.u, q3.get S.l, S.pk.grow q3, q1 _ _ nh.1 nh.2 S.hl⟩
theorem HomeSt.app {ls ll bp hl : Addr} {told : List Pl} {H : Hp} {iu il : Nat} {U L : Pl} {gs : List Pl} {lim : Nat} {H1 H2 : Hp} {lines : List Ln} {stock : List Pl} {ns : List Nat} (S : HomeSt CP CB ls ll bp told H iu il U L hl gs lim H1 lines stock ns) (nh : hl ≠ ls ∧ hl ≠ ll) (h0 : H hl = none)
    {n : Nat} {g : Pl} (e : stock[n]? = some g) (s : SameB hl H1 H2) (h2 : H2 hl = some (.lst (natV ns ++ [.int (n : Nat)]))) : HomeSt CP CB ls ll bp told H iu il U L hl (gs ++ [g]) lim H2 lines stock (ns ++ [n]) :=
  ⟨fun b o h1 h2 e => s _ _ (ne_of_none e h0) (S.kp _ _ h1 h2 e), S.br.monoB S.hl nh.1 nh.2 s, S.gr, S.len, S.u, S.l, S.pk.snoc e, by rw [← natV_snoc]; exact h2⟩
def spGathered (CP CB : Addr) : Sp := fun vs H Q _ => ∃ (bp ls ll : Addr) (told : List Pl), vs = [.ref bp, .int (told.length : Nat)] ∧ BrewAt CP CB ls ll bp H [] (home :: told) ∧ told.length ≤ 5 ∧ (∀ g ∈ told, ToldB g) ∧
  ∀ H' lines' stock' U L R ns k r lr, Kept ls ll H H' → BrewAt CP CB ls ll bp H' lines' stock' → Grow [] (home :: told) lines' stock' → stock'.length ≤ 50000 → G4 told U L R → Picks stock' ns (tbOf U L R).rows → stock'[k]? = some R → lr ≠ ls → lr ≠ ll → H' lr = some (.lst (natV ns)) → H' r = some (.tup [.ref lr, .int (k : Nat)]) → Q (.ref r) H'
theorem ok_gathered (T : Txt K mg CP CB CT CE) : Cal P w K mg base L2.CX0 8 "gathered" (spGathered CP CB) := by
  have g_line := ok_line (P := P) (w := w) (base := base) T
  have g_led_down := ok_led_down (P := P) (w := w) (base := base) T
  have g_put_right := ok_put_right (P := P) (w := w) (base := base) T
  have g_settled := ok_settled (P := P) (w := w) (base := base) T
  obtain ⟨fx, mx, hx⟩ := (ok_x_of (P := P) (w := w) (base := base) T).held
  obtain ⟨fy, my, hy⟩ := (ok_y_of (P := P) (w := w) (base := base) T).held
  obtain ⟨fa, ma, ha⟩ := (ok_area_of (P := P) (w := w) (base := base) T).held
  refine T.f_gathered.cal sc_gathered (fun vs H Q E ⟨bp, ls, ll, told, e, _⟩ => by subst e; rfl) (N := N_gathered) fun f cdv A outer s H vs Q E hr h => ?_
  obtain ⟨bp, ls, ll, told, rfl, hB, h5, hT, F⟩ := h
  refine ⟨_, (pss_cons (ps_asg (tupS (pa_cons pe_int (pa_cons pe_int pa_nil))) (pg_tup rfl (pgs_cons (pg_name (i := 2) sc_gathered.nd rfl (Or.inl rfl)) (pgs_cons (pg_name (i := 3) sc_gathered.nd rfl (Or.inl rfl)) pgs_nil))))
 (pss_cons (ps_for PassesOwn.never rfl (pi_range2 rfl T.n_range (pa_cons pe_int (pa_cons (pe_op op_add (pv 1) pe_int) pa_nil))) (pg_name (i := 4) sc_gathered.nd rfl (Or.inl rfl)) (pss_cons (ps_asg (mthS g_led_down pass0 hr (by decide) (pv 0) (pa_cons (pv 2) (pa_cons (pv 4) (pa_cons (pe_glob (v := .ref fx) rfl mx rfl) pa_nil)))) (pg_tup rfl (pgs_cons (pg_name (i := 2) sc_gathered.nd rfl (Or.inl rfl)) (pgs_cons (pg_name (i := 5) sc_gathered.nd rfl (Or.inl rfl)) pgs_nil))))
 (pss_one (ps_asg (mthS g_led_down pass0 hr (by decide) (pv 0) (pa_cons (pv 3) (pa_cons (pv 5) (pa_cons (pe_glob (v := .ref fy) rfl my rfl) pa_nil)))) (pg_tup rfl (pgs_cons (pg_name (i := 3) sc_gathered.nd rfl (Or.inl rfl)) (pgs_cons (pg_name (i := 5) sc_gathered.nd rfl (Or.inl rfl)) pgs_nil)))))))
 (pss_cons (ps_par (i := 2) (j := 3) rfl sc_gathered.nd rfl rfl (by decide) rfl rfl (pa_cons (calS g_put_right pass0 hr (by decide) (by rfl) (pa_cons (pv 0) (pa_cons (pv 2) (pa_cons (pe_glob (v := .ref fx) rfl mx rfl) pa_nil)))) (pa_cons (calS g_put_right pass0 hr (by decide) (by rfl) (pa_cons (pv 0) (pa_cons (pv 3) (pa_cons (pe_glob (v := .ref fy) rfl my rfl) pa_nil)))) pa_nil)) (by rfl))
 (pss_cons (ps_set (i := 6) sc_gathered.nd rfl (Or.inl rfl) (fldK (K := K) rfl (pe_ix (ixLK (K := K) rfl) (fldK (K := K) rfl (pv 0) rfl) (pv 3) (fun _ _ => rfl)) rfl))
 (pss_cons (ps_if (PW.pt (pw_and (truK (K := K) rfl (pv 2) (by intro _; rfl)) (pw_and1 (truK (K := K) rfl (pv 6) (by intro _; rfl))))) (pss_one (ps_set (i := 2) sc_gathered.nd rfl (Or.inl rfl) (mthS g_line pass0 hr (by decide) (pv 0) (pa_cons (pv 2) (pa_cons (pe_un un_neg (pe_op op_fdX (fldK (K := K) rfl (pe_ix (ixLK (K := K) rfl) (fldK (K := K) rfl (pv 0) rfl) (pv 2) (fun _ _ => rfl)) rfl) (pv 6))) (pa_cons (pv 3) pa_nil)))))) pss_nil)
 (pss_cons (ps_par (i := 7) (j := 8) rfl sc_gathered.nd rfl rfl (by decide) rfl rfl (pa_cons (fldK (K := K) rfl (pe_ix (ixLK (K := K) rfl) (fldK (K := K) rfl (pv 0) rfl) (pv 2) (fun _ _ => rfl)) rfl) (pa_cons (lstS pa_nil) pa_nil)) (by rfl))
 (pss_cons (ps_for PassesOwn.never rfl (pi_range2 rfl T.n_range (pa_cons pe_int (pa_cons (pe_op op_add (pv 1) pe_int) pa_nil))) (pg_name (i := 4) sc_gathered.nd rfl (Or.inl rfl)) (pss_cons (ps_set (i := 5) sc_gathered.nd rfl (Or.inl rfl) (pv 4))
 (pss_cons (ps_if (truK (K := K) rfl (pv 7) (by intro _; rfl)) (pss_one (ps_set (i := 5) sc_gathered.nd rfl (Or.inl rfl) (mthS g_line pass0 hr (by decide) (pv 0) (pa_cons (pv 5) (pa_cons (pe_un un_neg (pe_op op_fdX (fldK (K := K) rfl (pe_ix (ixLK (K := K) rfl) (fldK (K := K) rfl (pv 0) rfl) (pv 5) (fun _ _ => rfl)) rfl) (pv 7))) (pa_cons (pv 2) pa_nil)))))) pss_nil)
 (pss_cons (ps_if (truK (K := K) rfl (pv 6) (by intro _; rfl)) (pss_one (ps_set (i := 5) sc_gathered.nd rfl (Or.inl rfl) (mthS g_line pass0 hr (by decide) (pv 0) (pa_cons (pv 5) (pa_cons (pe_un un_neg (pe_op op_fdX (fldK (K := K) rfl (pe_ix (ixLK (K := K) rfl) (fldK (K := K) rfl (pv 0) rfl) (pv 5) (fun _ _ => rfl)) rfl) (pv 6))) (pa_cons (pv 3) pa_nil)))))) pss_nil)
 (pss_one (ps_expr (pe_bm PySem.F.plainAttrs_list PySem.F.slot_list_append PySem.F.type_list_append mt_append (pv 8) (pa_cons (pv 5) pa_nil))))))))
 (pss_cons (ps_if (PW.pt (pw_and (truK (K := K) rfl (pv 7) (by intro _; rfl)) (pw_and1 (truK (K := K) rfl (pv 6) (by intro _; rfl))))) (pss_one (ps_expr (pe_bm PySem.F.plainAttrs_list PySem.F.slot_list_append PySem.F.type_list_append mt_append (pv 8) (pa_cons (mthS g_line pass0 hr (by decide) (pv 0) (pa_cons (mthS g_line pass0 hr (by decide) (pv 0) (pa_cons (mthS g_line pass0 hr (by decide) (pv 0) (pa_cons (pv 2) (pa_cons pe_int (pa_cons (pv 3) pa_nil)))) (pa_cons (pe_un un_neg pe_int) (pa_cons (pv 2) pa_nil)))) (pa_cons (pe_un un_neg pe_int) (pa_cons (pv 3) pa_nil)))) pa_nil)))) pss_nil)
 (pss_cons (ps_set (i := 9) sc_gathered.nd rfl (Or.inl rfl) pe_int)
 (pss_cons (ps_for PassesOwn.never rfl (piL (K := K) rfl (pv 8)) (pg_name (i := 4) sc_gathered.nd rfl (Or.inl rfl)) (pss_one (ps_asg (mthS g_led_down pass0 hr (by decide) (pv 0) (pa_cons (pv 9) (pa_cons (pv 4) (pa_cons (pe_glob (v := .ref fa) rfl ma rfl) pa_nil)))) (pg_tup rfl (pgs_cons (pg_name (i := 9) sc_gathered.nd rfl (Or.inl rfl)) (pgs_cons (pg_name (i := 5) sc_gathered.nd rfl (Or.inl rfl)) pgs_nil))))))
 (pss_one (ps_ret (calS g_settled pass0 hr (by decide) (by rfl) (pa_cons (pv 0) (pa_cons (pv 2) (pa_cons (pv 3) (pa_cons (calS g_put_right pass0 hr (by decide) (by rfl) (pa_cons (pv 0) (pa_cons (pv 9) (pa_cons (pe_glob (v := .ref fa) rfl ma rfl) pa_nil)))) pa_nil))))))))))))))))), ?_⟩
  walk_at "rd"
  refine rd_new fun tz H1 n1 s1 htz => ?_
  walk_at "rd"
  replace hB := hB.mono s1
  refine ⟨1, (told.length : Int) + 1, rfl, ⟨by decide, by decide, by omega, by omega⟩, ?_⟩
  refine rd_rng (fun i σ' H' => ∃ lines stock U L c4 c5, ∃ iu il : Nat, σ' = [some (.ref bp), some (.int (told.length : Nat)), some (.int (iu : Nat)), some (.int (il : Nat)), c4, c5, none, none, none, none] ∧ Kept ls ll H H' ∧ BrewAt CP CB ls ll bp H' lines stock ∧ Grow [] (home :: told) lines stock ∧ stock.length ≤ 6 + 832 * i ∧
      G1 told i U L ∧ stock[iu]? = some U ∧ stock[il]? = some L ∧ (iu = 0 ∨ U.x ≠ 0) ∧ (il = 0 ∨ L.y ≠ 0))
    ⟨[], home :: told, home, home, none, none, 0, 0, rfl, .of s1, hB, .refl, by rw [List.length_cons]; omega, G1.start, rfl, rfl, .inl rfl, .inl rfl⟩ ?_ ?_
  · rintro i σ' H' hi ⟨lines, stock, U, L, c4, c5, iu, il, rfl, kp, hB', gr, hl, I, hiu, hil, zu, zl⟩
    have hi5 : i < told.length := by omega
    obtain ⟨g, hg⟩ : ∃ g, told[i]? = some g := ⟨told[i], List.getElem?_eq_getElem hi5⟩
    have hgi : stock[i + 1]? = some g := gr.get (i := i + 1) (show (home :: told)[i + 1]? = some g from hg)
    have tb := hT g (List.mem_of_getElem? hg)
    rw [show (1 + (i : Int)) = ((i + 1 : Nat) : Int) by omega]
    walk_at "rd"
    refine rd_mtB (hB'.cls (by decide +kernel) (by decide +kernel)) ?_
    walk_at "rd"
    refine ⟨bp, ls, ll, fx, lines, stock, iu, i + 1, U, g, Pl.x, 116, rfl, hx, hB', hiu, hgi, I.led (by omega) tb, by omega, fun H2 lines2 stock2 iu2 ir n U2 R r q1 q2 q3 q4 q5 q6 q7 q8 q9 q10 => ?_⟩
    walk_at "rd"
    refine rd_mtB (q2.cls (by decide +kernel) (by decide +kernel)) ?_
    walk_at "rd"
    refine ⟨bp, ls, ll, fy, lines2, stock2, il, ir, L, R, Pl.y, 716, rfl, hy, q2, q3.get hil, q8, I.led2 (by omega) tb q5 q6, by omega, fun H3 lines3 stock3 il2 iz m L2 Z r2 p1 p2 p3 p4 p5 p6 p7 p8 p9 p10 => ?_⟩
    walk_at "rd"
    refine ⟨lines3, stock3, U2, L2, _, _, iu2, il2, rfl, (kp.trans q1).trans p1, p2, (gr.trans q3).trans p3, by omega, I.next (by omega) tb hg q5 q6 p5 p6, p3.get q7, p7, ?_, ?_⟩
    · rcases led_zero q5 lin_x with ⟨h0, h1, _⟩ | h0
      · rw [(q9 h0).1, h1]; exact zu
      · exact .inr h0
    · rcases led_zero p5 lin_y with ⟨h0, h1, _⟩ | h0
      · rw [(p9 h0).1, h1]; exact zl
      · exact .inr h0
  · rintro σ' H' ⟨lines, stock, U, L, c4, c5, iu, il, rfl, kp, hB', gr, hl, I, hiu, hil, zu, zl⟩
    have ne : ((told.length : Int) + 1 - 1).toNat = told.length := by omega
    rw [ne] at I hl
    have h0 : stock[0]? = some home := gr.get (i := 0) rfl
    have hU : U = home ∨ U.x ≠ 0 := zu.imp (fun h => by rw [h, h0] at hiu; exact (Option.some.inj hiu).symm) id
    have hL : L = home ∨ L.y ≠ 0 := zl.imp (fun h => by rw [h, h0] at hil; exact (Option.some.inj hil).symm) id
    have fU : FP 3000 U := ⟨I.fx.mono (by omega), I.fy.mono (by omega), (area_of_bent (I.fb.mono (by omega : _ ≤ 500)) (I.fx.mul I.fy (by omega))).mono (by omega)⟩
    have fL : FP 3000 L := ⟨by rw [I.lx]; exact .zero, I.ly.mono (by omega), I.la.mono (by omega)⟩
    walk_at "rd"
    refine ⟨bp, ls, ll, fx, lines, stock, iu, U, Pl.x, rfl, hx, hB', h0, hiu, fU, by omega, fun H2 lines2 stock2 iu1 U1 q1 q2 q3 q4 rU q6 q7 => ?_⟩
    walk_at "rd"
    refine ⟨bp, ls, ll, fy, lines2, stock2, il, L, Pl.y, rfl, hy, q2, q3.get h0, q3.get hil, fL, by omega, fun H3 lines3 stock3 il1 L1 p1 p2 p3 p4 rL p6 p7 => ?_⟩
    walk_at "rd"
    refine rd_stock T p2 ?_
    walk_at "rd"
    refine rd_stk p2 p6 fun pL hpL => ?_
    refine rd_py T hpL ?_
    obtain ⟨G, fU1, fL1, ft, p0, s0⟩ := I.done h5 hU hL rU rL
    have zu1 : ((iu1 : Nat) : Int) ≠ 0 ↔ U1.x ≠ 0 := right_idx (prt := Pl.x) (fun g h => by have h : -g.x = 0 := h; omega) rfl h0 hiu zu rU q7
    have zl1 : ((il1 : Nat) : Int) ≠ 0 ↔ L1.y ≠ 0 := right_idx (prt := Pl.y) (fun g h => by have h : -g.y = 0 := h; omega) rfl (q3.get h0) (q3.get hil) zl rL p7
    have zu' := q3.get hiu
    refine rd_seqJ (fun σ' H' => ∃ lines stock, ∃ iu : Nat, σ' = [some (.ref bp), some (.int (told.length : Nat)), some (.int (iu : Nat)), some (.int (il1 : Nat)), c4, c5, some (.int L1.y), none, none, none] ∧ Kept ls ll H H' ∧ BrewAt CP CB ls ll bp H' lines stock ∧ Grow [] (home :: told) lines stock ∧ stock.length ≤ 5000 ∧
      stock[iu]? = some (upr U1 L1) ∧ stock[il1]? = some L1) (fun N' hN' => ?_) ?_
    · have hU1 := p3.get q6
      have hno : ¬ (U1.x ≠ 0 ∧ L1.y ≠ 0) → N' (([some (.ref bp), some (.int (told.length : Nat)), some (.int (iu1 : Nat)), some (.int (il1 : Nat)), c4, c5, some (.int L1.y), none, none, none])) H3 := fun hn =>
        hN' _ _ ⟨lines3, stock3, iu1, rfl, (kp.trans q1).trans p1, p2, (gr.trans q3).trans p3, by omega, by unfold upr; rw [if_neg hn]; exact hU1, p6⟩
      walk_at "rd"
      refine rd_bne (fun hz => ?_) (fun hz => ?_)
      · walk_at "rd"
        refine rd_bne (fun hw => ?_) (fun hw => ?_)
        · walk_at "rd"
          refine rd_mtB (p2.cls (by decide +kernel) (by decide +kernel)) ?_
          walk_at "rd"
          refine rd_stock T p2 ?_
          walk_at "rd"
          refine rd_stk p2 hU1 fun pU hpU => ?_
          refine rd_py T hpU ?_
          walk_at "rd"
          refine rd_I ⟨hw, fL1.2.1.mono (by omega)⟩ ?_
          walk_at "rd"
          refine ⟨bp, ls, ll, lines3, stock3, iu1, il1, -(U1.y.fdiv L1.y), U1, L1, 3000, rfl, p2, hU1, p6, fU1, fL1, ft.neg.mono (by omega), by omega, by omega, fun H4 lines4 stock4 n t1 t2 t3 t4 t5 t6 => ?_⟩
          exact hN' _ _ ⟨lines4, stock4, n, rfl, ((kp.trans q1).trans p1).trans t1, t2, ((gr.trans q3).trans p3).trans t3, by omega, by unfold upr; rw [if_pos ⟨zu1.mp hz, hw⟩]; exact t5, t3.get p6⟩
        · refine rd_next ?_
          exact hno fun z => z.2 hw
      · refine rd_f ?_
        refine rd_next ?_
        exact hno fun z => (zu1.mpr z.1) hz
    clear zu1 zl1 zu' hU hL fU fL fU1 fL1 ft p0 s0 rU rL q7 p7
    rintro σ' H' ⟨lines, stock, iu, rfl, kp, hB', gr, hl, hiu, hil⟩
    obtain ⟨U2, hU2⟩ : ∃ U2, U2 = upr U1 L1 := ⟨_, rfl⟩
    rw [← hU2] at hiu G
    clear hU2 q1 q2 q3 q4 q6 p1 p2 p3 p4 p6
    walk_at "rd"
    refine rd_stock T hB' ?_
    walk_at "rd"
    refine rd_stk hB' hiu fun pU hpU => ?_
    refine rd_px T hpU ?_
    walk_at "rd"
    refine rd_newL fun hl H4 n4 s4 hhl => ?_
    walk_at "rd"
    have nh := hB'.ne_new n4
    have h0 : H hl = none := by
      cases e : H hl with
      | none => rfl
      | some o => rw [kp _ _ nh.1 nh.2 e] at n4; cases n4
    refine ⟨1, (told.length : Int) + 1, rfl, ⟨by decide, by decide, by omega, by omega⟩, ?_⟩
    refine rd_rng (fun i σ' H' => ∃ lines stock ns c4 c5, σ' = [some (.ref bp), some (.int (told.length : Nat)), some (.int (iu : Nat)), some (.int (il1 : Nat)), c4, c5, some (.int L1.y), some (.int U2.x), some (.ref hl), none] ∧ HomeSt CP CB ls ll bp told H iu il1 U2 L1 hl ((told.take i).map (hm U2 L1)) (5000 + 2 * i) H' lines stock ns)
      ⟨lines, stock, [], c4, c5, rfl, kp.trans (.of s4), hB'.mono s4, gr, by omega, hiu, hil, .nil, hhl⟩ ?_ ?_
    · rintro i σ' H' hi ⟨lines, stock, ns, c4, c5, rfl, S⟩
      have hi5 : i < told.length := by omega
      obtain ⟨g, hg⟩ : ∃ g, told[i]? = some g := ⟨told[i], List.getElem?_eq_getElem hi5⟩
      have hmem := List.mem_of_getElem? hg
      have tb := hT g hmem
      have hgi : stock[i + 1]? = some g := S.gr.get (i := i + 1) (show (home :: told)[i + 1]? = some g from hg)
      rw [show (1 + (i : Int)) = ((i + 1 : Nat) : Int) by omega]
      have ln := S.len
      refine rd_gname ?_
      refine rd_seq (rd_asg (rd_var rfl ?_))
      refine rd_seqJ (fun σ' H' => ∃ lines stock, ∃ ir : Nat, σ' = [some (.ref bp), some (.int (told.length : Nat)), some (.int (iu : Nat)), some (.int (il1 : Nat)), some (.int ((i + 1 : Nat) : Int)), some (.int (ir : Nat)), some (.int L1.y), some (.int U2.x), some (.ref hl), none] ∧ HomeSt CP CB ls ll bp told H iu il1 U2 L1 hl ((told.take i).map (hm U2 L1)) (5000 + 2 * i + 1) H' lines stock ns ∧ stock[ir]? = some (hm1 U2 g)) (fun N' hN' => ?_) ?_
      · walk_at "rd"
        refine rd_bne (fun hz => ?_) (fun hz => ?_)
        · walk_at "rd"
          refine rd_mtB (S.br.cls (by decide +kernel) (by decide +kernel)) ?_
          walk_at "rd"
          refine rd_stock T S.br ?_
          walk_at "rd"
          refine rd_stk S.br hgi fun pg hpg => ?_
          refine rd_px T hpg ?_
          walk_at "rd"
          refine rd_I ⟨hz, G.fx.mono (by omega)⟩ ?_
          walk_at "rd"
          refine ⟨bp, ls, ll, lines, stock, i + 1, iu, -(g.x.fdiv U2.x), g, U2, 3000, rfl, S.br, hgi, S.u, ⟨tb.x.mono (by omega), tb.y.mono (by omega), tb.a.mono (by omega)⟩, G.fpU, (tb.x.fdiv _).neg.mono (by omega), by omega, by omega, fun H5 lines5 stock5 n t1 t2 t3 t4 t5 t6 => ?_⟩
          exact hN' _ _ ⟨lines5, stock5, n, rfl, S.step nh t1 t2 t3 t4, by unfold hm1; rw [if_pos hz]; exact t5⟩
        · refine rd_next ?_
          exact hN' _ _ ⟨lines, stock, i + 1, rfl, S.step nh (.of (Same.refl _)) S.br .refl (Nat.le_succ _), by unfold hm1; rw [if_neg (by omega)]; exact hgi⟩
      · rintro σ' H5 ⟨lines, stock, ir, rfl, S, hir⟩
        obtain ⟨e1, e2, e3⟩ := G.fp1 hmem tb
        have ln := S.len
        refine rd_seqJ (fun σ' H' => ∃ lines stock, ∃ ir : Nat, σ' = [some (.ref bp), some (.int (told.length : Nat)), some (.int (iu : Nat)), some (.int (il1 : Nat)), some (.int ((i + 1 : Nat) : Int)), some (.int (ir : Nat)), some (.int L1.y), some (.int U2.x), some (.ref hl), none] ∧ HomeSt CP CB ls ll bp told H iu il1 U2 L1 hl ((told.take i).map (hm U2 L1)) (5000 + 2 * i + 1 + 1) H' lines stock ns ∧ stock[ir]? = some (hm U2 L1 g)) (fun N' hN' => ?_) ?_
        · walk_at "rd"
          refine rd_bne (fun hz => ?_) (fun hz => ?_)
          · walk_at "rd"
            refine rd_mtB (S.br.cls (by decide +kernel) (by decide +kernel)) ?_
            walk_at "rd"
            refine rd_stock T S.br ?_
            walk_at "rd"
            refine rd_stk S.br hir fun pg hpg => ?_
            refine rd_py T hpg ?_
            walk_at "rd"
            refine rd_I ⟨hz, G.fs.mono (by omega)⟩ ?_
            walk_at "rd"
            refine ⟨bp, ls, ll, lines, stock, ir, il1, -((hm1 U2 g).y.fdiv L1.y), hm1 U2 g, L1, 3000, rfl, S.br, hir, S.l, ⟨by rw [e1]; exact .zero, e2.mono (by omega), e3.mono (by omega)⟩, G.fpL, (e2.fdiv _).neg.mono (by omega), by omega, by omega, fun H5 lines5 stock5 n t1 t2 t3 t4 t5 t6 => ?_⟩
            exact hN' _ _ ⟨lines5, stock5, n, rfl, S.step nh t1 t2 t3 t4, by unfold hm hm2; rw [if_pos hz]; exact t5⟩
          · refine rd_next ?_
            exact hN' _ _ ⟨lines, stock, ir, rfl, S.step nh (.of (Same.refl _)) S.br .refl (Nat.le_succ _), by unfold hm hm2; rw [if_neg (by omega)]; exact hir⟩
        · rintro σ' H6 ⟨lines, stock, ir, rfl, S, hir⟩
          walk_at "rd"
          refine rd_bmL S.hl ?_
          walk_at "rd"
          have bn : (natV ns).length < 100000 := by rw [natV_len, S.pk.1, List.length_map, List.length_take]; omega
          refine rd_append S.hl bn fun H7 s7 hlr3 => ?_
          walk_at "rd"
          have S' := S.app nh h0 hir s7 hlr3
          have e4 : (told.take i).map (hm U2 L1) ++ [hm U2 L1 g] = (told.take (i + 1)).map (hm U2 L1) := by rw [List.take_succ, hg, List.map_append]; rfl
          rw [e4] at S'
          exact ⟨lines, stock, ns ++ [ir], _, _, rfl, S'⟩
    · rintro σ' H' ⟨lines, stock, ns, c4, c5, rfl, S⟩
      have ne2 : ((told.length : Int) + 1 - 1).toNat = told.length := by omega
      rw [ne2, List.take_length] at S
      have ln := S.len
      refine rd_seqJ (fun σ' H' => ∃ lines stock ns, σ' = [some (.ref bp), some (.int (told.length : Nat)), some (.int (iu : Nat)), some (.int (il1 : Nat)), c4, c5, some (.int L1.y), some (.int U2.x), some (.ref hl), none] ∧ HomeSt CP CB ls ll bp told H iu il1 U2 L1 hl (homesOf told U2 L1) 5020 H' lines stock ns) (fun N' hN' => ?_) ?_
      · have hno : ¬ (U2.x ≠ 0 ∧ L1.y ≠ 0) → N' [some (.ref bp), some (.int (told.length : Nat)), some (.int (iu : Nat)), some (.int (il1 : Nat)), c4, c5, some (.int L1.y), some (.int U2.x), some (.ref hl), none] H' := fun hn =>
          hN' _ _ ⟨lines, stock, ns, rfl, S.kp, S.br, S.gr, by omega, S.u, S.l, by unfold homesOf; rw [if_neg hn, List.append_nil]; exact S.pk, S.hl⟩
        walk_at "rd"
        refine rd_bne (fun hz => ?_) (fun hz => ?_)
        · walk_at "rd"
          refine rd_bne (fun hw => ?_) (fun hw => ?_)
          · walk_at "rd"
            refine rd_bmL S.hl ?_
            walk_at "rd"
            refine rd_mtB (S.br.cls (by decide +kernel) (by decide +kernel)) ?_
            walk_at "rd"
            refine rd_mtB (S.br.cls (by decide +kernel) (by decide +kernel)) ?_
            walk_at "rd"
            refine rd_mtB (S.br.cls (by decide +kernel) (by decide +kernel)) ?_
            walk_at "rd"
            have fa1 := fp_line (t := 1) (k := 3000) G.fpU G.fpL (Fits.one (by decide))
            have fa2 := fp_line (t := -1) fa1 (G.fpU.mono (by omega : 3000 ≤ 5 * 3000 + 10)) (Fits.one (by decide)).neg
            refine ⟨bp, ls, ll, lines, stock, iu, il1, 1, U2, L1, 3000, rfl, S.br, S.u, S.l, G.fpU, G.fpL, Fits.one (by decide), by omega, by omega, fun H5 lines5 stock5 n5 t1 t2 t3 t4 t5 t6 => ?_⟩
            walk_at "rd"
            have S5 := S.step nh t1 t2 t3 t4
            refine ⟨bp, ls, ll, lines5, stock5, n5, iu, -1, _, U2, 5 * 3000 + 10, rfl, t2, t5, S5.u, fa1, G.fpU.mono (by omega), (Fits.one (by decide)).neg, by omega, by omega, fun H6 lines6 stock6 n6 t1 t2 t3 t4 t5 t6 => ?_⟩
            walk_at "rd"
            have S6 := S5.step nh t1 t2 t3 t4
            refine ⟨bp, ls, ll, lines6, stock6, n6, il1, -1, _, L1, 5 * (5 * 3000 + 10) + 10, rfl, t2, t5, S6.l, fa2, G.fpL.mono (by omega), (Fits.one (by decide)).neg, by omega, by omega, fun H7 lines7 stock7 n7 t1 t2 t3 t4 t5 t6 => ?_⟩
            walk_at "rd"
            have S7 := S6.step nh t1 t2 t3 t4
            have bn : (natV ns).length < 100000 := by rw [natV_len, S.pk.1, List.length_map]; omega
            refine rd_append S7.hl bn fun H8 s8 h8 => ?_
            have S8 := S7.app nh h0 (g := meet U2 L1) t5 s8 h8
            exact hN' _ _ ⟨lines7, stock7, _, rfl, S8.kp, S8.br, S8.gr, by have := S8.len; omega, S8.u, S8.l, by unfold homesOf; rw [if_pos ⟨hz, hw⟩]; exact S8.pk, S8.hl⟩
          · refine rd_next ?_
            exact hno fun z => z.2 hw
        · refine rd_f ?_
          refine rd_next ?_
          exact hno fun z => z.1 hz
      · rintro σ' H' ⟨lines, stock, ns, rfl, S⟩
        walk_at "rd"
        have hlen : (homesOf told U2 L1).length ≤ 6 := by
          unfold homesOf
          rw [List.length_append, List.length_map]
          split <;> simp <;> omega
        have nsl : ns.length ≤ 6 := by rw [S.pk.1]; exact hlen
        refine rd_forL S.hl (fun i σ' H' => ∃ lines stock R c4 c5, ∃ ir : Nat, σ' = [some (.ref bp), some (.int (told.length : Nat)), some (.int (iu : Nat)), some (.int (il1 : Nat)), c4, c5, some (.int L1.y), some (.int U2.x), some (.ref hl), some (.int (ir : Nat))] ∧ HomeSt CP CB ls ll bp told H iu il1 U2 L1 hl (homesOf told U2 L1) (5020 + 5462 * i) H' lines stock ns ∧ G3 U2 L1 (homesOf told U2 L1) i R ∧ stock[ir]? = some R)
          ⟨lines, stock, home, c4, c5, 0, rfl, S, .start, S.gr.get (i := 0) rfl⟩ (fun i σ' H' _ h => by obtain ⟨_, _, _, _, _, _, _, S, _⟩ := h; exact S.hl) ?_ ?_
        · rintro i x σ' H' hx ⟨lines, stock, R, c4, c5, ir, rfl, S, I3, hir⟩
          have hi : i < ns.length := by have := (List.getElem?_eq_some_iff.mp hx).1; rwa [natV_len] at this
          obtain ⟨m, hm⟩ : ∃ m, ns[i]? = some m := ⟨ns[i], List.getElem?_eq_getElem hi⟩
          have ex : x = .int (m : Nat) := by unfold natV at hx; rw [List.getElem?_map, hm] at hx; exact (Option.some.inj hx).symm
          subst ex
          obtain ⟨h, eh, em⟩ := S.pk.2 i m hm
          obtain ⟨x0, y0, af⟩ := G.homes_ok hT (List.mem_of_getElem? eh)
          have ln := S.len
          walk_at "rd"
          refine rd_mtB (S.br.cls (by decide +kernel) (by decide +kernel)) ?_
          walk_at "rd"
          refine ⟨bp, ls, ll, fa, lines, stock, ir, m, R, h, Pl.a, 5462, rfl, ha, S.br, hir, em, I3.led x0 y0 af, by omega, fun H2 lines2 stock2 ir2 iz n R2 Z r q1 q2 q3 q4 q5 q6 q7 q8 q9 q10 => ?_⟩
          walk_at "rd"
          exact ⟨lines2, stock2, R2, _, _, ir2, rfl, S.step nh q1 q2 q3 q4, I3.next eh x0 y0 af q5 q6, q7⟩
        · rintro σ' H' ⟨lines, stock, R, c4, c5, ir, rfl, S, I3, hir⟩
          have el : (natV ns).length = (homesOf told U2 L1).length := by rw [natV_len, S.pk.1]
          have ln := S.len
          rw [natV_len] at ln
          rw [el] at I3
          walk_at "rd"
          refine ⟨bp, ls, ll, fa, lines, stock, ir, R, Pl.a, rfl, ha, S.br, S.gr.get (i := 0) rfl, hir, ⟨by rw [I3.x]; exact .zero, by rw [I3.y]; exact .zero, I3.a.mono (by omega)⟩, by omega, fun H2 lines2 stock2 ir1 R1 q1 q2 q3 q4 rR q6 q7 => ?_⟩
          walk_at "rd"
          have I4 := G.done I3 rR
          have S2 := S.step nh q1 q2 q3 q4
          refine ⟨bp, ls, ll, lines2, stock2, iu, il1, ir1, U2, L1, R1, rfl, q2, S2.u, S2.l, q6, G.fpU, G.fpL, ⟨by rw [I4.x]; exact .zero, by rw [I4.y]; exact .zero, I4.fa.mono (by omega)⟩, by omega, fun H3 lines3 stock3 ns r lr p1 p2 p3 p4 p5 p6 p7 p8 p9 p10 => ?_⟩
          walk_at "rd"
          rw [I4.rows] at p5
          exact F H3 lines3 stock3 U2 L1 R1 ns ir1 r lr (S2.kp.trans p1) p2 (S2.gr.trans p3) (by omega) I4 p5 p6 p7 p8 p9 p10
end
end Wk
namespace Wk
set_option linter.all false
set_option maxRecDepth 100000
set_option maxHeartbeats 4000000
open PySem L2
local macro_rules | `(tactic| walk_at "cy") => `(tactic| first
  | assumption
  | ((with_reducible refine' at_mono (H := ?H) ?s ?h); (case s => assumption); (case h => walk_at "cy"))
  | ((with_reducible refine' PlAt.mono (H := ?H) ?s ?h); (case s => assumption); (case h => walk_at "cy")))
local macro_rules | `(tactic| walk_at "rd1") => `(tactic| first
  | (with_reducible refine' rd_seq ?_) | (with_reducible refine' rd_asg ?_) | (with_reducible refine' rd_par ?_) | (with_reducible refine' rd_ret ?_)
  | (with_reducible refine' rd_ifs ?_) | (with_reducible refine' rd_drop ?_) | (with_reducible refine' rd_next ?_) | (with_reducible refine' rd_asgG ?_)
  | ((with_reducible refine' rd_var (v := ?v) ?e ?h); (case e => exact rfl)) | (with_reducible refine' rd_c ?_) | (with_reducible refine' rd_op ?_) | (with_reducible refine' rd_un ?_)
  | (with_reducible refine' rd_cb ?_) | (with_reducible refine' rd_cons ?_) | (with_reducible refine' rd_nil ?_)
  | (with_reducible refine' rd_I0 ?_) | (with_reducible refine' rd_U ?_) | (with_reducible refine' rd_eqI ?_) | (with_reducible refine' rd_neI ?_)
  | (with_reducible refine' rd_test ?_) | (with_reducible refine' rd_bl ?_) | (with_reducible refine' rd_not ?_) | (with_reducible refine' rd_and ?_) | (with_reducible refine' rd_or ?_)
  | (with_reducible refine' rd_t ?_) | (with_reducible refine' rd_f ?_) | (with_reducible refine' rd_nt ?_) | (with_reducible refine' rd_nf ?_)
  | (with_reducible refine' rd_andV ?_) | (with_reducible refine' rd_orV ?_) | (with_reducible refine' rd_notV ?_) | (with_reducible refine' rd_B ?_) | (with_reducible refine' rd_forR1 ?_) | (with_reducible refine' rd_forR2 ?_) | (with_reducible refine' rd_for ?_) | (with_reducible refine' rd_iT ?_) | (with_reducible refine' rd_iL ?_) | (with_reducible refine' rd_lc ?_)
  | (with_reducible refine' rd_if ?_) | (with_reducible refine' rd_isNr ?_) | (with_reducible refine' rd_isN0 ?_) | (with_reducible refine' rd_notNr ?_) | (with_reducible refine' rd_notN0 ?_) | (with_reducible refine' rd_abs ?_) | ((with_reducible refine' rd_lenL (xs := ?xs) ?f ?h); (case f => walk_at "cy")) | ((with_reducible refine' rd_lenT (xs := ?xs) ?f ?h); (case f => walk_at "cy")) | (with_reducible refine' rd_mt ?_) | (with_reducible refine' rd_bm ?_) | (with_reducible refine' rd_tru ?_) | (with_reducible refine' rd_truInt ?_) | (with_reducible refine' rd_fld ?_)
  | ((with_reducible refine' rd_ixT (xs := ?xs) (v := ?v) ?f ?e ?h); (case f => walk_at "cy"); (case e => exact rfl))
  | ((with_reducible refine' rd_ixL (xs := ?xs) (v := ?v) ?f ?e ?h); (case f => walk_at "cy"); (case e => exact rfl))
  | ((with_reducible refine' rd_gtup (xs := ?xs) ?f ?e ?h); (case f => walk_at "cy"); (case e => exact rfl))
  | (with_reducible refine' rd_gcons ?_) | (with_reducible refine' rd_gnil ?_) | (with_reducible refine' rd_gname ?_))
local macro_rules | `(tactic| walk_at "rd") => `(tactic| repeat walk_at "rd1")
local macro_rules | `(tactic| walk_at "cy") => `(tactic| first
  | assumption
  | ((with_reducible refine' at_mono (H := ?H) ?s ?h); (case s => assumption); (case h => walk_at "cy"))
  | ((with_reducible refine' T2.mono (H := ?H) ?s ?h); (case s => assumption); (case h => walk_at "cy"))
  | ((with_reducible refine' PlAt.mono (H := ?H) ?s ?h); (case s => assumption); (case h => walk_at "cy"))
  | ((with_reducible refine' Pls.mono (H := ?H) ?s ?h); (case s => assumption); (case h => walk_at "cy")))
local macro_rules | `(tactic| walk_at "cy") => `(tactic| first
  | assumption
  | ((with_reducible refine' at_mono (H := ?H) ?s ?h); (case s => assumption); (case h => walk_at "cy"))
  | ((with_reducible refine' T2.mono (H := ?H) ?s ?h); (case s => assumption); (case h => walk_at "cy"))
  | ((with_reducible refine' PlAt.mono (H := ?H) ?s ?h); (case s => assumption); (case h => walk_at "cy"))
  | ((with_reducible refine' Pls.mono (H := ?H) ?s ?h); (case s => assumption); (case h => walk_at "cy"))
  | ((with_reducible refine' TbAt.mono (H := ?H) ?s ?h); (case s => assumption); (case h => walk_at "cy"))
  | ((with_reducible refine' Rws.mono (H := ?H) ?s ?h); (case s => assumption); (case h => walk_at "cy")))
section
variable {P : Program} {w : World} {K : PySem.W.Frag} {mg : Str → Option Value} {base : Heap} {CP CB CT CE : Addr}
def rSfd (K : PySem.W.Frag) (f : Str) (N : L2.St → Hp → Prop) (σ : L2.St) (y x : V) (H2 : Hp) : Prop := ∃ a C dx fs, x = .ref a ∧ H2 a = some (.ins C dx fs) ∧ Cls K C ∧ NoAttr K C f ∧ fs.length < 1000 ∧ N σ (upd H2 a (.ins C dx (putF f y fs)))
theorem rd_sfld {K : PySem.W.Frag} {ta tv : TE} {f : Str} {N : L2.St → Hp → Prop} {R : VK} {B C : L2.St → Hp → Prop} {σ : L2.St} {H : Hp} (h : tv σ H fun y H1 => ta σ H1 fun x H2 => rSfd K f N σ y x H2) : sFld K ta tv f ⟨N, R, B, C⟩ σ H := h
abbrev s_Brew_init : Stmt := inClass (top 27) 0
def N_Brew_init : List Str := ["self", "told"]
theorem sc_Brew_init : FnScope ["self", "told"] ["self", "told"] (defScope s_Brew_init) := ⟨rfl, rfl, rfl, by decide +kernel, rfl, by decide +kernel, by decide +kernel⟩
def spBrew (CP CB : Addr) : Sp := fun vs H Q _ => ∃ (p dx tl : Addr) (xs : List V) (told : List Pl), vs = [.ref p, .ref tl] ∧ H p = some (.ins CB dx []) ∧ H tl = some (.lst xs) ∧ Pls CP H xs told ∧ told.length ≤ 100 ∧ ∀ ls ll H', H ls = none → H ll = none → (∀ b o, b ≠ p → H b = some o → H' b = some o) → BrewAt CP CB ls ll p H' [] (home :: told) → Q .non H'
theorem ok_Brew (T : Txt K mg CP CB CT CE) : Mkc P w K mg base L2.CX0 4 "Brew" CB (spBrew CP CB) := by
  have g_Place := ok_Place (P := P) (w := w) (base := base) T
  refine T.k_Brew.mk sc_Brew_init (fun vs H Q E ⟨p, dx, tl, xs, told, h, _⟩ => by subst h; rfl) (N := N_Brew_init) fun f cdv A outer s H vs Q E hr h => ?_
  obtain ⟨p, dx, tl, xs, told, rfl, hp, htl, hpl, b, h⟩ := h
  refine ⟨_, (pss_cons (ps_fld (pv 0) (pe_op op_catS (lstS (pa_cons (mkcS g_Place pass0 hr (by decide) (by rfl) place_new (pa_cons pe_int (pa_cons pe_int (pa_cons pe_int pa_nil)))) pa_nil)) (pe_callTy (listK (K := K) rfl) (by rfl) T.n_list (by decide +kernel) (pa_cons (pv 1) pa_nil))) rfl)
 (pss_one (ps_fld (pv 0) (lstS pa_nil) rfl))), ?_⟩
  walk_at "rd"
  refine rd_sfld ?_
  walk_at "rd"
  refine ⟨0, 0, 0, rfl, fun q H1 n1 s1 hq => ?_⟩
  walk_at "rd"
  refine rd_newL fun l1 H2 n2 s2 hl1 => ?_
  walk_at "rd"
  refine rd_listL (by walk_at "cy") fun l2 H3 n3 s3 hl2 => ?_
  walk_at "rd"
  refine rd_cat (by walk_at "cy") hl2 (by rw [hpl.1]; show 1 + _ ≤ _; omega) fun ls H4 n4 s4 hls => ?_
  walk_at "rd"
  have sA := fun (_ : Unit) => ((s1.trans s2).trans s3).trans s4
  have hp4 := sA () _ _ hp
  refine ⟨p, CB, dx, [], rfl, hp4, T.cl_Brew, T.a_CB_stock, (by show 0 < 1000; decide), ?_⟩
  refine rd_sfld ?_
  walk_at "rd"
  refine rd_newL fun ll H5 n5 s5 hll => ?_
  walk_at "rd"
  have nlp : ls ≠ p := fun e => by rw [e, hp4] at hls; cases hls
  have hp5 := s5 _ _ (show upd H4 p (.ins CB dx (putF "stock" (.ref ls) [])) p = _ from upd_same)
  refine ⟨p, CB, dx, _, rfl, hp5, T.cl_Brew, T.a_CB_lines, (by show 1 < 1000; decide), ?_⟩
  have nlp2 : ll ≠ p := fun e => by rw [e, hp5] at hll; cases hll
  have hls5 : H5 ls = some (.lst ([.ref q] ++ xs)) := s5 _ _ (by rw [upd_ne nlp]; exact hls)
  have nsl : ls ≠ ll := fun e => by rw [e] at hls5; rw [hls5] at hll; cases hll
  have nq : ∀ {r g}, PlAt CP H4 r g → PlAt CP (upd H5 p (.ins CB dx (putF "lines" (.ref ll) (putF "stock" (.ref ls) [])))) r g := fun {r g} h => by
    obtain ⟨d, e⟩ := h
    have ne : r ≠ p := fun z => by
      rw [z, hp4] at e
      cases Option.some.inj e
    exact ⟨d, by rw [upd_ne ne]; exact s5 _ _ (by rw [upd_ne ne]; exact e)⟩
  refine h ls ll _ ?_ ?_ (fun b o hb e => by rw [upd_ne hb]; exact s5 _ _ (by rw [upd_ne hb]; exact sA () _ _ e)) ⟨⟨dx, ?_⟩, nsl, ⟨_, by rw [upd_ne nlp]; exact hls5, ?_⟩, ⟨_, by rw [upd_ne nlp2]; exact hll, ⟨rfl, fun k l e => by simp at e⟩⟩, by simp⟩
  · cases e : H ls with
    | none => rfl
    | some o => rw [s3 _ _ (s2 _ _ (s1 _ _ e))] at n4; cases n4
  · cases e : H ll with
    | none => rfl
    | some o => rw [upd_ne nlp2, sA () _ _ e] at n5; cases n5
  · rw [upd_same]
    have k1 : ¬ (("stock" : Str) = "lines") := by decide +kernel
    simp only [putF, k1, if_false, brF]
  · have hp2 := hpl.mono (sA ())
    refine ⟨by rw [List.length_append, hp2.1]; show 1 + told.length = told.length + 1; omega, fun k g e => ?_⟩
    cases k with
    | zero => cases Option.some.inj e; exact ⟨q, rfl, nq (((hq.mono s2).mono s3).mono s4)⟩
    | succ k =>
      obtain ⟨r, e1, e2⟩ := hp2.2 k g e
      exact ⟨r, e1, nq e2⟩
def rBrew (CP CB : Addr) : List V → Hp → VK → Prop := fun vs H Q => ∃ (tl : Addr) (xs : List V) (told : List Pl), vs = [.ref tl] ∧ H tl = some (.lst xs) ∧ Pls CP H xs told ∧ told.length ≤ 100 ∧ ∀ p ls ll H', H p = none → Same H H' → BrewAt CP CB ls ll p H' [] (home :: told) → H ls = none → H ll = none → Q (.ref p) H'
theorem new_none {H : Hp} {a dx : Addr} {o o' : HO} {b : Addr} (h : upd (upd H dx o) a o' b = none) : H b = none := by
  by_cases h1 : b = a
  · rw [h1, upd_same] at h; cases h
  · rw [upd_ne h1] at h
    by_cases h2 : b = dx
    · rw [h2, upd_same] at h; cases h
    · rwa [upd_ne h2] at h
theorem brew_new {E : XK} : ∀ vs H Q, rBrew CP CB vs H Q → ∀ a dx, H a = none → H dx = none → dx ≠ a → spBrew CP CB (.ref a :: vs) (upd (upd H dx (.own a)) a (.ins CB dx [])) (fun v H2 => v = .non ∧ Q (.ref a) H2) E := fun vs H Q ⟨tl, xs, told, e, h1, h2, h3, h⟩ a dx n1 n2 n3 => by
  subst e
  have sm : Same H (upd (upd H dx (.own a)) a (.ins CB dx [])) := fun b o e => by rw [upd_ne (ne_of_none e n1), upd_ne (ne_of_none e n2)]; exact e
  exact ⟨a, dx, tl, xs, told, rfl, upd_same, sm _ _ h1, h2.mono sm, h3, fun ls ll H' e1 e2 s pl => ⟨rfl, h a ls ll H' n1 (fun b o e => s b o (ne_of_none e n1) (sm _ _ e)) pl (new_none e1) (new_none e2)⟩⟩
abbrev s_Table_init : Stmt := inClass (top 35) 0
def N_Table_init : List Str := ["self", "told", "brew", "rows", "root", "number"]
theorem sc_Table_init : FnScope ["self", "told", "brew", "rows", "root", "number"] ["self", "told"] (defScope s_Table_init) := ⟨rfl, rfl, rfl, by decide +kernel, rfl, by decide +kernel, by decide +kernel⟩
theorem PlAt.monoI {p q dx CT : Addr} {fs : List (Str × V)} {H H' : Hp} {g : Pl} (hp : H p = some (.ins CT dx fs)) (hx : fs.lookup ("x" : Str) = none) (s : SameB p H H') (h : PlAt CP H q g) : PlAt CP H' q g := by
  obtain ⟨d, e⟩ := h
  refine ⟨d, s _ _ (fun z => ?_) e⟩
  rw [z, hp] at e
  injection e with e
  injection e with e1 e2 e3
  rw [e3, plF_x] at hx
  cases hx
/-- while a table is filled -/
structure Fill (CP CB CT ls ll bp p dx lr : Addr) (lines : List Ln) (stock : List Pl) (ns : List Nat) (H : Hp) (fs : List (Str × V)) : Prop where
  ob : H p = some (.ins CT dx fs)
  nx : fs.lookup ("x" : Str) = none
  br : BrewAt CP CB ls ll bp H lines stock
  nb : bp ≠ p
  lr : H lr = some (.lst (natV ns))
theorem Fill.mono {ls ll bp p dx lr : Addr} {lines : List Ln} {stock : List Pl} {ns : List Nat} {H H' : Hp} {fs : List (Str × V)} (s : Same H H') (h : Fill CP CB CT ls ll bp p dx lr lines stock ns H fs) : Fill CP CB CT ls ll bp p dx lr lines stock ns H' fs :=
  ⟨s _ _ h.ob, h.nx, h.br.mono s, h.nb, s _ _ h.lr⟩
theorem Fill.put {ls ll bp p dx lr : Addr} {lines : List Ln} {stock : List Pl} {ns : List Nat} {H : Hp} {fs : List (Str × V)} (h : Fill CP CB CT ls ll bp p dx lr lines stock ns H fs) {f : Str} {y : V} (hf : ¬ (("x" : Str) = f)) :
    Fill CP CB CT ls ll bp p dx lr lines stock ns (upd H p (.ins CT dx (putF f y fs))) (putF f y fs) := by
  have s : SameB p H (upd H p (.ins CT dx (putF f y fs))) := SameB.of
  obtain ⟨xs, a1, a2⟩ := h.br.st
  obtain ⟨ys, b1, b2⟩ := h.br.ln
  obtain ⟨d, c⟩ := h.br.ins
  refine ⟨upd_same, by rw [lookup_putF, if_neg hf]; exact h.nx, ⟨⟨d, s _ _ h.nb c⟩, h.br.ne, ⟨xs, s _ _ (ne_of a1 h.ob (by intro z; cases z)) a1, a2.1, fun k g e => let ⟨q, e1, e2⟩ := a2.2 k g e; ⟨q, e1, e2.monoI h.ob h.nx s⟩⟩,
    ⟨ys, s _ _ (ne_of b1 h.ob (by intro z; cases z)) b1, b2.1, fun k l e => let ⟨q, e1, e2⟩ := b2.2 k l e; ⟨q, e1, s _ _ (ne_of e2 h.ob (by intro z; cases z)) e2⟩⟩, h.br.le⟩, h.nb, s _ _ (ne_of h.lr h.ob (by intro z; cases z)) h.lr⟩
theorem Fill.tup {ls ll bp p dx lr : Addr} {lines : List Ln} {stock : List Pl} {ns : List Nat} {H : Hp} {fs : List (Str × V)} (h : Fill CP CB CT ls ll bp p dx lr lines stock ns H fs) {o : HO} {t : Addr} {xs : List V} (e : H t = some (.tup xs)) : upd H p o t = some (.tup xs) := by
  rw [upd_ne (ne_of e h.ob (by intro z; cases z))]
  exact e
/-- a table with all that it keeps -/
structure TabAt (CP CT : Addr) (H : Hp) (p : Addr) (T : Tb) (told : List Pl) (ta la ra ma : Addr) (xs ys : List V) (ms : List Nat) (lines : List Ln) (stock : List Pl) : Prop where
  ins : ∃ dx, H p = some (.ins CT dx (tbF ta la ra ma T.c))
  led : H la = some (.tup xs)
  rows : Pls CP H xs T.rows
  rcp : H ra = some (.tup ys)
  lns : Lns H ys lines
  mad : H ma = some (.tup (natV ms))
  gr : Grow [] (home :: told) lines stock
  pk : Picks stock ms (T.rows ++ if T.c ≠ 0 then [⟨0, 0, T.c⟩] else [])
  len : stock.length ≤ 50000
theorem TabAt.mono {H H' : Hp} {p : Addr} {T : Tb} {told : List Pl} {ta la ra ma : Addr} {xs ys : List V} {ms : List Nat} {lines : List Ln} {stock : List Pl} (s : Same H H') (h : TabAt CP CT H p T told ta la ra ma xs ys ms lines stock) : TabAt CP CT H' p T told ta la ra ma xs ys ms lines stock :=
  ⟨let ⟨dx, e⟩ := h.ins; ⟨dx, s _ _ e⟩, s _ _ h.led, h.rows.mono s, s _ _ h.rcp, h.lns.mono s, s _ _ h.mad, h.gr, h.pk, h.len⟩
theorem TabAt.tb {H : Hp} {p : Addr} {T : Tb} {told : List Pl} {ta la ra ma : Addr} {xs ys : List V} {ms : List Nat} {lines : List Ln} {stock : List Pl} (h : TabAt CP CT H p T told ta la ra ma xs ys ms lines stock) : TbAt CP CT H p T := let ⟨dx, e⟩ := h.ins; ⟨dx, ta, la, ra, ma, xs, e, h.led, h.rows⟩
structure TabOk (T : Tb) (told : List Pl) : Prop where
  ok : T.Ok
  bd : TbB T
  mem : ∀ g ∈ told, T.Mem g
theorem tab_ok {told : List Pl} {U L R : Pl} (I : G4 told U L R) (hT : ∀ g ∈ told, ToldB g) : TabOk (tbOf U L R) told := by
  obtain ⟨e1, e2, e3⟩ := I.two.ends hT
  have fU := fitRow_is (g := U) I.x I.y I.a0
  have fL := fitRow_is (g := L) I.x I.y I.a0
  have fc : Fits 3000 R.a := I.fa.mono (by omega)
  have row : ∀ g : Pl, Fits 3000 g.a → Fits 3000 (fitRow R g).a := fun g fg => by
    obtain ⟨_, _, _, h⟩ := fitRow_is (g := g) I.x I.y I.a0
    by_cases hz : R.a = 0
    · have : fitRow R g = g := by unfold fitRow; rw [if_neg (by omega)]
      rw [this]
      exact fg
    · have := h (by have := I.a0; omega)
      exact fc.le (by omega)
  refine ⟨I.ok, ⟨e1, e2, e3, ?_, ?_, fc⟩, fun g hg => I.told_mem hg⟩
  · show Fits 3000 (if U.x = 0 then 0 else (fitRow R U).a)
    split
    · exact .zero
    · exact row U I.two.fpU.2.2
  · show Fits 3000 (if L.y = 0 then 0 else (fitRow R L).a)
    split
    · exact .zero
    · exact row L I.two.fpL.2.2
def tbX (CP CB CT : Addr) : Sp := fun vs H Q _ => ∃ (p dx tl : Addr) (xs : List V) (told : List Pl), vs = [.ref p, .ref tl] ∧ H p = some (.ins CT dx []) ∧ H tl = some (.lst xs) ∧ Pls CP H xs told ∧ told.length ≤ 5 ∧ (∀ g ∈ told, ToldB g) ∧ ∀ H' S ta la ra ma xs' ys ms lines stock, (∀ b o, b ≠ p → H b = some o → H' b = some o) → TabAt CP CT H' p S told ta la ra ma xs' ys ms lines stock → TabOk S told → Q .non H'
theorem ok_Table (T : Txt K mg CP CB CT CE) : Mkc P w K mg base L2.CX0 9 "Table" CT (tbX CP CB CT) := by
  have g_Brew := ok_Brew (P := P) (w := w) (base := base) T
  have g_gathered := ok_gathered (P := P) (w := w) (base := base) T
  have g_need_places := ok_need_places (P := P) (w := w) (base := base) T
  refine T.k_Table.mk sc_Table_init (fun vs H Q E ⟨p, dx, tl, xs, told, h, _⟩ => by subst h; rfl) (N := N_Table_init) fun f cdv A outer s H vs Q E hr h => ?_
  obtain ⟨p, dx, tl, xs, told, rfl, hp, htl, hpl, b5, hT, h⟩ := h
  refine ⟨_, (pss_cons (ps_expr (calS g_need_places pass0 hr (by decide) (by rfl) (pa_cons (pv 1) pa_nil)))
 (pss_cons (ps_if (pt_cmpR op_gt (pe_callB (lenK (K := K) rfl) (by rfl) T.n_len (by decide +kernel) (pa_cons (pv 1) pa_nil)) (C8.pe_gc (v := .int 8) rfl T.most) (nomark _)) (pss_one ps_never) pss_nil)
 (pss_cons (ps_set (i := 2) sc_Table_init.nd rfl (Or.inr rfl) (mkcS g_Brew pass0 hr (by decide) (by rfl) brew_new (pa_cons (pv 1) pa_nil)))
 (pss_cons (ps_asg (calS g_gathered pass0 hr (by decide) (by rfl) (pa_cons (pv 2) (pa_cons (pe_callB (lenK (K := K) rfl) (by rfl) T.n_len (by decide +kernel) (pa_cons (pv 1) pa_nil)) pa_nil))) (pg_tup rfl (pgs_cons (pg_name (i := 3) sc_Table_init.nd rfl (Or.inl rfl)) (pgs_cons (pg_name (i := 4) sc_Table_init.nd rfl (Or.inl rfl)) pgs_nil))))
 (pss_cons (ps_fld (pv 0) (pe_callTy (tupK (K := K) rfl) (by rfl) T.n_tuple (by decide +kernel) (pa_cons (pv 1) pa_nil)) rfl)
 (pss_cons (ps_fld (pv 0) (pe_callTy (tupK (K := K) rfl) (by rfl) T.n_tuple (by decide +kernel) (pa_cons (pe_lc (own := [("number", 5)]) (g := gName 5) (tt := tYes) (by rfl) sc_Table_init.nd (piL (K := K) rfl (pv 3)) (blkOk_by (own := [("number", 5)]) (N := N_Table_init) (sc := defScope s_Table_init) (by decide +kernel)) (fun _ _ _ _ _ => pg_name (i := 5) sc_Table_init.nd rfl (Or.inl rfl)) (fun _ _ _ _ _ => pts_nil) (fun _ _ _ _ _ => by exact (pe_ix (ixLK (K := K) rfl) (fldK (K := K) rfl (pv 2) rfl) (pv 5) (fun _ _ => rfl)))) pa_nil)) rfl)
 (pss_cons (ps_fld (pv 0) (fldK (K := K) rfl (pe_ix (ixLK (K := K) rfl) (fldK (K := K) rfl (pv 2) rfl) (pv 4) (fun _ _ => rfl)) rfl) rfl)
 (pss_cons (ps_fld (pv 0) (pe_callTy (tupK (K := K) rfl) (by rfl) T.n_tuple (by decide +kernel) (pa_cons (fldK (K := K) rfl (pv 2) rfl) pa_nil)) rfl)
 (pss_one (ps_fld (pv 0) (pe_ifExp (truK (K := K) rfl (fldK (K := K) rfl (pv 0) rfl) (by intro _; rfl)) (pe_callTy (tupK (K := K) rfl) (by rfl) T.n_tuple (by decide +kernel) (pa_cons (pe_op op_catS (pv 3) (lstS (pa_cons (pv 4) pa_nil))) pa_nil)) (pe_callTy (tupK (K := K) rfl) (by rfl) T.n_tuple (by decide +kernel) (pa_cons (pv 3) pa_nil))) rfl)))))))))), ?_⟩
  walk_at "rd"
  refine ⟨tl, xs, told, rfl, htl, hpl, ?_⟩
  walk_at "rd"
  refine rd_dec (fun z => absurd z (by rw [hpl.1]; omega)) (fun _ => ?_)
  walk_at "rd"
  refine ⟨tl, xs, told, rfl, htl, hpl, by omega, fun bp ls ll H1 n1 s1 hB n2 n3 => ?_⟩
  walk_at "rd"
  rw [hpl.1]
  refine ⟨bp, ls, ll, told, rfl, hB, b5, hT, fun H2 lines stock U L R ns k r lr q1 q2 q3 q4 q5 q6 q7 q8 q9 q10 q11 => ?_⟩
  walk_at "rd"
  have kp : ∀ b o, H b = some o → H2 b = some o := fun b o e => q1 _ _ (ne_of_none e n2) (ne_of_none e n3) (s1 _ _ e)
  have htl2 := kp _ _ htl
  have F0 : Fill CP CB CT ls ll bp p dx lr lines stock ns H2 [] := ⟨kp _ _ hp, rfl, q2, (ne_of_none hp n1).symm, q10⟩
  refine rd_sfld ?_
  walk_at "rd"
  refine rd_tupL htl2 fun ta H3 n4 s4 hta => ?_
  walk_at "rd"
  have F1 := F0.mono s4
  refine ⟨p, CT, dx, [], rfl, F1.ob, T.cl_Table, T.a_CT_told, (by show 0 < 1000; decide), ?_⟩
  have F2 := F1.put (f := "told") (y := .ref ta) (by decide +kernel)
  have hta2 := F1.tup (o := .ins CT dx (putF "told" (.ref ta) [])) hta
  refine rd_seq (rd_sfld ?_)
  walk_at "rd"
  have nl : ns.length ≤ 2 := by
    rw [q6.1]
    rcases rows_cases (tbOf U L R) with ⟨_, _, e⟩ | ⟨_, _, e⟩ | ⟨_, _, e⟩ | ⟨_, _, e⟩ <;> rw [e] <;> simp
  refine rd_lcL F2.lr (by rw [natV_len]; omega) (fun k y H' => ∀ g, (tbOf U L R).rows[k]? = some g → ∃ q, y = .ref q ∧ PlAt CP H' q g) (fun k y H1 H2 s h g e => let ⟨q, e1, e2⟩ := h g e; ⟨q, e1, e2.mono s⟩) (fun k y H1 D xs ys hD h g e => let ⟨q, e1, e2⟩ := h g e; ⟨q, e1, e2.monoB hD SameB.of⟩) (fun x => rfl) (fun i x H4 hx1 s4 F hF => ?_) (fun D ys H4 n5 s5 hD hl2 hR => ?_)
  · have F3 := F2.mono s4
    have hi : i < ns.length := by have := (List.getElem?_eq_some_iff.mp hx1).1; rwa [natV_len] at this
    obtain ⟨m, hm⟩ : ∃ m, ns[i]? = some m := ⟨ns[i], List.getElem?_eq_getElem hi⟩
    have ex : x = .int (m : Nat) := by unfold natV at hx1; rw [List.getElem?_map, hm] at hx1; exact (Option.some.inj hx1).symm
    subst ex
    obtain ⟨h', eh, em⟩ := q6.2 i m hm
    walk_at "rd"
    refine rd_stock T F3.br ?_
    walk_at "rd"
    refine rd_stk F3.br em fun pq hpq => ?_
    refine hF _ H4 (Same.refl _) fun g eg => ⟨pq, rfl, ?_⟩
    rw [eh] at eg
    cases eg
    exact hpq
  have F3 := F2.mono s5
  have hta3 := s5 _ _ hta2
  walk_at "rd"
  refine rd_tupL hD fun la H5 n6 s6 hla => ?_
  walk_at "rd"
  have F4 := F3.mono s6
  have hta4 := s6 _ _ hta3
  have hrw : Pls CP H5 ys (tbOf U L R).rows := ⟨by rw [hl2, natV_len, q6.1], fun k g e => by
    have hk : k < ys.length := by rw [hl2, natV_len, q6.1]; exact (List.getElem?_eq_some_iff.mp e).1
    obtain ⟨q, e1, e2⟩ := hR k _ (List.getElem?_eq_getElem hk) g e
    exact ⟨q, by rw [List.getElem?_eq_getElem hk, e1], e2.mono s6⟩⟩
  refine ⟨p, CT, dx, _, rfl, F4.ob, T.cl_Table, T.a_CT_ledge, (by show 1 < 1000; decide), ?_⟩
  have F5 := F4.put (f := "ledge") (y := .ref la) (by decide +kernel)
  have hta5 := F4.tup (o := .ins CT dx (putF "ledge" (.ref la) (putF "told" (.ref ta) []))) hta4
  have hla5 := F4.tup (o := .ins CT dx (putF "ledge" (.ref la) (putF "told" (.ref ta) []))) hla
  have hrw5 : Pls CP (upd H5 p (.ins CT dx (putF "ledge" (.ref la) (putF "told" (.ref ta) [])))) ys (tbOf U L R).rows := ⟨hrw.1, fun k g e => let ⟨q, e1, e2⟩ := hrw.2 k g e; ⟨q, e1, e2.monoI F4.ob F4.nx SameB.of⟩⟩
  refine rd_seq (rd_sfld ?_)
  walk_at "rd"
  refine rd_stock T F5.br ?_
  walk_at "rd"
  refine rd_stk F5.br q7 fun pR hpR => ?_
  refine rd_pa T hpR ?_
  walk_at "rd"
  refine ⟨p, CT, dx, _, rfl, F5.ob, T.cl_Table, T.a_CT_home, (by show 2 < 1000; decide), ?_⟩
  have F6 := F5.put (f := "home") (y := .int R.a) (by decide +kernel)
  have hta6 := F5.tup (o := .ins CT dx (putF "home" (.int R.a) (putF "ledge" (.ref la) (putF "told" (.ref ta) [])))) hta5
  have hla6 := F5.tup (o := .ins CT dx (putF "home" (.int R.a) (putF "ledge" (.ref la) (putF "told" (.ref ta) [])))) hla5
  have hrw6 : Pls CP _ ys (tbOf U L R).rows := ⟨hrw5.1, fun k g e => let ⟨q, e1, e2⟩ := hrw5.2 k g e; ⟨q, e1, e2.monoI F5.ob F5.nx (SameB.of (o := .ins CT dx (putF "home" (.int R.a) (putF "ledge" (.ref la) (putF "told" (.ref ta) [])))))⟩⟩
  refine rd_seq (rd_sfld ?_)
  walk_at "rd"
  refine rd_lines T F6.br ?_
  walk_at "rd"
  obtain ⟨zs, hz1, hz2⟩ := F6.br.ln
  refine rd_tupL hz1 fun ra H7 n7 s7 hra => ?_
  walk_at "rd"
  have F7 := F6.mono s7
  refine ⟨p, CT, dx, _, rfl, F7.ob, T.cl_Table, T.a_CT_recipe, (by show 3 < 1000; decide), ?_⟩
  have F8 := F7.put (f := "recipe") (y := .ref ra) (by decide +kernel)
  have upA : ∀ {t : Addr} {zs : List V}, H7 t = some (.tup zs) → upd H7 p (.ins CT dx (putF "recipe" (.ref ra) (putF "home" (.int R.a) (putF "ledge" (.ref la) (putF "told" (.ref ta) []))))) t = some (.tup zs) := fun e => F7.tup e
  have hla8 := upA (s7 _ _ hla6)
  have hra8 := upA hra
  have hrw8 : Pls CP (upd H7 p (.ins CT dx (putF "recipe" (.ref ra) (putF "home" (.int R.a) (putF "ledge" (.ref la) (putF "told" (.ref ta) [])))))) ys (tbOf U L R).rows := ⟨hrw6.1, fun k g e => let ⟨q, e1, e2⟩ := hrw6.2 k g e; ⟨q, e1, (e2.mono s7).monoI F7.ob F7.nx SameB.of⟩⟩
  have hln8 : Lns (upd H7 p (.ins CT dx (putF "recipe" (.ref ra) (putF "home" (.int R.a) (putF "ledge" (.ref la) (putF "told" (.ref ta) [])))))) zs lines := ⟨hz2.1, fun k l e => let ⟨q, e1, e2⟩ := hz2.2 k l e; ⟨q, e1, upA (s7 _ _ e2)⟩⟩
  have all8 : ∀ b o, b ≠ p → H b = some o → upd H7 p (.ins CT dx (putF "recipe" (.ref ra) (putF "home" (.int R.a) (putF "ledge" (.ref la) (putF "told" (.ref ta) []))))) b = some o := fun b o hb e => by
    rw [upd_ne hb]
    refine s7 _ _ ?_
    rw [upd_ne hb, upd_ne hb]
    refine s6 _ _ (s5 _ _ ?_)
    rw [upd_ne hb]
    exact s4 _ _ (kp _ _ e)
  revert F8 hla8 hra8 hrw8 hln8 all8
  generalize upd H7 p (.ins CT dx (putF "recipe" (.ref ra) (putF "home" (.int R.a) (putF "ledge" (.ref la) (putF "told" (.ref ta) []))))) = H8
  intro F8 hla8 hra8 hrw8 hln8 all8
  have fin : ∀ ms ma H9, Same H8 H9 → H9 ma = some (.tup (natV ms)) → Picks stock ms ((tbOf U L R).rows ++ if (tbOf U L R).c ≠ 0 then [⟨0, 0, (tbOf U L R).c⟩] else []) → ∀ σ, rSfd K "made" (fun σ H' => Q .non H') σ (.ref ma) (.ref p) H9 := fun ms ma H9 s9 hma pk σ => by
    have F9 := F8.mono s9
    refine ⟨p, CT, dx, _, rfl, F9.ob, T.cl_Table, T.a_CT_made, (by show 4 < 1000; decide), ?_⟩
    refine h _ (tbOf U L R) ta la ra ma ys zs ms lines stock (fun b o hb e => by rw [upd_ne hb]; exact s9 _ _ (all8 _ _ hb e)) ⟨⟨dx, ?_⟩, F9.tup (s9 _ _ hla8), ⟨hrw8.1, fun k g e => let ⟨q, e1, e2⟩ := hrw8.2 k g e; ⟨q, e1, (e2.mono s9).monoI F9.ob F9.nx SameB.of⟩⟩, F9.tup (s9 _ _ hra8), ⟨hln8.1, fun k l e => let ⟨q, e1, e2⟩ := hln8.2 k l e; ⟨q, e1, F9.tup (s9 _ _ e2)⟩⟩, F9.tup hma, q3, pk, q4⟩ (tab_ok q5 hT)
    rw [upd_same]
    have k1 : ¬ (("told" : Str) = "ledge") := by decide +kernel
    have k2 : ¬ (("told" : Str) = "home") := by decide +kernel
    have k3 : ¬ (("told" : Str) = "recipe") := by decide +kernel
    have k4 : ¬ (("told" : Str) = "made") := by decide +kernel
    have k5 : ¬ (("ledge" : Str) = "home") := by decide +kernel
    have k6 : ¬ (("ledge" : Str) = "recipe") := by decide +kernel
    have k7 : ¬ (("ledge" : Str) = "made") := by decide +kernel
    have k8 : ¬ (("home" : Str) = "recipe") := by decide +kernel
    have k9 : ¬ (("home" : Str) = "made") := by decide +kernel
    have k10 : ¬ (("recipe" : Str) = "made") := by decide +kernel
    simp only [putF, k1, k2, k3, k4, k5, k6, k7, k8, k9, k10, if_false, tbF]
    rfl
  refine rd_sfld ?_
  walk_at "rd"
  refine ⟨p, CT, dx, _, _, rfl, F8.ob, T.cl_Table, T.a_CT_home, (by rw [lookup_putF, if_neg (by decide +kernel), lookup_putF, if_pos rfl]), ?_⟩
  walk_at "rd"
  refine rd_bne (fun hz => ?_) (fun hz => ?_)
  · walk_at "rd"
    refine rd_newL fun l1 H9 n9 s9 hl1 => ?_
    walk_at "rd"
    refine rd_cat (s9 _ _ F8.lr) hl1 (by rw [natV_len]; show _ + 1 ≤ _; omega) fun l2 H10 n10 s10 hl2' => ?_
    walk_at "rd"
    refine rd_tupL hl2' fun ma H11 n11 s11 hma => ?_
    walk_at "rd"
    refine fin (ns ++ [k]) ma H11 ((s9.trans s10).trans s11) (by rw [← natV_snoc]; exact hma) ?_ _
    rw [if_pos (show (tbOf U L R).c ≠ 0 from hz)]
    exact q6.snoc (by rw [q7]; exact congrArg some (Pl.ext' q5.x q5.y rfl))
  · walk_at "rd"
    refine rd_tupL F8.lr fun ma H11 n11 s11 hma => ?_
    walk_at "rd"
    refine fin ns ma H11 s11 hma ?_ _
    rw [if_neg (show ¬ (tbOf U L R).c ≠ 0 from fun z => z hz), List.append_nil]
    exact q6
end
end Wk
namespace Wk
set_option linter.all false
set_option maxRecDepth 100000
set_option maxHeartbeats 4000000
open PySem L2
local macro_rules | `(tactic| walk_at "cy") => `(tactic| first
  | assumption
  | ((with_reducible refine' at_mono (H := ?H) ?s ?h); (case s => assumption); (case h => walk_at "cy"))
  | ((with_reducible refine' PlAt.mono (H := ?H) ?s ?h); (case s => assumption); (case h => walk_at "cy")))
local macro_rules | `(tactic| walk_at "rd1") => `(tactic| first
  | (with_reducible refine' rd_seq ?_) | (with_reducible refine' rd_asg ?_) | (with_reducible refine' rd_par ?_) | (with_reducible refine' rd_ret ?_)
  | (with_reducible refine' rd_ifs ?_) | (with_reducible refine' rd_drop ?_) | (with_reducible refine' rd_next ?_) | (with_reducible refine' rd_asgG ?_)
  | ((with_reducible refine' rd_var (v := ?v) ?e ?h); (case e => exact rfl)) | (with_reducible refine' rd_c ?_) | (with_reducible refine' rd_op ?_) | (with_reducible refine' rd_un ?_)
  | (with_reducible refine' rd_cb ?_) | (with_reducible refine' rd_cons ?_) | (with_reducible refine' rd_nil ?_)
  | (with_reducible refine' rd_I0 ?_) | (with_reducible refine' rd_U ?_) | (with_reducible refine' rd_eqI ?_) | (with_reducible refine' rd_neI ?_)
  | (with_reducible refine' rd_test ?_) | (with_reducible refine' rd_bl ?_) | (with_reducible refine' rd_not ?_) | (with_reducible refine' rd_and ?_) | (with_reducible refine' rd_or ?_)
  | (with_reducible refine' rd_t ?_) | (with_reducible refine' rd_f ?_) | (with_reducible refine' rd_nt ?_) | (with_reducible refine' rd_nf ?_)
  | (with_reducible refine' rd_andV ?_) | (with_reducible refine' rd_orV ?_) | (with_reducible refine' rd_notV ?_) | (with_reducible refine' rd_B ?_) | (with_reducible refine' rd_forR1 ?_) | (with_reducible refine' rd_forR2 ?_) | (with_reducible refine' rd_for ?_) | (with_reducible refine' rd_iT ?_) | (with_reducible refine' rd_iL ?_) | (with_reducible refine' rd_lc ?_)
  | (with_reducible refine' rd_if ?_) | (with_reducible refine' rd_isNr ?_) | (with_reducible refine' rd_isN0 ?_) | (with_reducible refine' rd_notNr ?_) | (with_reducible refine' rd_notN0 ?_) | (with_reducible refine' rd_abs ?_) | ((with_reducible refine' rd_lenL (xs := ?xs) ?f ?h); (case f => walk_at "cy")) | ((with_reducible refine' rd_lenT (xs := ?xs) ?f ?h); (case f => walk_at "cy")) | (with_reducible refine' rd_mt ?_) | (with_reducible refine' rd_bm ?_) | (with_reducible refine' rd_tru ?_) | (with_reducible refine' rd_truInt ?_) | (with_reducible refine' rd_fld ?_)
  | ((with_reducible refine' rd_ixT (xs := ?xs) (v := ?v) ?f ?e ?h); (case f => walk_at "cy"); (case e => exact rfl))
  | ((with_reducible refine' rd_ixL (xs := ?xs) (v := ?v) ?f ?e ?h); (case f => walk_at "cy"); (case e => exact rfl))
  | ((with_reducible refine' rd_gtup (xs := ?xs) ?f ?e ?h); (case f => walk_at "cy"); (case e => exact rfl))
  | (with_reducible refine' rd_gcons ?_) | (with_reducible refine' rd_gnil ?_) | (with_reducible refine' rd_gname ?_))
local macro_rules | `(tactic| walk_at "rd") => `(tactic| repeat walk_at "rd1")
local macro_rules | `(tactic| walk_at "cy") => `(tactic| first
  | assumption
  | ((with_reducible refine' at_mono (H := ?H) ?s ?h); (case s => assumption); (case h => walk_at "cy"))
  | ((with_reducible refine' T2.mono (H := ?H) ?s ?h); (case s => assumption); (case h => walk_at "cy"))
  | ((with_reducible refine' PlAt.mono (H := ?H) ?s ?h); (case s => assumption); (case h => walk_at "cy"))
  | ((with_reducible refine' Pls.mono (H := ?H) ?s ?h); (case s => assumption); (case h => walk_at "cy")))
local macro_rules | `(tactic| walk_at "cy") => `(tactic| first
  | assumption
  | ((with_reducible refine' at_mono (H := ?H) ?s ?h); (case s => assumption); (case h => walk_at "cy"))
  | ((with_reducible refine' T2.mono (H := ?H) ?s ?h); (case s => assumption); (case h => walk_at "cy"))
  | ((with_reducible refine' PlAt.mono (H := ?H) ?s ?h); (case s => assumption); (case h => walk_at "cy"))
  | ((with_reducible refine' Pls.mono (H := ?H) ?s ?h); (case s => assumption); (case h => walk_at "cy"))
  | ((with_reducible refine' TbAt.mono (H := ?H) ?s ?h); (case s => assumption); (case h => walk_at "cy"))
  | ((with_reducible refine' Rws.mono (H := ?H) ?s ?h); (case s => assumption); (case h => walk_at "cy")))
theorem ru1 {k : Nat} {A : Around} (r : Room k A) : A.units + 1 < cLine := by have := r.un; omega
theorem ru64 {k : Nat} {A : Around} (r : Room k A) : A.units + 64 < cLine := by have := r.un; omega
theorem ru65 {k : Nat} {A : Around} (r : Room k A) : A.units + 65 < cLine := by have := r.un; omega
/-- all but dicts is kept -/
def Sam (H H' : Hp) : Prop := ∀ b o, (∀ kvs, o ≠ .dK kvs) → H b = some o → H' b = some o
theorem Sam.of {H H' : Hp} (s : Same H H') : Sam H H' := fun b o _ e => s b o e
theorem Sam.trans {H H1 H2 : Hp} (a : Sam H H1) (b : Sam H1 H2) : Sam H H2 := fun c o h e => b c o h (a c o h e)
theorem Sam.refl (H : Hp) : Sam H H := fun _ _ _ e => e
theorem Sam.lst {H H' : Hp} {p : Addr} {xs : List V} (s : Sam H H') (h : H p = some (.lst xs)) : H' p = some (.lst xs) := s _ _ (fun _ z => nomatch z) h
theorem Sam.tup {H H' : Hp} {p : Addr} {xs : List V} (s : Sam H H') (h : H p = some (.tup xs)) : H' p = some (.tup xs) := s _ _ (fun _ z => nomatch z) h
theorem Sam.ins {H H' : Hp} {p C dx : Addr} {fs : List (Str × V)} (s : Sam H H') (h : H p = some (.ins C dx fs)) : H' p = some (.ins C dx fs) := s _ _ (fun _ z => nomatch z) h
/-- the tape -/
def tpK (c : Addr) (a r : Int) : List (Key × V) := [(.inr "cells", .ref c), (.inr "at", .int a), (.inr "rest", .int r)]
theorem tp_cells {c : Addr} {a r : Int} : valV (tpK c a r) (.inr ("cells" : Str)) = some (.ref c) := valV_pos rfl
theorem tp_at {c : Addr} {a r : Int} : valV (tpK c a r) (.inr ("at" : Str)) = some (.int a) := by
  unfold tpK
  rw [valV_neg (show ¬ ((.inr "cells" : Key) = .inr "at") by decide +kernel)]
  exact valV_pos rfl
theorem tp_rest {c : Addr} {a r : Int} : valV (tpK c a r) (.inr ("rest" : Str)) = some (.int r) := by
  unfold tpK
  rw [valV_neg (show ¬ ((.inr "cells" : Key) = .inr "rest") by decide +kernel), valV_neg (show ¬ ((.inr "at" : Key) = .inr "rest") by decide +kernel)]
  exact valV_pos rfl
theorem tp_put_at {c : Addr} {a r b : Int} : putK (tpK c a r) (.inr ("at" : Str)) (.int b) = tpK c b r := by
  have k1 : ¬ ((.inr "cells" : Key) = .inr "at") := by decide +kernel
  have k2 : ¬ ((.inr "rest" : Key) = .inr "at") := by decide +kernel
  simp [putK, tpK, k1, k2]
theorem tp_put_rest {c : Addr} {a r b : Int} : putK (tpK c a r) (.inr ("rest" : Str)) (.int b) = tpK c a b := by
  have k1 : ¬ ((.inr "cells" : Key) = .inr "rest") := by decide +kernel
  have k2 : ¬ ((.inr "at" : Key) = .inr "rest") := by decide +kernel
  simp [putK, tpK, k1, k2]
structure Tp where
  d : Addr
  c : Addr
instance : Coe Tp Addr := ⟨Tp.d⟩
structure TapeAt (H : Hp) (tp : Tp) (n : Nat) : Prop where
  ex : ∃ cs a r, H tp.d = some (.dK (tpK tp.c a r)) ∧ H tp.c = some (.lst (cs.map V.int)) ∧ cs ≠ [] ∧ cs.length ≤ 64 ∧ 0 ≤ a ∧ a ≤ n ∧ 0 ≤ r
def rDGet (x y : V) (H2 : Hp) (Q : VK) : Prop := ∃ a v, x = .ref a ∧ DGet H2 a y (some v) ∧ Q v H2
theorem rd_dget {td ty : TE} {σ : L2.St} {H : Hp} {Q : VK} (h : td σ H fun x H1 => ty σ H1 fun y H2 => rDGet x y H2 Q) : tDGet td ty σ H Q := h
theorem rd_dgot {p : Addr} {kvs : List (Key × V)} {s : Str} {v : V} {H : Hp} {Q : VK} (h : H p = some (.dK kvs)) (e : valV kvs (.inr s) = some v) (k : Q v H) : rDGet (.ref p) (.str s) H Q := ⟨p, v, rfl, e ▸ DGet.k (k := .inr s) h, k⟩
def rDPut (N : L2.St → Hp → Prop) (σ : L2.St) (x y v : V) (H3 : Hp) : Prop := ∃ a H4, x = .ref a ∧ DPut H3 a y v H4 ∧ N σ H4
theorem rd_dput {td ty tv : TE} {N : L2.St → Hp → Prop} {R : VK} {B C : L2.St → Hp → Prop} {σ : L2.St} {H : Hp} (h : tv σ H fun v H1 => td σ H1 fun x H2 => ty σ H2 fun y H3 => rDPut N σ x y v H3) : sDPut td ty tv ⟨N, R, B, C⟩ σ H := h
theorem rd_dset {p : Addr} {kvs : List (Key × V)} {s : Str} {v : V} {N : L2.St → Hp → Prop} {σ : L2.St} {H : Hp} (h : H p = some (.dK kvs)) (l : kvs.length < 1000) (k : N σ (upd H p (.dK (putK kvs (.inr s) v)))) : rDPut N σ (.ref p) (.str s) v H := ⟨p, _, rfl, DPut.k (k := .inr s) h (Nat.lt_of_lt_of_le l (by decide)), k⟩
theorem rd_gsub {to ti : TE} {v : V} {σ : L2.St} {H : Hp} {G : L2.St → Hp → Prop} (h : to σ H fun o H1 => ti σ H1 fun i H2 => rDPut G σ o i v H2) : gSub to ti rSetD v σ H G := by
  exact h
theorem rd_tcells {p c : Addr} {a r : Int} {H : Hp} {Q : VK} (h : H p = some (.dK (tpK c a r))) (k : Q (.ref c) H) : rDGet (.ref p) (.str "cells") H Q := rd_dgot h tp_cells k
theorem rd_tat {p c : Addr} {a r : Int} {H : Hp} {Q : VK} (h : H p = some (.dK (tpK c a r))) (k : Q (.int a) H) : rDGet (.ref p) (.str "at") H Q := rd_dgot h tp_at k
theorem rd_trest {p c : Addr} {a r : Int} {H : Hp} {Q : VK} (h : H p = some (.dK (tpK c a r))) (k : Q (.int r) H) : rDGet (.ref p) (.str "rest") H Q := rd_dgot h tp_rest k
theorem rd_pairs {tk tv : TE} {r : List (TE × TE)} {σ : L2.St} {H : Hp} {Q : List (V × V) → Hp → Prop} (h : tk σ H fun x H1 => tv σ H1 fun y H2 => tPairs r σ H2 fun ps H3 => Q ((x, y) :: ps) H3) : tPairs ((tk, tv) :: r) σ H Q := h
theorem rd_pnil {σ : L2.St} {H : Hp} {Q : List (V × V) → Hp → Prop} (h : Q [] H) : tPairs [] σ H Q := h
theorem rd_slN {r : V → Option Int → Option Int → Hp → VK → Prop} {te th : TE} {σ : L2.St} {H : Hp} {Q : VK} (h : te σ H fun x H1 => th σ H1 fun y H2 => ∃ i, y = .int i ∧ r x none (some i) H2 Q) : tSl r te tNoPart (tPart th) σ H Q := h
def rInt1 : List V → Hp → VK → Prop := fun xs H Q => (∃ i, xs = [.int i] ∧ Q (.int i) H) ∨ ∃ k, xs = [.bl k] ∧ Q (.int (if k = true then 1 else 0)) H
theorem call_int1S {X : Cx} : CallR X (.type "int") rInt1 := clImp call_int1 fun xs H Q h => h
theorem rd_int {i : Int} {Q : VK} {H : Hp} (k : Q (.int i) H) : rInt1 [.int i] H Q := .inl ⟨i, rfl, k⟩
theorem rd_intb {b : Bool} {Q : VK} {H : Hp} (k : Q (.int (if b = true then 1 else 0)) H) : rInt1 [.bl b] H Q := .inr ⟨b, rfl, k⟩
def rMax2 : List V → Hp → VK → Prop := fun xs H Q => ∃ i j, xs = [.int i, .int j] ∧ Q (.int (if j > i then j else i)) H
theorem call_max2S {X : Cx} (hc : X.calm = true) : CallR X (.builtin "max") rMax2 := clImp (call_max2 hc) fun xs H Q h => h
theorem rd_max {i j : Int} {Q : VK} {H : Hp} (k : Q (.int (if j > i then j else i)) H) : rMax2 [.int i, .int j] H Q := ⟨i, j, rfl, k⟩
local macro_rules | `(tactic| walk_at "rd") => `(tactic| repeat (first
  | walk_at "rd1"
  | (with_reducible refine' rd_dget ?_)
  | (with_reducible refine' rd_tcells (by assumption) ?_)
  | (with_reducible refine' rd_tat (by assumption) ?_)
  | (with_reducible refine' rd_trest (by assumption) ?_)
  | (with_reducible refine' rd_pairs ?_)
  | (with_reducible refine' rd_pnil ?_)
  | (with_reducible refine' rd_slN ?_)
  | (with_reducible refine' rd_dput ?_)
  | (with_reducible refine' rd_gsub ?_)
  | (with_reducible refine' rd_max ?_)
  | (with_reducible refine' rd_int ?_) | (with_reducible refine' rd_intb ?_)))
section
variable {P : Program} {w : World} {K : PySem.W.Frag} {mg : Str → Option Value} {base : Heap} {CP CB CT CE : Addr}
theorem cells_ok (cs : List Int) : ∃ ds : List Int, cutV (cs.map V.int) none (some 63) ++ (List.replicate (if decide ((((cs.map V.int).length : Nat) : Int) = 0) = true then (1 : Int) else 0).toNat [V.int 0]).flatten = ds.map V.int ∧ ds ≠ [] ∧ ds.length ≤ 64 := by
  have e1 : cutV (cs.map V.int) none (some 63) = (cs.take 63).map V.int := by
    unfold cutV
    rw [show (some (63 : Int)) = some ((63 : Nat) : Int) from rfl, HT.sIx_nat, HT.sIx_none, List.drop_zero, Nat.sub_zero, List.map_take, List.length_map]
    rcases Nat.le_total 63 cs.length with h | h
    · rw [Nat.min_eq_left h]
    · rw [Nat.min_eq_right h, List.take_of_length_le (by rw [List.length_map]; exact Nat.le_refl _), List.take_of_length_le (by rw [List.length_map]; exact h)]
  rw [e1]
  cases cs with
  | nil => exact ⟨[0], rfl, by simp, by decide⟩
  | cons c r =>
    have e2 : (((((c :: r).map V.int).length : Nat) : Int) = 0) ↔ False := by rw [List.length_map, List.length_cons]; exact ⟨fun h => by omega, False.elim⟩
    rw [decide_eq_false (fun z => e2.mp z)]
    refine ⟨(c :: r).take 63, by simp, by simp, ?_⟩
    rw [List.length_take]
    omega
abbrev s__law_begin : Stmt := top 43
def N__law_begin : List Str := ["_law_script"]
theorem sc__law_begin : FnScope ["_law_script"] ["_law_script"] (defScope s__law_begin) := ⟨rfl, rfl, rfl, by decide +kernel, rfl, by decide +kernel, by decide +kernel⟩
def spBegin (K : PySem.W.Frag) : Sp := fun vs H Q _ => ∃ (l : Addr) (cs : List Int), vs = [.ref l] ∧ SqL K H l (cs.map V.int) ∧ ∀ (tp : Tp) H', H tp.d = none → H tp.c = none → Same H H' → TapeAt H' tp 0 → Q (.ref tp.d) H'
theorem ok_law_begin (T : Txt K mg CP CB CT CE) : Cal P w K mg base L2.CX0 1 "_law_begin" (spBegin K) := by
  refine T.f_law_begin.cal sc__law_begin (fun vs H Q E ⟨l, cs, h, _⟩ => by subst h; rfl) (N := N__law_begin) fun f cdv A outer s H vs Q E hr h => ?_
  obtain ⟨l, cs, rfl, hl, h⟩ := h
  refine ⟨_, (pss_one (ps_ret (pe_disp (pps_cons pe_str (pe_op op_catS (pe_callTy (listK (K := K) rfl) (by rfl) T.n_list (by decide +kernel) (pa_cons (pe_slice (slK (K := K) rfl) (pv 0) po_none (po_some pe_int)) pa_nil)) (pe_op op_repS (lstS (pa_cons pe_int pa_nil)) (pe_callTy call_int1S (by rfl) T.n_int (by decide +kernel) (pa_cons (pe_cmpR op_eq (pe_callB (lenK (K := K) rfl) (by rfl) T.n_len (by decide +kernel) (pa_cons (pv 0) pa_nil)) pe_int (nomark _)) pa_nil)))) (pps_cons pe_str pe_int (pps_cons pe_str pe_int pps_nil))) rfl rfl (by intro z; cases z) (by decide)))), ?_⟩
  intro tp n0
  have s0 : Same H (upd H tp (.dK [])) := same_new n0
  have hl0 := Same.seq s0 hl
  walk_at "rd"
  refine ⟨63, rfl, l, _, rfl, hl0, fun p1 H1 n1 s1 hp1 => ?_⟩
  walk_at "rd"
  refine rd_listL hp1 fun p2 H2 n2 s2 hp2 => ?_
  walk_at "rd"
  refine rd_newL fun p3 H3 n3 s3 hp3 => ?_
  walk_at "rd"
  refine ⟨l, _, rfl, .inl (Same.seq s3 (Same.seq s2 (Same.seq s1 hl0))), ?_⟩
  walk_at "rd"
  refine ⟨p3, _, [.int 0], rfl, rfl, hp3, by split <;> omega, by split <;> omega, by decide, fun p4 H4 n4 s4 hp4 => ?_⟩
  have hp2' := s4 _ _ (s3 _ _ hp2)
  obtain ⟨ds, ed, ne, ld⟩ := cells_ok cs
  have lens : (cutV (cs.map V.int) none (some 63)).length + ((List.replicate (if decide ((((cs.map V.int).length : Nat) : Int) = 0) = true then (1 : Int) else 0).toNat [V.int 0]).flatten).length ≤ 100000 := by
    rw [← List.length_append, ed, List.length_map]
    omega
  refine rd_cat hp2' hp4 lens fun p5 H5 n5 s5 hp5 => ?_
  walk_at "rd"
  rw [ed] at hp5
  have h0 := s5 _ _ (s4 _ _ (s3 _ _ (s2 _ _ (s1 _ _ (show upd H tp (.dK []) tp = some (.dK []) from upd_same)))))
  refine ⟨h0, tpK p5 0 0, rfl, (by show 3 ≤ 15; decide), ?_⟩
  have np5 : H p5 = none := by
    cases e : H p5 with
    | none => rfl
    | some o => rw [s4 _ _ (s3 _ _ (s2 _ _ (s1 _ _ (s0 _ _ e))))] at n5; cases n5
  have ne5 : p5 ≠ tp := ne_of hp5 h0 (by intro z; cases z)
  refine h ⟨tp, p5⟩ _ n0 np5 (fun b o e => ?_) ⟨ds, 0, 0, ?_, by rw [upd_ne ne5]; exact hp5, ne, ld, Int.le_refl _, Int.le_refl _, Int.le_refl _⟩
  · rw [upd_ne (ne_of_none e n0)]
    exact s5 _ _ (s4 _ _ (s3 _ _ (s2 _ _ (s1 _ _ (s0 _ _ e)))))
  · rw [upd_same]
    have k1 : ¬ ((.inr "cells" : Key) = .inr "at") := by decide +kernel
    have k2 : ¬ ((.inr "cells" : Key) = .inr "rest") := by decide +kernel
    have k3 : ¬ ((.inr "at" : Key) = .inr "rest") := by decide +kernel
    simp [mergeK, putK, tpK, k1, k2, k3]
abbrev s__law_draw : Stmt := top 44
def N__law_draw : List Str := ["_law_tape", "_law_limit", "_law_at_here", "_law_span", "_law_cell", "_law_mixed", "_law_found"]
theorem sc__law_draw : FnScope ["_law_tape", "_law_limit", "_law_at_here", "_law_span", "_law_cell", "_law_mixed", "_law_found"] ["_law_tape", "_law_limit"] (defScope s__law_draw) := ⟨rfl, rfl, rfl, by decide +kernel, rfl, by decide +kernel, by decide +kernel⟩
def spDraw : Sp := fun vs H Q _ => ∃ (tp : Tp) (m : Int) (n : Nat), vs = [.ref tp.d, .int m] ∧ TapeAt H tp n ∧ n ≤ 100000 ∧ 0 < m ∧ Fits 8999 m ∧ ∀ v H', Sam H H' → TapeAt H' tp (n + 1) → 0 ≤ v → v < m → Q (.int v) H'
theorem ok_law_draw (T : Txt K mg CP CB CT CE) : Cal P w K mg base L2.CX0 1 "_law_draw" spDraw := by
  refine T.f_law_draw.cal sc__law_draw (fun vs H Q E ⟨tp, m, n, h, _⟩ => by subst h; rfl) (N := N__law_draw) fun f cdv A outer s H vs Q E hr h => ?_
  obtain ⟨⟨tp, c⟩, m, n, rfl, hT, bn, m0, fm, h⟩ := h
  refine ⟨_, (pss_cons (ps_if (pt_cmpR op_lt (pe_dget (ru1 hr) (pv 0) pe_str (fun _ _ => rfl)) (pv 1) (nomark _)) (pss_cons (ps_par (i := 2) (j := 3) rfl sc__law_draw.nd rfl rfl (by decide) rfl rfl (pa_cons (pe_dget (ru1 hr) (pv 0) pe_str (fun _ _ => rfl)) (pa_cons (pe_callB (lenK (K := K) rfl) (by rfl) T.n_len (by decide +kernel) (pa_cons (pe_dget (ru1 hr) (pv 0) pe_str (fun _ _ => rfl)) pa_nil)) pa_nil)) (by rfl))
 (pss_cons (ps_asg (tupS (pa_cons (pe_ix (ixLK (K := K) rfl) (pe_dget (ru1 hr) (pv 0) pe_str (fun _ _ => rfl)) (pe_op op_modN (pe_callTy call_int1S (by rfl) T.n_int (by decide +kernel) (pa_cons (pv 2) pa_nil)) (pv 3)) (fun _ _ => rfl)) (pa_cons (pe_op op_add (pv 2) pe_int) pa_nil))) (pg_tup rfl (pgs_cons (pg_name (i := 4) sc__law_draw.nd rfl (Or.inl rfl)) (pgs_cons (pg_sub (pv 0) pe_str (set_dict (ru1 hr))) pgs_nil))))
 (pss_cons (ps_set (i := 5) sc__law_draw.nd rfl (Or.inl rfl) (pe_op op_add (pe_op op_add (pe_op op_mulX (pe_callTy call_int1S (by rfl) T.n_int (by decide +kernel) (pa_cons (pv 4) pa_nil)) pe_int) (pe_op op_mulX (pe_op op_mulX pe_int (pv 2)) (pv 2))) pe_int))
 (pss_cons (ps_set (i := 5) sc__law_draw.nd rfl (Or.inl rfl) (pe_op op_modN (pe_callTy call_int1S (by rfl) T.n_int (by decide +kernel) (pa_cons (pv 5) pa_nil)) pe_int))
 (pss_cons (ps_dput (ru1 hr) (pv 0) pe_str (pe_op op_modN (pe_callTy call_int1S (by rfl) T.n_int (by decide +kernel) (pa_cons (pe_op op_add (pe_op op_pow (pv 5) pe_int) (pe_op op_mulX (pe_op op_mulX (pe_op op_mulX pe_int (pv 2)) (pv 5)) (pv 5))) pa_nil)) (pe_op op_add (pe_op op_pow pe_int pe_int) pe_int)) rfl)
 (pss_one (ps_if (PW.pt (pw_and (pt_cmpR op_ge (pv 4) (pe_op op_pow pe_int pe_int) (nomark _)) (pw_and1 (pt_cmpR op_lt (pv 2) (pv 3) (nomark _))))) (pss_one (ps_dput (ru1 hr) (pv 0) pe_str (pe_op op_sub (pv 4) (pe_op op_pow pe_int pe_int)) rfl)) pss_nil))))))) pss_nil)
 (pss_cons (ps_asg (tupS (pa_cons (pe_op op_modN (pe_callTy call_int1S (by rfl) T.n_int (by decide +kernel) (pa_cons (pe_dget (ru1 hr) (pv 0) pe_str (fun _ _ => rfl)) pa_nil)) (pv 1)) (pa_cons (pe_op op_fdX (pe_dget (ru1 hr) (pv 0) pe_str (fun _ _ => rfl)) (pv 1)) pa_nil))) (pg_tup rfl (pgs_cons (pg_name (i := 6) sc__law_draw.nd rfl (Or.inl rfl)) (pgs_cons (pg_sub (pv 0) pe_str (set_dict (ru1 hr))) pgs_nil))))
 (pss_one (ps_ret (pv 6))))), ?_⟩
  obtain ⟨cs, a, r, h0, hc, cne, cl, a0, an, r0⟩ := hT.ex
  replace h0 : H tp = some (.dK (tpK c a r)) := h0
  replace hc : H c = some (.lst (cs.map V.int)) := hc
  have ctp : c ≠ tp := ne_of hc h0 (by intro z; cases z)
  have sam : ∀ {o : HO}, Sam H (upd H tp o) := fun {o} b u hu e => by rw [upd_ne (fun z => by rw [z, h0] at e; cases e; exact hu _ rfl)]; exact e
  refine rd_seqJ (fun σ' H' => ∃ c2 c3 c4 c5 a' r', σ' = [some (.ref tp), some (.int m), c2, c3, c4, c5, none] ∧ (∀ b o, b ≠ tp → H b = some o → H' b = some o) ∧ H' tp = some (.dK (tpK c a' r')) ∧ 0 ≤ a' ∧ a' ≤ n + 1 ∧ 0 ≤ r') (fun N' hN' => ?_) ?_
  · walk_at "rd"
    refine rd_dec (fun hlt => ?_) (fun hlt => ?_)
    · walk_at "rd"
      have fa : Fits 63 a := Fits.of_lt (b := 100001) (by omega) (by decide)
      have len0 : 0 < cs.length := List.length_pos_iff.mpr cne
      have lz : (((cs.map V.int).length : Nat) : Int) ≠ 0 := by rw [List.length_map]; omega
      refine rd_I lz ?_
      rw [List.length_map, Int.fmod_eq_emod_of_nonneg _ (by omega)]
      have m1 := Int.emod_nonneg a (show (cs.length : Int) ≠ 0 by omega)
      have m2 := Int.emod_lt_of_pos a (show 0 < (cs.length : Int) by omega)
      obtain ⟨j, hj⟩ : ∃ j : Nat, a % (cs.length : Int) = j := ⟨(a % (cs.length : Int)).toNat, by omega⟩
      rw [hj] at m2 ⊢
      have jl : j < cs.length := by omega
      refine rd_ixL hc (atI_nat (v := .int (cs[j])) (by rw [List.getElem?_map, List.getElem?_eq_getElem jl]; rfl)) ?_
      walk_at "rd"
      refine rd_new fun t1 H1 n1 s1 ht1 => ?_
      walk_at "rd"
      have h1 := s1 _ _ h0
      refine rd_dset h1 (by show 3 < 1000; decide) ?_
      rw [tp_put_at]
      have h2 : upd H1 tp (.dK (tpK c (a + 1) r)) tp = some (.dK (tpK c (a + 1) r)) := upd_same
      have kp : ∀ b o, b ≠ tp → H b = some o → upd H1 tp (.dK (tpK c (a + 1) r)) b = some o := fun b o hb e => by rw [upd_ne hb]; exact s1 _ _ e
      revert h2 kp
      generalize upd H1 tp (.dK (tpK c (a + 1) r)) = H2
      intro h2 kp
      walk_at "rd"
      refine rd_I (mul_okR (Fits.of_lt (b := 982451654) (by decide) (by decide))) ?_
      walk_at "rd"
      refine rd_I (mul_okR fa) ?_
      walk_at "rd"
      refine rd_I (mul_okR fa) ?_
      walk_at "rd"
      refine rd_I (by decide) ?_
      walk_at "rd"
      generalize hmx : (cs[j] * 982451653 + 32452843 * a * a + 961748941).fmod 2305843009213693907 = mx
      have mx0 : 0 ≤ mx := by rw [← hmx]; exact Int.fmod_nonneg_of_pos _ (by decide)
      have mx1 : mx < 2305843009213693907 := by rw [← hmx]; exact Int.fmod_lt_of_pos _ (by decide)
      have fmx : Fits 63 mx := Fits.of_lt (b := 2305843009213693907) (by omega) (by decide)
      refine rd_I (show CPow mx 11 from ⟨by decide, by decide, Nat.lt_of_lt_of_le fmx.lt (by decide)⟩) ?_
      walk_at "rd"
      refine rd_I (mul_okR fa) ?_
      walk_at "rd"
      refine rd_I (mul_okR fmx) ?_
      walk_at "rd"
      refine rd_I (mul_okR fmx) ?_
      walk_at "rd"
      refine rd_I (show CPow 10 47 from ⟨by decide, by decide, by decide⟩) ?_
      walk_at "rd"
      have z0 : (0 : Int) < 10 ^ (47 : Int).toNat + 9 := by decide
      refine rd_I (show (10 : Int) ^ (47 : Int).toNat + 9 ≠ 0 by decide) ?_
      generalize hr1 : (mx ^ (11 : Int).toNat + 15485863 * a * mx * mx).fmod (10 ^ (47 : Int).toNat + 9) = r1
      have r10 : 0 ≤ r1 := by rw [← hr1]; exact Int.fmod_nonneg_of_pos _ z0
      walk_at "rd"
      refine rd_dset h2 (by show 3 < 1000; decide) ?_
      rw [tp_put_rest]
      have h3 : upd H2 tp (.dK (tpK c (a + 1) r1)) tp = some (.dK (tpK c (a + 1) r1)) := upd_same
      have kp3 : ∀ b o, b ≠ tp → H b = some o → upd H2 tp (.dK (tpK c (a + 1) r1)) b = some o := fun b o hb e => by rw [upd_ne hb]; exact kp _ _ hb e
      revert h3 kp3
      generalize upd H2 tp (.dK (tpK c (a + 1) r1)) = H3
      intro h3 kp3
      walk_at "rd"
      refine rd_I (show CPow 10 18 from ⟨by decide, by decide, by decide⟩) ?_
      walk_at "rd"
      have fin := hN' _ _ ⟨some (.int a), some (.int (cs.length : Nat)), some (.int cs[j]), some (.int mx), a + 1, r1, rfl, kp3, h3, by omega, by omega, r10⟩
      refine rd_dec (fun hc1 => ?_) (fun hc1 => ?_)
      · walk_at "rd"
        refine rd_dec (fun hc2 => ?_) (fun hc2 => ?_)
        · walk_at "rd"
          refine rd_I (show CPow 10 18 from ⟨by decide, by decide, by decide⟩) ?_
          walk_at "rd"
          refine rd_dset h3 (by show 3 < 1000; decide) ?_
          rw [tp_put_rest]
          exact hN' _ _ ⟨some (.int a), some (.int (cs.length : Nat)), some (.int cs[j]), some (.int mx), a + 1, _, rfl, fun b o hb e => by rw [upd_ne hb]; exact kp3 _ _ hb e, upd_same, by omega, by omega, Int.sub_nonneg_of_le hc1⟩
        · refine rd_next ?_
          exact fin
      · refine rd_f ?_
        refine rd_next ?_
        exact fin
    · walk_at "rd"
      exact hN' _ _ ⟨none, none, none, none, a, r, rfl, fun b o _ e => e, h0, a0, by omega, r0⟩
  · rintro σ' H' ⟨c2, c3, c4, c5, a', r', rfl, kp, h1, b0, b1, q0⟩
    walk_at "rd"
    refine rd_I (show m ≠ 0 by omega) ?_
    walk_at "rd"
    refine rd_I ⟨by omega, fm⟩ ?_
    walk_at "rd"
    refine rd_new fun t1 H1 n1 s1 ht1 => ?_
    walk_at "rd"
    have h2 := s1 _ _ h1
    refine rd_dset h2 (by show 3 < 1000; decide) ?_
    rw [tp_put_rest]
    walk_at "rd"
    have kp2 : ∀ b o, b ≠ tp → H b = some o → upd H1 tp (.dK (tpK c a' (r'.fdiv m))) b = some o := fun b o hb e => by rw [upd_ne hb]; exact s1 _ _ (kp _ _ hb e)
    refine h _ _ (fun b o hu e => kp2 _ _ (fun z => by rw [z, h0] at e; cases e; exact hu _ rfl) e) ⟨cs, a', _, upd_same, kp2 _ _ ctp hc, cne, cl, b0, b1, Int.fdiv_nonneg q0 (by omega)⟩ (Int.fmod_nonneg_of_pos _ m0) (Int.fmod_lt_of_pos _ m0)
end
end Wk
namespace Wk
set_option linter.all false
set_option maxRecDepth 100000
set_option maxHeartbeats 4000000
open PySem L2
local macro_rules | `(tactic| walk_at "cy") => `(tactic| first
  | assumption
  | ((with_reducible refine' at_mono (H := ?H) ?s ?h); (case s => assumption); (case h => walk_at "cy"))
  | ((with_reducible refine' PlAt.mono (H := ?H) ?s ?h); (case s => assumption); (case h => walk_at "cy")))
local macro_rules | `(tactic| walk_at "rd1") => `(tactic| first
  | (with_reducible refine' rd_seq ?_) | (with_reducible refine' rd_asg ?_) | (with_reducible refine' rd_par ?_) | (with_reducible refine' rd_ret ?_)
  | (with_reducible refine' rd_ifs ?_) | (with_reducible refine' rd_drop ?_) | (with_reducible refine' rd_next ?_) | (with_reducible refine' rd_asgG ?_)
  | ((with_reducible refine' rd_var (v := ?v) ?e ?h); (case e => exact rfl)) | (with_reducible refine' rd_c ?_) | (with_reducible refine' rd_op ?_) | (with_reducible refine' rd_un ?_)
  | (with_reducible refine' rd_cb ?_) | (with_reducible refine' rd_cons ?_) | (with_reducible refine' rd_nil ?_)
  | (with_reducible refine' rd_I0 ?_) | (with_reducible refine' rd_U ?_) | (with_reducible refine' rd_eqI ?_) | (with_reducible refine' rd_neI ?_)
  | (with_reducible refine' rd_test ?_) | (with_reducible refine' rd_bl ?_) | (with_reducible refine' rd_not ?_) | (with_reducible refine' rd_and ?_) | (with_reducible refine' rd_or ?_)
  | (with_reducible refine' rd_t ?_) | (with_reducible refine' rd_f ?_) | (with_reducible refine' rd_nt ?_) | (with_reducible refine' rd_nf ?_)
  | (with_reducible refine' rd_andV ?_) | (with_reducible refine' rd_orV ?_) | (with_reducible refine' rd_notV ?_) | (with_reducible refine' rd_B ?_) | (with_reducible refine' rd_forR1 ?_) | (with_reducible refine' rd_forR2 ?_) | (with_reducible refine' rd_for ?_) | (with_reducible refine' rd_iT ?_) | (with_reducible refine' rd_iL ?_) | (with_reducible refine' rd_lc ?_)
  | (with_reducible refine' rd_if ?_) | (with_reducible refine' rd_isNr ?_) | (with_reducible refine' rd_isN0 ?_) | (with_reducible refine' rd_notNr ?_) | (with_reducible refine' rd_notN0 ?_) | (with_reducible refine' rd_abs ?_) | ((with_reducible refine' rd_lenL (xs := ?xs) ?f ?h); (case f => walk_at "cy")) | ((with_reducible refine' rd_lenT (xs := ?xs) ?f ?h); (case f => walk_at "cy")) | (with_reducible refine' rd_mt ?_) | (with_reducible refine' rd_bm ?_) | (with_reducible refine' rd_tru ?_) | (with_reducible refine' rd_truInt ?_) | (with_reducible refine' rd_fld ?_)
  | ((with_reducible refine' rd_ixT (xs := ?xs) (v := ?v) ?f ?e ?h); (case f => walk_at "cy"); (case e => exact rfl))
  | ((with_reducible refine' rd_ixL (xs := ?xs) (v := ?v) ?f ?e ?h); (case f => walk_at "cy"); (case e => exact rfl))
  | ((with_reducible refine' rd_gtup (xs := ?xs) ?f ?e ?h); (case f => walk_at "cy"); (case e => exact rfl))
  | (with_reducible refine' rd_gcons ?_) | (with_reducible refine' rd_gnil ?_) | (with_reducible refine' rd_gname ?_))
local macro_rules | `(tactic| walk_at "rd") => `(tactic| repeat walk_at "rd1")
local macro_rules | `(tactic| walk_at "cy") => `(tactic| first
  | assumption
  | ((with_reducible refine' at_mono (H := ?H) ?s ?h); (case s => assumption); (case h => walk_at "cy"))
  | ((with_reducible refine' T2.mono (H := ?H) ?s ?h); (case s => assumption); (case h => walk_at "cy"))
  | ((with_reducible refine' PlAt.mono (H := ?H) ?s ?h); (case s => assumption); (case h => walk_at "cy"))
  | ((with_reducible refine' Pls.mono (H := ?H) ?s ?h); (case s => assumption); (case h => walk_at "cy")))
local macro_rules | `(tactic| walk_at "cy") => `(tactic| first
  | assumption
  | ((with_reducible refine' at_mono (H := ?H) ?s ?h); (case s => assumption); (case h => walk_at "cy"))
  | ((with_reducible refine' T2.mono (H := ?H) ?s ?h); (case s => assumption); (case h => walk_at "cy"))
  | ((with_reducible refine' PlAt.mono (H := ?H) ?s ?h); (case s => assumption); (case h => walk_at "cy"))
  | ((with_reducible refine' Pls.mono (H := ?H) ?s ?h); (case s => assumption); (case h => walk_at "cy"))
  | ((with_reducible refine' TbAt.mono (H := ?H) ?s ?h); (case s => assumption); (case h => walk_at "cy"))
  | ((with_reducible refine' Rws.mono (H := ?H) ?s ?h); (case s => assumption); (case h => walk_at "cy")))
local macro_rules | `(tactic| walk_at "rd") => `(tactic| repeat (first
  | walk_at "rd1"
  | (with_reducible refine' rd_dget ?_)
  | (with_reducible refine' rd_tcells (by assumption) ?_)
  | (with_reducible refine' rd_tat (by assumption) ?_)
  | (with_reducible refine' rd_trest (by assumption) ?_)
  | (with_reducible refine' rd_pairs ?_)
  | (with_reducible refine' rd_pnil ?_)
  | (with_reducible refine' rd_slN ?_)
  | (with_reducible refine' rd_dput ?_)
  | (with_reducible refine' rd_gsub ?_)
  | (with_reducible refine' rd_max ?_)
  | (with_reducible refine' rd_int ?_) | (with_reducible refine' rd_intb ?_)))
section
variable {P : Program} {w : World} {K : PySem.W.Frag} {mg : Str → Option Value} {base : Heap} {CP CB CT CE : Addr}
theorem TapeAt.up {H : Hp} {tp : Tp} {n m : Nat} (h : TapeAt H tp n) (e : n ≤ m) : TapeAt H tp m := let ⟨cs, a, r, h1, h2, h3, h4, h5, h6, h7⟩ := h.ex; ⟨cs, a, r, h1, h2, h3, h4, h5, by omega, h7⟩
abbrev s__law_pick : Stmt := top 45
def N__law_pick : List Str := ["_law_tape", "_law_some"]
theorem sc__law_pick : FnScope ["_law_tape", "_law_some"] ["_law_tape", "_law_some"] (defScope s__law_pick) := ⟨rfl, rfl, rfl, by decide +kernel, rfl, by decide +kernel, by decide +kernel⟩
def spPick : Sp := fun vs H Q _ => ∃ (tp : Tp) (l : Addr) (xs : List V) (n : Nat), vs = [.ref tp.d, .ref l] ∧ TapeAt H tp n ∧ n ≤ 100000 ∧ H l = some (.lst xs) ∧ 0 < xs.length ∧ xs.length ≤ 100 ∧ ∀ x H', x ∈ xs → Sam H H' → TapeAt H' tp (n + 1) → Q x H'
theorem ok_law_pick (T : Txt K mg CP CB CT CE) : Cal P w K mg base L2.CX0 2 "_law_pick" spPick := by
  have g_law_draw := ok_law_draw (P := P) (w := w) (base := base) T
  refine T.f_law_pick.cal sc__law_pick (fun vs H Q E ⟨tp, l, xs, n, h, _⟩ => by subst h; rfl) (N := N__law_pick) fun f cdv A outer s H vs Q E hr h => ?_
  obtain ⟨tp, l, xs, n, rfl, hT, bn, hl, l0, l1, h⟩ := h
  refine ⟨_, (pss_one (ps_ret (pe_ix (ixLK (K := K) rfl) (pv 1) (calS g_law_draw pass0 hr (by decide) (by rfl) (pa_cons (pv 0) (pa_cons (pe_callB (lenK (K := K) rfl) (by rfl) T.n_len (by decide +kernel) (pa_cons (pv 1) pa_nil)) pa_nil))) (fun _ _ => rfl)))), ?_⟩
  walk_at "rd"
  refine ⟨tp, _, n, rfl, hT, bn, by omega, Fits.of_lt (b := 101) (by omega) (by decide : 101 ≤ 2 ^ 8999), fun v H1 s1 hT1 v0 v1 => ?_⟩
  walk_at "rd"
  obtain ⟨j, rfl⟩ : ∃ j : Nat, v = j := ⟨v.toNat, by omega⟩
  have jl : j < xs.length := by omega
  exact rd_ixL (s1.lst hl) (atI_nat (List.getElem?_eq_getElem jl)) (h _ H1 (List.getElem_mem jl) s1 hT1)
/-! a sign many times -/
def repS (a : Str) (n : Int) : Str := if (n == 1 || a.length == 0) = true then a else ⟨(List.replicate n.toNat a.cps).foldl (· ++ ·) #[]⟩
def rRepStr : R2 := fun x y H Q => ∃ a n, x = .str a ∧ y = .int n ∧ 1 ≤ n ∧ n ≤ 100 ∧ a.length ≤ 100 ∧ (repS a n).length ≤ 10000 ∧ Q (.str (repS a n)) H
theorem op_repStr {X : Cx} : OpR X (binaryOp .Mult) rRepStr := by
  intro pins s σ H x y v u Q I rx ry h
  obtain ⟨a, n, rfl, rfl, h1, h2, h3, h4, q⟩ := h
  obtain ⟨t, rfl⟩ := rx
  obtain ⟨t', rfl⟩ := ry
  have big : (a.length : Int) ≤ 100 := by omega
  refine PySem.P.mul_str ?_ (fun _ _ => ?_) (fun _ _ => ?_) ?_
  · rw [decide_eq_false (by omega), decide_eq_false (by omega)]; rfl
  · have : (2 ^ 63 - 1) / n ≥ 100 := by
      have := Int.le_ediv_iff_mul_le (a := 100) (b := 2 ^ 63 - 1) (c := n) (by omega)
      omega
    omega
  · have : a.length * n.toNat ≤ 100 * 100 := Nat.mul_le_mul h3 (by omega)
    unfold PySem.Builtin.Str.tooLong
    exact decide_eq_false (by rw [sizeLine_eq]; omega)
  · rw [if_neg (by omega)]
    unfold repS at q h4
    by_cases hc : (n == 1 || a.length == 0) = true
    · rw [if_pos hc] at q ⊢
      exact ⟨.str a, H, I, ⟨_, rfl⟩, q⟩
    · rw [if_neg hc] at q h4 ⊢
      exact ⟨Nat.le_trans h4 (by decide), .str _, H, I.tok _, ⟨_, rfl⟩, q⟩
def rIntS : List V → Hp → VK → Prop := fun xs H Q => ∃ a n, xs = [.str a] ∧ PySem.intText? a = some n ∧ a.length ≤ 640 ∧ Q (.int n) H
theorem call_intS {X : Cx} : CallR X (.type "int") rIntS := clImp call_int_str fun xs H Q h => h
def rAddStr : R2 := fun x y H Q => ∃ i j, x = .str i ∧ y = .str j ∧ i.length + j.length ≤ sizeLine ∧ Q (.str (i ++ j)) H
theorem op_addStr {X : Cx} : OpR X (binaryOp .Add) rAddStr := opImp op_add_str fun x y H Q h => h
def ten (n : Int) : Int := 10 ^ n.toNat
theorem ten_text : ∀ n : Nat, 1 ≤ n → n ≤ 12 → PySem.intText? (("1" : Str) ++ repS "0" (n : Int)) = some (ten n) ∧ (("1" : Str) ++ repS "0" (n : Int)).length ≤ 640 ∧ ("1" : Str).length + (repS "0" (n : Int)).length ≤ 100 := by
  intro n h1 h2
  match n, h1, h2 with
  | 1, _, _ => decide +kernel
  | 2, _, _ => decide +kernel
  | 3, _, _ => decide +kernel
  | 4, _, _ => decide +kernel
  | 5, _, _ => decide +kernel
  | 6, _, _ => decide +kernel
  | 7, _, _ => decide +kernel
  | 8, _, _ => decide +kernel
  | 9, _, _ => decide +kernel
  | 10, _, _ => decide +kernel
  | 11, _, _ => decide +kernel
  | 12, _, _ => decide +kernel
abbrev s__law_ten : Stmt := top 46
def N__law_ten : List Str := ["_law_figures_here"]
theorem sc__law_ten : FnScope ["_law_figures_here"] ["_law_figures_here"] (defScope s__law_ten) := ⟨rfl, rfl, rfl, by decide +kernel, rfl, by decide +kernel, by decide +kernel⟩
def spTen : Sp := fun vs H Q _ => ∃ (n : Int), vs = [.int n] ∧ 1 ≤ n ∧ n ≤ 12 ∧ Q (.int (ten n)) H
theorem ok_law_ten (T : Txt K mg CP CB CT CE) : Cal P w K mg base L2.CX0 1 "_law_ten" spTen := by
  refine T.f_law_ten.cal sc__law_ten (fun vs H Q E ⟨n, h, _⟩ => by subst h; rfl) (N := N__law_ten) fun f cdv A outer s H vs Q E hr h => ?_
  obtain ⟨n, rfl, h1, h2, h⟩ := h
  refine ⟨_, (pss_one (ps_ret (pe_callTy call_intS (by rfl) T.n_int (by decide +kernel) (pa_cons (pe_op op_addStr pe_str (pe_op op_repStr pe_str (pv 0))) pa_nil)))), ?_⟩
  walk_at "rd"
  obtain ⟨k, rfl⟩ : ∃ k : Nat, n = k := ⟨n.toNat, by omega⟩
  obtain ⟨t1, t2, t3⟩ := ten_text k (by omega) (by omega)
  refine ⟨_, _, rfl, rfl, h1, by omega, by decide, by omega, ?_⟩
  refine ⟨_, _, rfl, rfl, Nat.le_trans t3 (by decide), ?_⟩
  walk_at "rd"
  exact ⟨_, _, rfl, t1, t2, h⟩
theorem ten_fits {n : Int} (h : n ≤ 12) : Fits 40 (ten n) ∧ 0 < ten n := by
  unfold ten
  have h1 : n.toNat ≤ 12 := by omega
  have h2 : (10 : Int) ^ n.toNat = ((10 ^ n.toNat : Nat) : Int) := by simp
  rw [h2]
  have h3 : 10 ^ n.toNat ≤ 10 ^ 12 := Nat.pow_le_pow_right (by decide) h1
  have h4 : 0 < 10 ^ n.toNat := Nat.pow_pos (by decide)
  exact ⟨⟨by rw [Int.natAbs_natCast]; exact Nat.lt_of_le_of_lt h3 (by decide)⟩, by omega⟩
theorem ten_mono {n m : Int} (h0 : 0 ≤ n) (h : n ≤ m) : ten n ≤ ten m := by
  unfold ten
  have e : ∀ k : Nat, (10 : Int) ^ k = ((10 ^ k : Nat) : Int) := fun k => by simp
  rw [e, e]
  have := Nat.pow_le_pow_right (n := 10) (by decide) (show n.toNat ≤ m.toNat by omega)
  omega
theorem TapeAt.same {H H' : Hp} {tp : Tp} {n : Nat} (h : TapeAt H tp n) (s : Same H H') : TapeAt H' tp n := let ⟨cs, a, r, h1, h2, h3⟩ := h.ex; ⟨cs, a, r, s _ _ h1, s _ _ h2, h3⟩
abbrev s__law_long : Stmt := top 47
def N__law_long : List Str := ["_law_tape", "_law_figures_here", "_law_found", "_law_k"]
theorem sc__law_long : FnScope ["_law_tape", "_law_figures_here", "_law_found", "_law_k"] ["_law_tape", "_law_figures_here"] (defScope s__law_long) := ⟨rfl, rfl, rfl, by decide +kernel, rfl, by decide +kernel, by decide +kernel⟩
def spLong : Sp := fun vs H Q _ => ∃ (tp : Tp) (g : Int) (n : Nat), vs = [.ref tp.d, .int g] ∧ TapeAt H tp n ∧ n ≤ 95000 ∧ 1 ≤ g ∧ g ≤ 12 ∧ ∀ v H', Sam H H' → TapeAt H' tp (n + 1) → 0 ≤ v → v < ten g → Q (.int v) H'
theorem ok_law_long (T : Txt K mg CP CB CT CE) : Cal P w K mg base L2.CX0 2 "_law_long" spLong := by
  have g_law_draw := ok_law_draw (P := P) (w := w) (base := base) T
  have g_law_ten := ok_law_ten (P := P) (w := w) (base := base) T
  refine T.f_law_long.cal sc__law_long (fun vs H Q E ⟨tp, g, n, h, _⟩ => by subst h; rfl) (N := N__law_long) fun f cdv A outer s H vs Q E hr h => ?_
  obtain ⟨tp, g, n, rfl, hT, bn, g0, g1, h⟩ := h
  refine ⟨_, (pss_cons (ps_set (i := 2) sc__law_long.nd rfl (Or.inl rfl) pe_int)
 (pss_cons (ps_for PassesOwn.never rfl (pi_range1 rfl T.n_range (pa_cons (pe_op op_fdX (pe_op op_add (pv 1) pe_int) pe_int) pa_nil)) (pg_name (i := 3) sc__law_long.nd rfl (Or.inl rfl)) (pss_one (ps_set (i := 2) sc__law_long.nd rfl (Or.inl rfl) (pe_op op_add (pe_op op_mulX (pv 2) (pe_op op_pow pe_int pe_int)) (calS g_law_draw pass0 hr (by decide) (by rfl) (pa_cons (pv 0) (pa_cons (pe_op op_pow pe_int pe_int) pa_nil)))))))
 (pss_one (ps_ret (pe_op op_modN (pe_callTy call_int1S (by rfl) T.n_int (by decide +kernel) (pa_cons (pv 2) pa_nil)) (calS g_law_ten pass0 hr (by decide) (by rfl) (pa_cons (pv 1) pa_nil))))))), ?_⟩
  walk_at "rd"
  refine rd_I ⟨by decide, Fits.of_lt (b := 16) (by decide) (by decide : 16 ≤ 2 ^ 8999)⟩ ?_
  have e1 : (g + 14).fdiv 15 = 1 := by rw [Int.fdiv_eq_ediv_of_nonneg _ (by decide)]; omega
  rw [e1]
  walk_at "rd"
  refine ⟨1, rfl, by decide, by decide, ?_⟩
  have c15 : CPow 10 15 := ⟨by decide, by decide, by decide⟩
  refine rd_rng (fun i σ' H' => ∃ v c3, σ' = [some (.ref tp.d), some (.int g), some (.int v), c3] ∧ Sam H H' ∧ TapeAt H' tp (n + i) ∧ 0 ≤ v ∧ (i = 0 → v = 0)) ⟨0, none, rfl, Sam.refl _, hT, Int.le_refl _, fun _ => rfl⟩ ?_ ?_
  · rintro i σ' H' hi ⟨v, c3, rfl, s1, hT1, v0, vz⟩
    have hi0 : i = 0 := by have : (1 : Int).toNat = 1 := rfl; omega
    subst hi0
    cases vz rfl
    walk_at "rd"
    refine rd_I c15 ?_
    refine rd_I (mul_okL (Fits.zero)) ?_
    walk_at "rd"
    refine rd_I c15 ?_
    walk_at "rd"
    refine ⟨tp, _, n, rfl, hT1, by omega, by decide, Fits.of_lt (b := 10 ^ 15 + 1) (by decide) (Nat.le_trans (by decide : 10 ^ 15 + 1 ≤ 2 ^ 60) (Nat.pow_le_pow_right (by decide) (by decide))), fun v H2 s2 hT2 v0 v1 => ?_⟩
    walk_at "rd"
    exact ⟨_, _, rfl, s1.trans s2, hT2, by rw [Int.zero_mul, Int.zero_add]; exact v0, fun z => absurd z (by decide)⟩
  · rintro σ' H' ⟨v, c3, rfl, s1, hT1, v0, _⟩
    walk_at "rd"
    refine ⟨g, rfl, g0, g1, ?_⟩
    have tf := (ten_fits (n := g) g1).2
    refine rd_I (show ten g ≠ 0 by omega) ?_
    exact h _ _ s1 hT1 (Int.fmod_nonneg_of_pos _ tf) (Int.fmod_lt_of_pos _ tf)
abbrev s__law_size : Stmt := top 48
def N__law_size : List Str := ["_law_tape", "_law_figures_here", "_law_sort"]
theorem sc__law_size : FnScope ["_law_tape", "_law_figures_here", "_law_sort"] ["_law_tape", "_law_figures_here"] (defScope s__law_size) := ⟨rfl, rfl, rfl, by decide +kernel, rfl, by decide +kernel, by decide +kernel⟩
def spSize : Sp := fun vs H Q _ => ∃ (tp : Tp) (g : Int) (n : Nat), vs = [.ref tp.d, .int g] ∧ TapeAt H tp n ∧ n ≤ 90000 ∧ 1 ≤ g ∧ g ≤ 12 ∧ ∀ v H', Sam H H' → TapeAt H' tp (n + 3) → 0 ≤ v → v < 90 + ten g → Q (.int v) H'
theorem ok_law_size (T : Txt K mg CP CB CT CE) : Cal P w K mg base L2.CX0 3 "_law_size" spSize := by
  have g_law_draw := ok_law_draw (P := P) (w := w) (base := base) T
  have g_law_ten := ok_law_ten (P := P) (w := w) (base := base) T
  have g_law_long := ok_law_long (P := P) (w := w) (base := base) T
  refine T.f_law_size.cal sc__law_size (fun vs H Q E ⟨tp, g, n, h, _⟩ => by subst h; rfl) (N := N__law_size) fun f cdv A outer s H vs Q E hr h => ?_
  obtain ⟨tp, g, n, rfl, hT, bn, g0, g1, h⟩ := h
  refine ⟨_, (pss_cons (ps_set (i := 2) sc__law_size.nd rfl (Or.inl rfl) (calS g_law_draw pass0 hr (by decide) (by rfl) (pa_cons (pv 0) (pa_cons pe_int pa_nil))))
 (pss_cons (ps_if (pt_cmpR op_lt (pv 2) pe_int (nomark _)) (pss_one (ps_ret (calS g_law_draw pass0 hr (by decide) (by rfl) (pa_cons (pv 0) (pa_cons (pe_ix (ixLK (K := K) rfl) (lstS (pa_cons pe_int (pa_cons pe_int (pa_cons pe_int pa_nil)))) (pv 2) (fun _ _ => rfl)) pa_nil))))) pss_nil)
 (pss_cons (ps_if (pt_cmpR op_eq (pv 2) pe_int (nomark _)) (pss_one (ps_ret (calS g_law_long pass0 hr (by decide) (by rfl) (pa_cons (pv 0) (pa_cons (pe_op op_add pe_int (calS g_law_draw pass0 hr (by decide) (by rfl) (pa_cons (pv 0) (pa_cons (pv 1) pa_nil)))) pa_nil))))) pss_nil)
 (pss_cons (ps_if (pt_cmpR op_eq (pv 2) pe_int (nomark _)) (pss_one (ps_ret (calS g_law_long pass0 hr (by decide) (by rfl) (pa_cons (pv 0) (pa_cons (pv 1) pa_nil))))) pss_nil)
 (pss_one (ps_ret (pe_callB (call_max2S rfl) (by rfl) T.n_max (by decide +kernel) (pa_cons pe_int (pa_cons (pe_op op_sub (pe_op op_sub (calS g_law_ten pass0 hr (by decide) (by rfl) (pa_cons (pe_op op_add pe_int (calS g_law_draw pass0 hr (by decide) (by rfl) (pa_cons (pv 0) (pa_cons (pv 1) pa_nil)))) pa_nil)) (calS g_law_draw pass0 hr (by decide) (by rfl) (pa_cons (pv 0) (pa_cons pe_int pa_nil)))) pe_int) pa_nil))))))))), ?_⟩
  walk_at "rd"
  have f8 : ∀ {m : Int}, m.natAbs < 1000 → Fits 8999 m := fun h => Fits.of_lt h (Nat.le_trans (by decide : 1000 ≤ 2 ^ 10) (Nat.pow_le_pow_right (by decide) (by decide)))
  have tf := ten_fits (n := g) g1
  refine ⟨tp, 6, n, rfl, hT, by omega, by decide, f8 (by decide), fun v H1 s1 hT1 v0 v1 => ?_⟩
  walk_at "rd"
  refine rd_dec (fun c1 => ?_) (fun c1 => ?_)
  · walk_at "rd"
    refine rd_newL fun l H2 n2 s2 hl => ?_
    walk_at "rd"
    have hv : v = 0 ∨ v = 1 ∨ v = 2 := by omega
    have hT2 : TapeAt H2 tp (n + 1) := hT1.same s2
    have key : ∃ k : Int, atI ([.int 5, .int 13, .int 90] : List V) v = some (.int k) ∧ 0 < k ∧ k ≤ 90 := by
      rcases hv with rfl | rfl | rfl
      · exact ⟨5, rfl, by decide, by decide⟩
      · exact ⟨13, rfl, by decide, by decide⟩
      · exact ⟨90, rfl, by decide, by decide⟩
    obtain ⟨k, ek, k0, k1⟩ := key
    refine rd_ixL hl ek ?_
    walk_at "rd"
    refine ⟨tp, k, n + 1, rfl, hT2, by omega, k0, f8 (by omega), fun v2 H3 s3 hT3 w0 w1 => ?_⟩
    exact h _ _ ((s1.trans (.of s2)).trans s3) (hT3.up (by omega)) w0 (by omega)
  · walk_at "rd"
    refine rd_dec (fun c2 => ?_) (fun c2 => ?_)
    · walk_at "rd"
      refine ⟨tp, g, n + 1, rfl, hT1, by omega, by omega, f8 (by omega), fun v2 H2 s2 hT2 w0 w1 => ?_⟩
      walk_at "rd"
      refine ⟨tp, 1 + v2, n + 1 + 1, rfl, hT2, by omega, by omega, by omega, fun v3 H3 s3 hT3 x0 x1 => ?_⟩
      exact h _ _ ((s1.trans s2).trans s3) hT3 x0 (by have := ten_mono (n := 1 + v2) (m := g) (by omega) (by omega); omega)
    · walk_at "rd"
      refine rd_dec (fun c3 => ?_) (fun c3 => ?_)
      · walk_at "rd"
        refine ⟨tp, g, n + 1, rfl, hT1, by omega, by omega, g1, fun v3 H3 s3 hT3 x0 x1 => ?_⟩
        exact h _ _ (s1.trans s3) (hT3.up (by omega)) x0 (by omega)
      · walk_at "rd"
        refine ⟨tp, g, n + 1, rfl, hT1, by omega, by omega, f8 (by omega), fun v2 H2 s2 hT2 w0 w1 => ?_⟩
        walk_at "rd"
        refine ⟨1 + v2, rfl, by omega, by omega, ?_⟩
        walk_at "rd"
        refine ⟨tp, 4, n + 1 + 1, rfl, hT2, by omega, by decide, f8 (by decide), fun v3 H3 s3 hT3 x0 x1 => ?_⟩
        walk_at "rd"
        have := ten_mono (n := 1 + v2) (m := g) (by omega) (by omega)
        exact h _ _ ((s1.trans s2).trans s3) hT3 (by split <;> omega) (by split <;> omega)
abbrev s__law_number : Stmt := top 49
def N__law_number : List Str := ["_law_tape", "_law_figures_here", "_law_found"]
theorem sc__law_number : FnScope ["_law_tape", "_law_figures_here", "_law_found"] ["_law_tape", "_law_figures_here"] (defScope s__law_number) := ⟨rfl, rfl, rfl, by decide +kernel, rfl, by decide +kernel, by decide +kernel⟩
def spNumber : Sp := fun vs H Q _ => ∃ (tp : Tp) (g : Int) (n : Nat), vs = [.ref tp.d, .int g] ∧ TapeAt H tp n ∧ n ≤ 90000 ∧ 1 ≤ g ∧ g ≤ 12 ∧ ∀ v H', Sam H H' → TapeAt H' tp (n + 4) → v.natAbs < 90 + ten g → Q (.int v) H'
theorem ok_law_number (T : Txt K mg CP CB CT CE) : Cal P w K mg base L2.CX0 4 "_law_number" spNumber := by
  have g_law_draw := ok_law_draw (P := P) (w := w) (base := base) T
  have g_law_size := ok_law_size (P := P) (w := w) (base := base) T
  refine T.f_law_number.cal sc__law_number (fun vs H Q E ⟨tp, g, n, h, _⟩ => by subst h; rfl) (N := N__law_number) fun f cdv A outer s H vs Q E hr h => ?_
  obtain ⟨tp, g, n, rfl, hT, bn, g0, g1, h⟩ := h
  refine ⟨_, (pss_cons (ps_set (i := 2) sc__law_number.nd rfl (Or.inl rfl) (calS g_law_size pass0 hr (by decide) (by rfl) (pa_cons (pv 0) (pa_cons (pv 1) pa_nil))))
 (pss_one (ps_ret (pe_ifExp (truK (K := K) rfl (calS g_law_draw pass0 hr (by decide) (by rfl) (pa_cons (pv 0) (pa_cons pe_int pa_nil))) (by intro _; rfl)) (pe_un un_neg (pv 2)) (pv 2))))), ?_⟩
  walk_at "rd"
  refine ⟨tp, g, n, rfl, hT, by omega, g0, g1, fun v H1 s1 hT1 v0 v1 => ?_⟩
  walk_at "rd"
  refine ⟨tp, 2, n + 3, rfl, hT1, by omega, by decide, Fits.of_lt (b := 3) (by decide) (Nat.le_trans (by decide : 3 ≤ 2 ^ 2) (Nat.pow_le_pow_right (by decide) (by decide))), fun v2 H2 s2 hT2 w0 w1 => ?_⟩
  walk_at "rd"
  refine rd_bne (fun hz => ?_) (fun hz => ?_)
  · walk_at "rd"
    exact h _ _ (s1.trans s2) hT2 (by omega)
  · walk_at "rd"
    exact h _ _ (s1.trans s2) hT2 (by omega)
end
end Wk
namespace Wk
set_option linter.all false
set_option maxRecDepth 100000
set_option maxHeartbeats 4000000
open PySem L2
local macro_rules | `(tactic| walk_at "cy") => `(tactic| first
  | assumption
  | ((with_reducible refine' at_mono (H := ?H) ?s ?h); (case s => assumption); (case h => walk_at "cy"))
  | ((with_reducible refine' PlAt.mono (H := ?H) ?s ?h); (case s => assumption); (case h => walk_at "cy")))
local macro_rules | `(tactic| walk_at "rd1") => `(tactic| first
  | (with_reducible refine' rd_seq ?_) | (with_reducible refine' rd_asg ?_) | (with_reducible refine' rd_par ?_) | (with_reducible refine' rd_ret ?_)
  | (with_reducible refine' rd_ifs ?_) | (with_reducible refine' rd_drop ?_) | (with_reducible refine' rd_next ?_) | (with_reducible refine' rd_asgG ?_)
  | ((with_reducible refine' rd_var (v := ?v) ?e ?h); (case e => exact rfl)) | (with_reducible refine' rd_c ?_) | (with_reducible refine' rd_op ?_) | (with_reducible refine' rd_un ?_)
  | (with_reducible refine' rd_cb ?_) | (with_reducible refine' rd_cons ?_) | (with_reducible refine' rd_nil ?_)
  | (with_reducible refine' rd_I0 ?_) | (with_reducible refine' rd_U ?_) | (with_reducible refine' rd_eqI ?_) | (with_reducible refine' rd_neI ?_)
  | (with_reducible refine' rd_test ?_) | (with_reducible refine' rd_bl ?_) | (with_reducible refine' rd_not ?_) | (with_reducible refine' rd_and ?_) | (with_reducible refine' rd_or ?_)
  | (with_reducible refine' rd_t ?_) | (with_reducible refine' rd_f ?_) | (with_reducible refine' rd_nt ?_) | (with_reducible refine' rd_nf ?_)
  | (with_reducible refine' rd_andV ?_) | (with_reducible refine' rd_orV ?_) | (with_reducible refine' rd_notV ?_) | (with_reducible refine' rd_B ?_) | (with_reducible refine' rd_forR1 ?_) | (with_reducible refine' rd_forR2 ?_) | (with_reducible refine' rd_for ?_) | (with_reducible refine' rd_iT ?_) | (with_reducible refine' rd_iL ?_) | (with_reducible refine' rd_lc ?_)
  | (with_reducible refine' rd_if ?_) | (with_reducible refine' rd_isNr ?_) | (with_reducible refine' rd_isN0 ?_) | (with_reducible refine' rd_notNr ?_) | (with_reducible refine' rd_notN0 ?_) | (with_reducible refine' rd_abs ?_) | ((with_reducible refine' rd_lenL (xs := ?xs) ?f ?h); (case f => walk_at "cy")) | ((with_reducible refine' rd_lenT (xs := ?xs) ?f ?h); (case f => walk_at "cy")) | (with_reducible refine' rd_mt ?_) | (with_reducible refine' rd_bm ?_) | (with_reducible refine' rd_tru ?_) | (with_reducible refine' rd_truInt ?_) | (with_reducible refine' rd_fld ?_)
  | ((with_reducible refine' rd_ixT (xs := ?xs) (v := ?v) ?f ?e ?h); (case f => walk_at "cy"); (case e => exact rfl))
  | ((with_reducible refine' rd_ixL (xs := ?xs) (v := ?v) ?f ?e ?h); (case f => walk_at "cy"); (case e => exact rfl))
  | ((with_reducible refine' rd_gtup (xs := ?xs) ?f ?e ?h); (case f => walk_at "cy"); (case e => exact rfl))
  | (with_reducible refine' rd_gcons ?_) | (with_reducible refine' rd_gnil ?_) | (with_reducible refine' rd_gname ?_))
local macro_rules | `(tactic| walk_at "rd") => `(tactic| repeat walk_at "rd1")
local macro_rules | `(tactic| walk_at "cy") => `(tactic| first
  | assumption
  | ((with_reducible refine' at_mono (H := ?H) ?s ?h); (case s => assumption); (case h => walk_at "cy"))
  | ((with_reducible refine' T2.mono (H := ?H) ?s ?h); (case s => assumption); (case h => walk_at "cy"))
  | ((with_reducible refine' PlAt.mono (H := ?H) ?s ?h); (case s => assumption); (case h => walk_at "cy"))
  | ((with_reducible refine' Pls.mono (H := ?H) ?s ?h); (case s => assumption); (case h => walk_at "cy")))
local macro_rules | `(tactic| walk_at "cy") => `(tactic| first
  | assumption
  | ((with_reducible refine' at_mono (H := ?H) ?s ?h); (case s => assumption); (case h => walk_at "cy"))
  | ((with_reducible refine' T2.mono (H := ?H) ?s ?h); (case s => assumption); (case h => walk_at "cy"))
  | ((with_reducible refine' PlAt.mono (H := ?H) ?s ?h); (case s => assumption); (case h => walk_at "cy"))
  | ((with_reducible refine' Pls.mono (H := ?H) ?s ?h); (case s => assumption); (case h => walk_at "cy"))
  | ((with_reducible refine' TbAt.mono (H := ?H) ?s ?h); (case s => assumption); (case h => walk_at "cy"))
  | ((with_reducible refine' Rws.mono (H := ?H) ?s ?h); (case s => assumption); (case h => walk_at "cy")))
local macro_rules | `(tactic| walk_at "rd") => `(tactic| repeat (first
  | walk_at "rd1"
  | (with_reducible refine' rd_dget ?_)
  | (with_reducible refine' rd_tcells (by assumption) ?_)
  | (with_reducible refine' rd_tat (by assumption) ?_)
  | (with_reducible refine' rd_trest (by assumption) ?_)
  | (with_reducible refine' rd_pairs ?_)
  | (with_reducible refine' rd_pnil ?_)
  | (with_reducible refine' rd_slN ?_)
  | (with_reducible refine' rd_dput ?_)
  | (with_reducible refine' rd_gsub ?_)
  | (with_reducible refine' rd_max ?_)
  | (with_reducible refine' rd_int ?_) | (with_reducible refine' rd_intb ?_)))
section
variable {P : Program} {w : World} {K : PySem.W.Frag} {mg : Str → Option Value} {base : Heap} {CP CB CT CE : Addr}
/-- three numbers in a tuple -/
def T3 (H : Hp) (p : Addr) (g : Pl) : Prop := H p = some (.tup [.int g.x, .int g.y, .int g.a])
theorem T3.mono {H H' : Hp} {p : Addr} {g : Pl} (s : Same H H') (h : T3 H p g) : T3 H' p g := s _ _ h
theorem T3.sam {H H' : Hp} {p : Addr} {g : Pl} (s : Sam H H') (h : T3 H p g) : T3 H' p g := s.tup h
abbrev s__law_mul : Stmt := top 53
def N__law_mul : List Str := ["_law_one", "_law_other"]
theorem sc__law_mul : FnScope ["_law_one", "_law_other"] ["_law_one", "_law_other"] (defScope s__law_mul) := ⟨rfl, rfl, rfl, by decide +kernel, rfl, by decide +kernel, by decide +kernel⟩
def spLMul : Sp := fun vs H Q _ => ∃ (p q : Addr) (g h : Pl) (k : Nat), vs = [.ref p, .ref q] ∧ T3 H p g ∧ T3 H q h ∧ Fits k g.x ∧ Fits k h.y ∧ k ≤ 10000000 ∧ ∀ r H', H r = none → Same H H' → T3 H' r (g.mul h) → Q (.ref r) H'
theorem ok_law_mul (T : Txt K mg CP CB CT CE) : Cal P w K mg base L2.CX0 1 "_law_mul" spLMul := by
  refine T.f_law_mul.cal sc__law_mul (fun vs H Q E ⟨p, q, g, h, k, e, _⟩ => by subst e; rfl) (N := N__law_mul) fun f cdv A outer s H vs Q E hr h => ?_
  obtain ⟨p, q, g, g', k, rfl, hp, hq, f1, f2, hk, h⟩ := h
  refine ⟨_, (pss_one (ps_ret (tupS (pa_cons (pe_op op_add (pe_ix (ixTK (K := K) rfl) (pv 0) pe_int (fun _ _ => rfl)) (pe_ix (ixTK (K := K) rfl) (pv 1) pe_int (fun _ _ => rfl))) (pa_cons (pe_op op_add (pe_ix (ixTK (K := K) rfl) (pv 0) pe_int (fun _ _ => rfl)) (pe_ix (ixTK (K := K) rfl) (pv 1) pe_int (fun _ _ => rfl))) (pa_cons (pe_op op_add (pe_op op_add (pe_ix (ixTK (K := K) rfl) (pv 0) pe_int (fun _ _ => rfl)) (pe_ix (ixTK (K := K) rfl) (pv 1) pe_int (fun _ _ => rfl))) (pe_op op_mulX (pe_ix (ixTK (K := K) rfl) (pv 0) pe_int (fun _ _ => rfl)) (pe_ix (ixTK (K := K) rfl) (pv 1) pe_int (fun _ _ => rfl)))) pa_nil)))))), ?_⟩
  replace hp : H p = some (.tup [.int g.x, .int g.y, .int g.a]) := hp
  replace hq : H q = some (.tup [.int g'.x, .int g'.y, .int g'.a]) := hq
  walk_at "rd"
  refine rd_I (mul_ok f1 f2 (by omega)) ?_
  walk_at "rd"
  exact rd_new fun r H1 n1 s1 hr1 => h r H1 n1 s1 hr1
abbrev s__law_undo : Stmt := top 54
def N__law_undo : List Str := ["_law_one"]
theorem sc__law_undo : FnScope ["_law_one"] ["_law_one"] (defScope s__law_undo) := ⟨rfl, rfl, rfl, by decide +kernel, rfl, by decide +kernel, by decide +kernel⟩
def spLUndo : Sp := fun vs H Q _ => ∃ (p : Addr) (g : Pl) (k : Nat), vs = [.ref p] ∧ T3 H p g ∧ Fits k g.x ∧ Fits k g.y ∧ k ≤ 10000000 ∧ ∀ r H', H r = none → Same H H' → T3 H' r g.inv → Q (.ref r) H'
theorem ok_law_undo (T : Txt K mg CP CB CT CE) : Cal P w K mg base L2.CX0 1 "_law_undo" spLUndo := by
  refine T.f_law_undo.cal sc__law_undo (fun vs H Q E ⟨p, g, k, e, _⟩ => by subst e; rfl) (N := N__law_undo) fun f cdv A outer s H vs Q E hr h => ?_
  obtain ⟨p, g, k, rfl, hp, f1, f2, hk, h⟩ := h
  refine ⟨_, (pss_one (ps_ret (tupS (pa_cons (pe_un un_neg (pe_ix (ixTK (K := K) rfl) (pv 0) pe_int (fun _ _ => rfl))) (pa_cons (pe_un un_neg (pe_ix (ixTK (K := K) rfl) (pv 0) pe_int (fun _ _ => rfl))) (pa_cons (pe_op op_sub (pe_op op_mulX (pe_ix (ixTK (K := K) rfl) (pv 0) pe_int (fun _ _ => rfl)) (pe_ix (ixTK (K := K) rfl) (pv 0) pe_int (fun _ _ => rfl))) (pe_ix (ixTK (K := K) rfl) (pv 0) pe_int (fun _ _ => rfl))) pa_nil)))))), ?_⟩
  replace hp : H p = some (.tup [.int g.x, .int g.y, .int g.a]) := hp
  walk_at "rd"
  refine rd_I (mul_ok f1 f2 (by omega)) ?_
  walk_at "rd"
  exact rd_new fun r H1 n1 s1 hr1 => h r H1 n1 s1 hr1
abbrev s__law_pow : Stmt := top 55
def N__law_pow : List Str := ["_law_one", "_law_times"]
theorem sc__law_pow : FnScope ["_law_one", "_law_times"] ["_law_one", "_law_times"] (defScope s__law_pow) := ⟨rfl, rfl, rfl, by decide +kernel, rfl, by decide +kernel, by decide +kernel⟩
def spLPow : Sp := fun vs H Q _ => ∃ (p : Addr) (n : Int) (g : Pl) (k : Nat), vs = [.ref p, .int n] ∧ T3 H p g ∧ FP k g ∧ Fits k n ∧ k ≤ 1000000 ∧ ∀ r H', H r = none → Same H H' → T3 H' r (g.pow n) → Q (.ref r) H'
theorem ok_law_pow (T : Txt K mg CP CB CT CE) : Cal P w K mg base L2.CX0 1 "_law_pow" spLPow := by
  refine T.f_law_pow.cal sc__law_pow (fun vs H Q E ⟨p, n, g, k, e, _⟩ => by subst e; rfl) (N := N__law_pow) fun f cdv A outer s H vs Q E hr h => ?_
  obtain ⟨p, n, g, k, rfl, hp, fg, fn, hk, h⟩ := h
  refine ⟨_, (pss_one (ps_ret (tupS (pa_cons (pe_op op_mulX (pv 1) (pe_ix (ixTK (K := K) rfl) (pv 0) pe_int (fun _ _ => rfl))) (pa_cons (pe_op op_mulX (pv 1) (pe_ix (ixTK (K := K) rfl) (pv 0) pe_int (fun _ _ => rfl))) (pa_cons (pe_op op_add (pe_op op_mulX (pv 1) (pe_ix (ixTK (K := K) rfl) (pv 0) pe_int (fun _ _ => rfl))) (pe_op op_mulX (pe_op op_mulX (pe_op op_fdX (pe_op op_mulX (pv 1) (pe_op op_sub (pv 1) pe_int)) pe_int) (pe_ix (ixTK (K := K) rfl) (pv 0) pe_int (fun _ _ => rfl))) (pe_ix (ixTK (K := K) rfl) (pv 0) pe_int (fun _ _ => rfl)))) pa_nil)))))), ?_⟩
  replace hp : H p = some (.tup [.int g.x, .int g.y, .int g.a]) := hp
  have fn1 : Fits (k + 2) (n - 1) := fn.sub (Fits.one (a := 1) (by decide)) (by omega) (by omega)
  walk_at "rd"
  refine rd_I (mul_ok fn fg.1 (by omega)) ?_
  walk_at "rd"
  refine rd_I (mul_ok fn fg.2.1 (by omega)) ?_
  walk_at "rd"
  refine rd_I (mul_ok fn fg.2.2 (by omega)) ?_
  walk_at "rd"
  refine rd_I (mul_ok fn fn1 (by omega)) ?_
  walk_at "rd"
  refine rd_I ⟨by decide, Fits.of_lt (b := 3) (by decide) (Nat.le_trans (by decide : 3 ≤ 2 ^ 2) (Nat.pow_le_pow_right (by decide) (by decide)))⟩ ?_
  have et : (n * (n - 1)).fdiv 2 = tri n := by rw [Int.fdiv_eq_ediv_of_nonneg _ (by decide)]; rfl
  rw [et]
  walk_at "rd"
  refine rd_I (mul_ok (fits_tri fn) fg.1 (by omega)) ?_
  walk_at "rd"
  refine rd_I (mul_ok ((fits_tri fn).mul fg.1 (Nat.le_refl _)) fg.2.1 (by omega)) ?_
  walk_at "rd"
  exact rd_new fun r H1 n1 s1 hr1 => h r H1 n1 s1 hr1
abbrev s__law_place : Stmt := top 57
def N__law_place : List Str := ["_law_row_here"]
theorem sc__law_place : FnScope ["_law_row_here"] ["_law_row_here"] (defScope s__law_place) := ⟨rfl, rfl, rfl, by decide +kernel, rfl, by decide +kernel, by decide +kernel⟩
def spLPlace (CP : Addr) : Sp := fun vs H Q _ => ∃ (p : Addr) (g : Pl), vs = [.ref p] ∧ T3 H p g ∧ ∀ r H', H r = none → Same H H' → PlAt CP H' r g → Q (.ref r) H'
theorem ok_law_place (T : Txt K mg CP CB CT CE) : Cal P w K mg base L2.CX0 4 "_law_place" (spLPlace CP) := by
  have g_Place := ok_Place (P := P) (w := w) (base := base) T
  refine T.f_law_place.cal sc__law_place (fun vs H Q E ⟨p, g, e, _⟩ => by subst e; rfl) (N := N__law_place) fun f cdv A outer s H vs Q E hr h => ?_
  obtain ⟨p, g, rfl, hp, h⟩ := h
  refine ⟨_, (pss_one (ps_ret (mkcS g_Place pass0 hr (by decide) (by rfl) place_new (pa_cons (pe_ix (ixTK (K := K) rfl) (pv 0) pe_int (fun _ _ => rfl)) (pa_cons (pe_ix (ixTK (K := K) rfl) (pv 0) pe_int (fun _ _ => rfl)) (pa_cons (pe_ix (ixTK (K := K) rfl) (pv 0) pe_int (fun _ _ => rfl)) pa_nil)))))), ?_⟩
  replace hp : H p = some (.tup [.int g.x, .int g.y, .int g.a]) := hp
  walk_at "rd"
  exact ⟨_, _, _, rfl, h⟩
abbrev s__law_row : Stmt := top 59
def N__law_row : List Str := ["_law_place_here"]
theorem sc__law_row : FnScope ["_law_place_here"] ["_law_place_here"] (defScope s__law_row) := ⟨rfl, rfl, rfl, by decide +kernel, rfl, by decide +kernel, by decide +kernel⟩
def spLRow (CP : Addr) : Sp := fun vs H Q _ => ∃ (p : Addr) (g : Pl), vs = [.ref p] ∧ PlAt CP H p g ∧ ∀ r H', H r = none → Same H H' → T3 H' r g → Q (.ref r) H'
theorem ok_law_row (T : Txt K mg CP CB CT CE) : Cal P w K mg base L2.CX0 1 "_law_row" (spLRow CP) := by
  refine T.f_law_row.cal sc__law_row (fun vs H Q E ⟨p, g, e, _⟩ => by subst e; rfl) (N := N__law_row) fun f cdv A outer s H vs Q E hr h => ?_
  obtain ⟨p, g, rfl, hp, h⟩ := h
  refine ⟨_, (pss_one (ps_ret (tupS (pa_cons (fldK (K := K) rfl (pv 0) rfl) (pa_cons (fldK (K := K) rfl (pv 0) rfl) (pa_cons (fldK (K := K) rfl (pv 0) rfl) pa_nil)))))), ?_⟩
  walk_at "rd"
  refine rd_px T hp ?_
  walk_at "rd"
  refine rd_py T hp ?_
  walk_at "rd"
  refine rd_pa T hp ?_
  walk_at "rd"
  exact rd_new fun r H1 n1 s1 hr1 => h r H1 n1 s1 hr1
abbrev s__law_whole_is : Stmt := top 51
def N__law_whole_is : List Str := ["_law_value", "_law_due"]
theorem sc__law_whole_is : FnScope ["_law_value", "_law_due"] ["_law_value", "_law_due"] (defScope s__law_whole_is) := ⟨rfl, rfl, rfl, by decide +kernel, rfl, by decide +kernel, by decide +kernel⟩
def spWhole : Sp := fun vs H Q _ => ∃ (a b : Int), vs = [.int a, .int b] ∧ Q (.bl (decide (a = b))) H
theorem ok_law_whole_is (T : Txt K mg CP CB CT CE) : Cal P w K mg base L2.CX0 1 "_law_whole_is" spWhole := by
  refine T.f_law_whole_is.cal sc__law_whole_is (fun vs H Q E ⟨a, b, e, _⟩ => by subst e; rfl) (N := N__law_whole_is) fun f cdv A outer s H vs Q E hr h => ?_
  obtain ⟨a, b, rfl, h⟩ := h
  refine ⟨_, (pss_one (ps_ret (pe_and (pe_callB (isiK (K := K) rfl) (by rfl) T.n_isinstance (by decide +kernel) (pa_cons (pv 0) (pa_cons (pe_bltn (v := .ty "int") (by rfl) T.n_int (by decide +kernel) rfl) pa_nil))) (pe_and (pe_not (pe_callB (isiK (K := K) rfl) (by rfl) T.n_isinstance (by decide +kernel) (pa_cons (pv 0) (pa_cons (pe_bltn (v := .ty "bool") (by rfl) T.n_bool (by decide +kernel) rfl) pa_nil)))) (pe_one (pe_cmpR op_eq (pv 0) (pv 1) (nomark _))))))), ?_⟩
  walk_at "rd"
  refine rd_isInt ?_
  walk_at "rd"
  refine rd_isBool ?_
  walk_at "rd"
  exact h
abbrev s__law_truth : Stmt := top 52
def N__law_truth : List Str := ["_law_value", "_law_due"]
theorem sc__law_truth : FnScope ["_law_value", "_law_due"] ["_law_value", "_law_due"] (defScope s__law_truth) := ⟨rfl, rfl, rfl, by decide +kernel, rfl, by decide +kernel, by decide +kernel⟩
def spTruth : Sp := fun vs H Q _ => ∃ (a b : Bool), vs = [.bl a, .bl b] ∧ Q (.bl (a == b)) H
theorem ok_law_truth (T : Txt K mg CP CB CT CE) : Cal P w K mg base L2.CX0 1 "_law_truth" spTruth := by
  refine T.f_law_truth.cal sc__law_truth (fun vs H Q E ⟨a, b, e, _⟩ => by subst e; rfl) (N := N__law_truth) fun f cdv A outer s H vs Q E hr h => ?_
  obtain ⟨a, b, rfl, h⟩ := h
  refine ⟨_, (pss_one (ps_ret (pe_ifExp (pt_val (pv 1)) (pe_cmpR op_isBl (pv 0) pe_bl (nomark _)) (pe_cmpR op_isBl (pv 0) pe_bl (nomark _))))), ?_⟩
  walk_at "rd"
  cases b with
  | true =>
    refine rd_t ?_
    walk_at "rd"
    exact ⟨a, true, rfl, rfl, by cases a <;> exact h⟩
  | false =>
    refine rd_f ?_
    walk_at "rd"
    exact ⟨a, false, rfl, rfl, by cases a <;> exact h⟩
abbrev s__law_gcd : Stmt := top 50
def N__law_gcd : List Str := ["_law_one", "_law_other", "_law_k"]
theorem sc__law_gcd : FnScope ["_law_one", "_law_other", "_law_k"] ["_law_one", "_law_other"] (defScope s__law_gcd) := ⟨rfl, rfl, rfl, by decide +kernel, rfl, by decide +kernel, by decide +kernel⟩
def spLGcd : Sp := fun vs H Q _ => ∃ (a b M : Int), vs = [.int a, .int b] ∧ 0 < a ∧ a ≤ M ∧ 0 < b ∧ b ≤ M ∧ ∀ r, 0 < r → r ≤ M → Q (.int r) H
theorem ok_law_gcd (T : Txt K mg CP CB CT CE) : Cal P w K mg base L2.CX0 1 "_law_gcd" spLGcd := by
  refine T.f_law_gcd.cal sc__law_gcd (fun vs H Q E ⟨a, b, M, e, _⟩ => by subst e; rfl) (N := N__law_gcd) fun f cdv A outer s H vs Q E hr h => ?_
  obtain ⟨a, b, M, rfl, a0, a1, b0, b1, h⟩ := h
  refine ⟨_, (pss_cons (ps_par (i := 0) (j := 1) rfl sc__law_gcd.nd rfl rfl (by decide) rfl rfl (pa_cons (pe_callB call_absS (by rfl) T.n_abs (by decide +kernel) (pa_cons (pv 0) pa_nil)) (pa_cons (pe_callB call_absS (by rfl) T.n_abs (by decide +kernel) (pa_cons (pv 1) pa_nil)) pa_nil)) (by rfl))
 (pss_cons (ps_for PassesOwn.never rfl (pi_range1 rfl T.n_range (pa_cons (pe_op op_pow pe_int pe_int) pa_nil)) (pg_name (i := 2) sc__law_gcd.nd rfl (Or.inl rfl)) (pss_cons (ps_if (pt_cmpR op_eq (pv 1) pe_int (nomark _)) (pss_one ps_break) pss_nil)
 (pss_one (ps_par (i := 0) (j := 1) rfl sc__law_gcd.nd rfl rfl (by decide) rfl rfl (pa_cons (pv 1) (pa_cons (pe_op op_modN (pe_callTy call_int1S (by rfl) T.n_int (by decide +kernel) (pa_cons (pv 0) pa_nil)) (pv 1)) pa_nil)) (by rfl)))))
 (pss_one (ps_ret (pv 0))))), ?_⟩
  walk_at "rd"
  refine rd_I (show CPow 10 6 from ⟨by decide, by decide, by decide⟩) ?_
  walk_at "rd"
  refine ⟨_, rfl, by decide, by decide, ?_⟩
  rw [if_neg (by omega), if_neg (by omega)]
  refine rd_rng (fun i σ' H' => ∃ x y c, σ' = [some (.int x), some (.int y), c] ∧ H' = H ∧ 0 < x ∧ x ≤ M ∧ 0 ≤ y ∧ y ≤ M) ⟨a, b, none, rfl, rfl, a0, a1, by omega, b1⟩ ?_ ?_
  · rintro i σ' H' hi ⟨x, y, c, rfl, rfl, x0, x1, y0, y1⟩
    walk_at "rd"
    refine rd_dec (fun hz => ?_) (fun hz => ?_)
    · show (tRet (tVar 0)) _ _ _
      walk_at "rd"
      exact h x x0 x1
    · walk_at "rd"
      refine rd_I hz ?_
      walk_at "rd"
      have := Int.fmod_lt_of_pos x (show 0 < y by omega)
      exact ⟨y, _, _, rfl, rfl, by omega, y1, Int.fmod_nonneg_of_pos _ (by omega), by omega⟩
  · rintro σ' H' ⟨x, y, c, rfl, rfl, x0, x1, y0, y1⟩
    walk_at "rd"
    exact h x x0 x1
end
end Wk
namespace Wk
set_option linter.all false
set_option maxRecDepth 100000
set_option maxHeartbeats 4000000
open PySem L2
local macro_rules | `(tactic| walk_at "cy") => `(tactic| first
  | assumption
  | ((with_reducible refine' at_mono (H := ?H) ?s ?h); (case s => assumption); (case h => walk_at "cy"))
  | ((with_reducible refine' PlAt.mono (H := ?H) ?s ?h); (case s => assumption); (case h => walk_at "cy")))
local macro_rules | `(tactic| walk_at "rd1") => `(tactic| first
  | (with_reducible refine' rd_seq ?_) | (with_reducible refine' rd_asg ?_) | (with_reducible refine' rd_par ?_) | (with_reducible refine' rd_ret ?_)
  | (with_reducible refine' rd_ifs ?_) | (with_reducible refine' rd_drop ?_) | (with_reducible refine' rd_next ?_) | (with_reducible refine' rd_asgG ?_)
  | ((with_reducible refine' rd_var (v := ?v) ?e ?h); (case e => exact rfl)) | (with_reducible refine' rd_c ?_) | (with_reducible refine' rd_op ?_) | (with_reducible refine' rd_un ?_)
  | (with_reducible refine' rd_cb ?_) | (with_reducible refine' rd_cons ?_) | (with_reducible refine' rd_nil ?_)
  | (with_reducible refine' rd_I0 ?_) | (with_reducible refine' rd_U ?_) | (with_reducible refine' rd_eqI ?_) | (with_reducible refine' rd_neI ?_)
  | (with_reducible refine' rd_test ?_) | (with_reducible refine' rd_bl ?_) | (with_reducible refine' rd_not ?_) | (with_reducible refine' rd_and ?_) | (with_reducible refine' rd_or ?_)
  | (with_reducible refine' rd_t ?_) | (with_reducible refine' rd_f ?_) | (with_reducible refine' rd_nt ?_) | (with_reducible refine' rd_nf ?_)
  | (with_reducible refine' rd_andV ?_) | (with_reducible refine' rd_orV ?_) | (with_reducible refine' rd_notV ?_) | (with_reducible refine' rd_B ?_) | (with_reducible refine' rd_forR1 ?_) | (with_reducible refine' rd_forR2 ?_) | (with_reducible refine' rd_for ?_) | (with_reducible refine' rd_iT ?_) | (with_reducible refine' rd_iL ?_) | (with_reducible refine' rd_lc ?_)
  | (with_reducible refine' rd_if ?_) | (with_reducible refine' rd_isNr ?_) | (with_reducible refine' rd_isN0 ?_) | (with_reducible refine' rd_notNr ?_) | (with_reducible refine' rd_notN0 ?_) | (with_reducible refine' rd_abs ?_) | ((with_reducible refine' rd_lenL (xs := ?xs) ?f ?h); (case f => walk_at "cy")) | ((with_reducible refine' rd_lenT (xs := ?xs) ?f ?h); (case f => walk_at "cy")) | (with_reducible refine' rd_mt ?_) | (with_reducible refine' rd_bm ?_) | (with_reducible refine' rd_tru ?_) | (with_reducible refine' rd_truInt ?_) | (with_reducible refine' rd_fld ?_)
  | ((with_reducible refine' rd_ixT (xs := ?xs) (v := ?v) ?f ?e ?h); (case f => walk_at "cy"); (case e => exact rfl))
  | ((with_reducible refine' rd_ixL (xs := ?xs) (v := ?v) ?f ?e ?h); (case f => walk_at "cy"); (case e => exact rfl))
  | ((with_reducible refine' rd_gtup (xs := ?xs) ?f ?e ?h); (case f => walk_at "cy"); (case e => exact rfl))
  | (with_reducible refine' rd_gcons ?_) | (with_reducible refine' rd_gnil ?_) | (with_reducible refine' rd_gname ?_))
local macro_rules | `(tactic| walk_at "rd") => `(tactic| repeat walk_at "rd1")
local macro_rules | `(tactic| walk_at "cy") => `(tactic| first
  | assumption
  | ((with_reducible refine' at_mono (H := ?H) ?s ?h); (case s => assumption); (case h => walk_at "cy"))
  | ((with_reducible refine' T2.mono (H := ?H) ?s ?h); (case s => assumption); (case h => walk_at "cy"))
  | ((with_reducible refine' PlAt.mono (H := ?H) ?s ?h); (case s => assumption); (case h => walk_at "cy"))
  | ((with_reducible refine' Pls.mono (H := ?H) ?s ?h); (case s => assumption); (case h => walk_at "cy")))
local macro_rules | `(tactic| walk_at "cy") => `(tactic| first
  | assumption
  | ((with_reducible refine' at_mono (H := ?H) ?s ?h); (case s => assumption); (case h => walk_at "cy"))
  | ((with_reducible refine' T2.mono (H := ?H) ?s ?h); (case s => assumption); (case h => walk_at "cy"))
  | ((with_reducible refine' PlAt.mono (H := ?H) ?s ?h); (case s => assumption); (case h => walk_at "cy"))
  | ((with_reducible refine' Pls.mono (H := ?H) ?s ?h); (case s => assumption); (case h => walk_at "cy"))
  | ((with_reducible refine' TbAt.mono (H := ?H) ?s ?h); (case s => assumption); (case h => walk_at "cy"))
  | ((with_reducible refine' Rws.mono (H := ?H) ?s ?h); (case s => assumption); (case h => walk_at "cy")))
local macro_rules | `(tactic| walk_at "rd") => `(tactic| repeat (first
  | walk_at "rd1"
  | (with_reducible refine' rd_dget ?_)
  | (with_reducible refine' rd_tcells (by assumption) ?_)
  | (with_reducible refine' rd_tat (by assumption) ?_)
  | (with_reducible refine' rd_trest (by assumption) ?_)
  | (with_reducible refine' rd_pairs ?_)
  | (with_reducible refine' rd_pnil ?_)
  | (with_reducible refine' rd_slN ?_)
  | (with_reducible refine' rd_dput ?_)
  | (with_reducible refine' rd_gsub ?_)
  | (with_reducible refine' rd_max ?_)
  | (with_reducible refine' rd_int ?_) | (with_reducible refine' rd_intb ?_)))
/-- rows of three numbers -/
def Rws3 (H : Hp) (xs : List V) (gs : List Pl) : Prop := xs.length = gs.length ∧ ∀ (i : Nat) g, gs[i]? = some g → ∃ p, xs[i]? = some (.ref p) ∧ T3 H p g
theorem Rws3.mono {H H' : Hp} {xs : List V} {gs : List Pl} (s : Same H H') (h : Rws3 H xs gs) : Rws3 H' xs gs := ⟨h.1, fun i g e => let ⟨p, e1, e2⟩ := h.2 i g e; ⟨p, e1, e2.mono s⟩⟩
theorem Rws3.sam {H H' : Hp} {xs : List V} {gs : List Pl} (s : Sam H H') (h : Rws3 H xs gs) : Rws3 H' xs gs := ⟨h.1, fun i g e => let ⟨p, e1, e2⟩ := h.2 i g e; ⟨p, e1, e2.sam s⟩⟩
theorem Rws3.monoB {H H' : Hp} {D : Addr} {xs zs : List V} {gs : List Pl} (hD : H D = some (.lst zs)) (s : SameB D H H') (h : Rws3 H xs gs) : Rws3 H' xs gs := ⟨h.1, fun i g e => let ⟨p, e1, e2⟩ := h.2 i g e; ⟨p, e1, s _ _ (ne_of (show H p = _ from e2) hD (by intro z; cases z)) e2⟩⟩
theorem Rws3.get {H : Hp} {xs : List V} {gs : List Pl} (h : Rws3 H xs gs) {i : Nat} {x : V} (e : xs[i]? = some x) : ∃ p g, x = .ref p ∧ gs[i]? = some g ∧ T3 H p g := by
  have hi : i < gs.length := by rw [← h.1]; exact (List.getElem?_eq_some_iff.mp e).1
  obtain ⟨p, e1, e2⟩ := h.2 i _ (List.getElem?_eq_getElem hi)
  rw [e] at e1
  exact ⟨p, _, Option.some.inj e1, List.getElem?_eq_getElem hi, e2⟩
theorem Rws3.nil {H : Hp} : Rws3 H [] [] := ⟨rfl, fun i g e => by simp at e⟩
theorem Rws3.snoc {H : Hp} {xs : List V} {gs : List Pl} {p : Addr} {g : Pl} (h : Rws3 H xs gs) (hp : T3 H p g) : Rws3 H (xs ++ [.ref p]) (gs ++ [g]) := by
  refine ⟨by rw [List.length_append, List.length_append, h.1]; rfl, fun k g' e => ?_⟩
  by_cases hk : k < gs.length
  · rw [List.getElem?_append_left hk] at e
    obtain ⟨q, e1, e2⟩ := h.2 k g' e
    exact ⟨q, by rw [List.getElem?_append_left (by rw [h.1]; exact hk)]; exact e1, e2⟩
  · have hk2 := (List.getElem?_eq_some_iff.mp e).1
    rw [List.length_append] at hk2
    have e1 : [g].length = 1 := rfl
    have : k = gs.length := by omega
    subst this
    rw [List.getElem?_append_right (Nat.le_refl _), Nat.sub_self] at e
    cases (Option.some.inj e : g = g')
    exact ⟨p, by rw [← h.1, List.getElem?_append_right (Nat.le_refl _), Nat.sub_self]; rfl, hp⟩
section
variable {P : Program} {w : World} {K : PySem.W.Frag} {mg : Str → Option Value} {base : Heap} {CP CB CT CE : Addr}
/-- a comprehension over a list whose elements may change the heap -/
theorem rd_lcG {σ : L2.St} {H : Hp} {te : TE} {Q : VK} {j : Nat} {vs : List Nat} {p : Addr} {xs : List V} (hn : xs.length ≤ 1000) (Iv : Nat → List V → Hp → Prop) (h0 : Iv 0 [] H) (wr : ∀ i ys H1 D zs zs', H D = none → H1 D = some (.lst zs') → Iv i ys H1 → Iv i ys (upd H1 D (.lst zs))) (wr0 : ∀ D, H D = none → Iv 0 [] (upd H D (.lst [])))
    (keep : ∀ i ys H1, Iv i ys H1 → H1 p = some (.lst xs)) (hw : ∀ x, wipe ((wipe σ vs).set j (some x)) vs = wipe σ vs)
    (turn : ∀ (i : Nat) x ys H1, xs[i]? = some x → Iv i ys H1 → ys.length = i → ∀ D, H D = none → H1 D = some (.lst ys) → ∀ F : VK, (∀ y H2, H2 D = some (.lst ys) → Iv (i + 1) (ys ++ [y]) H2 → F y H2) → te ((wipe σ vs).set j (some x)) H1 F)
    (k : ∀ D ys H', H D = none → H' D = some (.lst ys) → ys.length = xs.length → Iv xs.length ys H' → Q (.ref D) H') : rItL K (lcBody σ (gName j) te vs Q) (.ref p) H := by
  refine ⟨p, rfl, ⟨xs, SqL.of (keep _ _ _ h0)⟩, fun D hD => lc_list (tt := tYes) (Qd := fun H' => Q (.ref D) H') (fun i H' => ∃ ys, H' D = some (.lst ys) ∧ ys.length = i ∧ Iv i ys H') ⟨[], upd_same, rfl, wr0 D hD⟩ (fun i H' _ q => let ⟨ys, _, _, e⟩ := q; SqL.of (keep _ _ _ e)) (fun i x H' hx q => ⟨hw x, ?_⟩) fun H' q => ?_⟩
  · obtain ⟨ys, e1, e2, e3⟩ := q
    refine turn i x ys H' hx e3 e2 D hD e1 _ fun y H2 a1 a2 => ⟨ys, a1, Nat.lt_of_lt_of_le (show ys.length < 100000 by have := (List.getElem?_eq_some_iff.mp hx).1; omega) (by decide), ys ++ [y], upd_same, by rw [List.length_append, e2]; rfl, wr _ _ _ _ _ _ hD a1 a2⟩
  · obtain ⟨ys, e1, e2, e3⟩ := q
    exact k D ys H' hD e1 e2 e3
abbrev s__law_prod : Stmt := top 56
def N__law_prod : List Str := ["_law_rows", "_law_found", "_law_row_here"]
theorem sc__law_prod : FnScope ["_law_rows", "_law_found", "_law_row_here"] ["_law_rows"] (defScope s__law_prod) := ⟨rfl, rfl, rfl, by decide +kernel, rfl, by decide +kernel, by decide +kernel⟩
def prodL (gs : List Pl) : Pl := gs.foldl Pl.mul home
def spLProd : Sp := fun vs H Q _ => ∃ (l : Addr) (xs : List V) (gs : List Pl) (k : Nat), vs = [.ref l] ∧ H l = some (.lst xs) ∧ Rws3 H xs gs ∧ gs.length ≤ 2 ∧ (∀ g ∈ gs, Fits k g.x ∧ Fits k g.y) ∧ k ≤ 1000000 ∧ ∀ r H', Same H H' → T3 H' r (prodL gs) → Q (.ref r) H'
theorem ok_law_prod (T : Txt K mg CP CB CT CE) : Cal P w K mg base L2.CX0 2 "_law_prod" spLProd := by
  have g_law_mul := ok_law_mul (P := P) (w := w) (base := base) T
  refine T.f_law_prod.cal sc__law_prod (fun vs H Q E ⟨l, xs, gs, k, e, _⟩ => by subst e; rfl) (N := N__law_prod) fun f cdv A outer s H vs Q E hr h => ?_
  obtain ⟨l, xs, gs, k, rfl, hl, hw, g2, fg, hk, h⟩ := h
  refine ⟨_, (pss_cons (ps_set (i := 1) sc__law_prod.nd rfl (Or.inl rfl) (tupS (pa_cons pe_int (pa_cons pe_int (pa_cons pe_int pa_nil)))))
 (pss_cons (ps_for PassesOwn.never rfl (piL (K := K) rfl (pv 0)) (pg_name (i := 2) sc__law_prod.nd rfl (Or.inl rfl)) (pss_one (ps_set (i := 1) sc__law_prod.nd rfl (Or.inl rfl) (calS g_law_mul pass0 hr (by decide) (by rfl) (pa_cons (pv 1) (pa_cons (pv 2) pa_nil))))))
 (pss_one (ps_ret (pv 1))))), ?_⟩
  walk_at "rd"
  refine rd_new fun r0 H1 n1 s1 hr0 => ?_
  walk_at "rd"
  refine rd_forL (s1 _ _ hl) (fun i σ' H' => ∃ r c2, σ' = [some (.ref l), some (.ref r), c2] ∧ Same H H' ∧ T3 H' r (prodL (gs.take i)) ∧ Fits (k + 1 + i) (prodL (gs.take i)).x) ⟨r0, none, rfl, s1, hr0, .zero⟩ (fun i σ' H' _ h => by obtain ⟨_, _, _, s, _⟩ := h; exact s _ _ hl) ?_ ?_
  · rintro i x σ' H' hx ⟨r, c2, rfl, s2, hr1, fx⟩
    obtain ⟨q, g, rfl, eg, hq⟩ := hw.get hx
    have hi : i < gs.length := (List.getElem?_eq_some_iff.mp eg).1
    have fg' := fg g (List.mem_of_getElem? eg)
    have e4 : prodL (gs.take (i + 1)) = (prodL (gs.take i)).mul g := by unfold prodL; rw [List.take_succ, eg, List.foldl_append]; rfl
    walk_at "rd"
    refine ⟨r, q, _, g, k + 10, rfl, hr1, hq.mono s2, fx.mono (by omega), fg'.2.mono (by omega), by omega, fun r2 H2 n2 s3 hr2 => ?_⟩
    walk_at "rd"
    refine ⟨r2, _, rfl, s2.trans s3, by rw [e4]; exact hr2, ?_⟩
    rw [e4]
    exact fx.add (fg'.1.mono (by omega : k ≤ k + 1 + i)) (by omega) (by omega)
  · rintro σ' H' ⟨r, c2, rfl, s2, hr1, fx⟩
    rw [hw.1, List.take_length] at hr1
    walk_at "rd"
    exact h r H' s2 hr1
theorem zip_mem {gs : List Pl} {ns : List Int} {z : Pl} (h : z ∈ List.zipWith Pl.pow gs ns) : ∃ g n, g ∈ gs ∧ n ∈ ns ∧ z = g.pow n := by
  induction gs generalizing ns with
  | nil => simp at h
  | cons g gs ih =>
    cases ns with
    | nil => simp at h
    | cons n ns =>
      rw [List.zipWith_cons_cons] at h
      rcases List.mem_cons.mp h with rfl | h
      · exact ⟨g, n, List.mem_cons_self, List.mem_cons_self, rfl⟩
      · obtain ⟨g', n', a, b, c⟩ := ih h
        exact ⟨g', n', List.mem_cons_of_mem _ a, List.mem_cons_of_mem _ b, c⟩
abbrev s__law_made : Stmt := top 65
def N__law_made : List Str := ["_law_tape", "_law_rows", "_law_home", "_law_figures_here", "_law_found", "_law_row_here"]
theorem sc__law_made : FnScope ["_law_tape", "_law_rows", "_law_home", "_law_figures_here", "_law_found", "_law_row_here"] ["_law_tape", "_law_rows", "_law_home", "_law_figures_here"] (defScope s__law_made) := ⟨rfl, rfl, rfl, by decide +kernel, rfl, by decide +kernel, by decide +kernel⟩
/-- what is made of rows and a home by numbers -/
def MadeOf (gs : List Pl) (home b : Int) (g : Pl) : Prop := ∃ ns : List Int, ns.length = gs.length ∧ (∀ z ∈ ns, z.natAbs < b) ∧ ∃ m : Int, m.natAbs < b ∧ g = ⟨(prodL (List.zipWith Pl.pow gs ns)).x, (prodL (List.zipWith Pl.pow gs ns)).y, (prodL (List.zipWith Pl.pow gs ns)).a + home * m⟩
def spMade : Sp := fun vs H Q _ => ∃ (tp : Tp) (l : Addr) (xs : List V) (gs : List Pl) (c g : Int) (n k : Nat), vs = [.ref tp.d, .ref l, .int c, .int g] ∧ TapeAt H tp n ∧ n ≤ 80000 ∧ H l = some (.lst xs) ∧ Rws3 H xs gs ∧ gs.length ≤ 2 ∧ (∀ g ∈ gs, FP k g) ∧ Fits k c ∧ 41 ≤ k ∧ k ≤ 10000 ∧ 1 ≤ g ∧ g ≤ 12 ∧
  ∀ r v H', Sam H H' → TapeAt H' tp (n + 12) → T3 H' r v → MadeOf gs c (90 + ten g) v → Q (.ref r) H'
theorem ok_law_made (T : Txt K mg CP CB CT CE) : Cal P w K mg base L2.CX0 5 "_law_made" spMade := by
  have g_law_prod := ok_law_prod (P := P) (w := w) (base := base) T
  have g_law_pow := ok_law_pow (P := P) (w := w) (base := base) T
  have g_law_number := ok_law_number (P := P) (w := w) (base := base) T
  refine T.f_law_made.cal sc__law_made (fun vs H Q E ⟨tp, l, xs, gs, c, g, n, k, e, _⟩ => by subst e; rfl) (N := N__law_made) fun f cdv A outer s H vs Q E hr h => ?_
  obtain ⟨tp, l, xs, gs, c, g, n, k, rfl, hT, bn, hl, hw, g2, fg, fc, k0, k1, b0, b1, h⟩ := h
  refine ⟨_, (pss_cons (ps_set (i := 4) sc__law_made.nd rfl (Or.inl rfl) (calS g_law_prod pass0 hr (by decide) (by rfl) (pa_cons (pe_lc (own := [("_law_row_here", 5)]) (g := gName 5) (tt := tYes) (by rfl) sc__law_made.nd (piL (K := K) rfl (pv 1)) (blkOk_by (own := [("_law_row_here", 5)]) (N := N__law_made) (sc := defScope s__law_made) (by decide +kernel)) (fun _ _ _ _ _ => pg_name (i := 5) sc__law_made.nd rfl (Or.inl rfl)) (fun _ _ _ _ _ => pts_nil) (fun _ _ _ _ _ => by exact (calS g_law_pow pass0 hr (by decide) (by rfl) (pa_cons (pv 5) (pa_cons (calS g_law_number pass0 hr (by decide) (by rfl) (pa_cons (pv 0) (pa_cons (pv 3) pa_nil))) pa_nil))))) pa_nil)))
 (pss_one (ps_ret (tupS (pa_cons (pe_ix (ixTK (K := K) rfl) (pv 4) pe_int (fun _ _ => rfl)) (pa_cons (pe_ix (ixTK (K := K) rfl) (pv 4) pe_int (fun _ _ => rfl)) (pa_cons (pe_op op_add (pe_ix (ixTK (K := K) rfl) (pv 4) pe_int (fun _ _ => rfl)) (pe_op op_mulX (pv 2) (calS g_law_number pass0 hr (by decide) (by rfl) (pa_cons (pv 0) (pa_cons (pv 3) pa_nil))))) pa_nil))))))), ?_⟩
  walk_at "rd"
  have fnum : ∀ {v : Int}, v.natAbs < 90 + ten g → Fits 41 v := fun h => by
    have := (ten_fits (n := g) b1).1.lt
    have e : (2 : Nat) ^ 41 = 2 ^ 40 + 2 ^ 40 := by decide
    have e2 : (90 : Nat) ≤ 2 ^ 40 := by decide
    have e3 := (ten_fits (n := g) b1).2
    exact ⟨by omega⟩
  have dT : ∀ D, H D = none → tp.d ≠ D ∧ tp.c ≠ D := fun D hD => by
    obtain ⟨cs, a, r, h1, h2, _⟩ := hT.ex
    exact ⟨fun e => (by rw [e, hD] at h1; cases h1), fun e => (by rw [e, hD] at h2; cases h2)⟩
  refine rd_lcG (xs := xs) (by rw [hw.1]; omega) (fun i ys H' => Sam H H' ∧ TapeAt H' tp (n + 4 * i) ∧ ∃ ns : List Int, ns.length = i ∧ (∀ z ∈ ns, z.natAbs < 90 + ten g) ∧ Rws3 H' ys (List.zipWith Pl.pow (gs.take i) ns)) ⟨Sam.refl _, hT, [], rfl, by simp, by simp only [List.zipWith_nil_right]; exact .nil⟩ ?_ ?_ (fun i ys H1 h => h.1.lst hl) (fun x => rfl) ?_ ?_
  · rintro i ys H1 D zs zs' hD hz ⟨s1, ⟨cs, a, r, t1, t2, t3⟩, ns, e1, e2, e3⟩
    obtain ⟨d1, d2⟩ := dT D hD
    exact ⟨fun b o hu e => by rw [upd_ne (ne_of_none e hD)]; exact s1 _ _ hu e, ⟨cs, a, r, by rw [upd_ne d1]; exact t1, by rw [upd_ne d2]; exact t2, t3⟩, ns, e1, e2, e3.monoB hz SameB.of⟩
  · intro D hD
    obtain ⟨cs, a, r, t1, t2, t3⟩ := hT.ex
    obtain ⟨d1, d2⟩ := dT D hD
    exact ⟨fun b o hu e => by rw [upd_ne (ne_of_none e hD)]; exact e, ⟨cs, a, r, by rw [upd_ne d1]; exact t1, by rw [upd_ne d2]; exact t2, t3⟩, [], rfl, by simp, by simp only [List.zipWith_nil_right]; exact .nil⟩
  · rintro i x ys H1 hx ⟨s1, hT1, ns, e1, e2, e3⟩ hi D hD hD1 F hF
    obtain ⟨q, gg, rfl, eg, hq⟩ := hw.get hx
    have hi2 : i < gs.length := (List.getElem?_eq_some_iff.mp eg).1
    have fgg := fg gg (List.mem_of_getElem? eg)
    walk_at "rd"
    refine ⟨tp, g, _, rfl, hT1, by omega, b0, b1, fun v H2 s2 hT2 hv => ?_⟩
    walk_at "rd"
    refine ⟨q, v, gg, k, rfl, (hq.sam s1).sam s2, fgg, (fnum hv).mono k0, by omega, fun r H3 n3 s3 hr3 => ?_⟩
    refine hF _ H3 (s3 _ _ (s2.lst hD1)) ⟨(s1.trans s2).trans (.of s3), (hT2.same s3), ns ++ [v], by rw [List.length_append, e1]; rfl, fun z hz => ?_, ?_⟩
    · rcases List.mem_append.mp hz with hz | hz
      · exact e2 z hz
      · rw [List.mem_singleton.mp hz]; exact hv
    · have e4 : List.zipWith Pl.pow (gs.take (i + 1)) (ns ++ [v]) = List.zipWith Pl.pow (gs.take i) ns ++ [gg.pow v] := by
        rw [List.take_succ, eg]
        exact List.zipWith_append (by rw [List.length_take, e1]; omega)
      rw [e4]
      exact ((e3.sam s2).mono s3).snoc hr3
  · rintro D ys H' hD hD' hl' ⟨s1, hT1, ns, e1, e2, e3⟩
    rw [hw.1] at e1 hT1 e3
    rw [List.take_length] at e3
    walk_at "rd"
    have fz : ∀ z ∈ List.zipWith Pl.pow gs ns, Fits (k + 41) z.x ∧ Fits (k + 41) z.y := fun z hz => by
      obtain ⟨gg, nn, hg, hn, rfl⟩ := zip_mem hz
      have fgg := fg gg hg
      have f41 := fnum (e2 nn hn)
      exact ⟨f41.mul fgg.1 (by omega), f41.mul fgg.2.1 (by omega)⟩
    refine ⟨D, ys, _, k + 41, rfl, hD', e3, by rw [List.length_zipWith]; omega, fz, by omega, fun r H3 s3 hr3 => ?_⟩
    replace hr3 : H3 r = some (.tup [.int (prodL (List.zipWith Pl.pow gs ns)).x, .int (prodL (List.zipWith Pl.pow gs ns)).y, .int (prodL (List.zipWith Pl.pow gs ns)).a]) := hr3
    walk_at "rd"
    refine ⟨tp, g, _, rfl, hT1.same s3, by omega, b0, b1, fun v H4 s4 hT4 hv => ?_⟩
    refine rd_I (mul_ok fc ((fnum hv).mono k0) (by omega)) ?_
    walk_at "rd"
    refine rd_new fun r2 H5 n5 s5 hr5 => ?_
    exact h r2 ⟨(prodL (List.zipWith Pl.pow gs ns)).x, (prodL (List.zipWith Pl.pow gs ns)).y, (prodL (List.zipWith Pl.pow gs ns)).a + c * v⟩ H5 (((s1.trans (.of s3)).trans s4).trans (.of s5)) ((hT4.same s5).up (by omega)) hr5 ⟨ns, e1, e2, v, hv, rfl⟩
abbrev s__law_hidden : Stmt := top 64
def N__law_hidden : List Str := ["_law_tape", "_law_figures_here", "_law_p", "_law_s", "_law_home"]
theorem sc__law_hidden : FnScope ["_law_tape", "_law_figures_here", "_law_p", "_law_s", "_law_home"] ["_law_tape", "_law_figures_here"] (defScope s__law_hidden) := ⟨rfl, rfl, rfl, by decide +kernel, rfl, by decide +kernel, by decide +kernel⟩
def spHidden : Sp := fun vs H Q _ => ∃ (tp : Tp) (n : Nat), vs = [.ref tp.d, .int 12] ∧ TapeAt H tp n ∧ n ≤ 70000 ∧
  ∀ r l q1 q2 v1 v2 c H', Sam H H' → TapeAt H' tp (n + 20) → H' r = some (.tup [.ref l, .int c]) → H' l = some (.lst [.ref q1, .ref q2]) → T3 H' q1 v1 → T3 H' q2 v2 → Fits 41 v1.x → Fits 41 v1.y → Fits 82 v1.a → v2.x = 0 → Fits 41 v2.y → Fits 82 v2.a → Fits 82 c → Q (.ref r) H'
theorem ok_law_hidden (T : Txt K mg CP CB CT CE) : Cal P w K mg base L2.CX0 4 "_law_hidden" spHidden := by
  have g_law_draw := ok_law_draw (P := P) (w := w) (base := base) T
  have g_law_pick := ok_law_pick (P := P) (w := w) (base := base) T
  have g_law_size := ok_law_size (P := P) (w := w) (base := base) T
  have g_law_gcd := ok_law_gcd (P := P) (w := w) (base := base) T
  refine T.f_law_hidden.cal sc__law_hidden (fun vs H Q E ⟨tp, n, e, _⟩ => by subst e; rfl) (N := N__law_hidden) fun f cdv A outer s H vs Q E hr h => ?_
  obtain ⟨tp, n, rfl, hT, bn, h⟩ := h
  refine ⟨_, (pss_cons (ps_par (i := 2) (j := 3) rfl sc__law_hidden.nd rfl rfl (by decide) rfl rfl (pa_cons (pe_op op_add pe_int (calS g_law_size pass0 hr (by decide) (by rfl) (pa_cons (pv 0) (pa_cons (pv 1) pa_nil)))) (pa_cons (pe_op op_add pe_int (calS g_law_size pass0 hr (by decide) (by rfl) (pa_cons (pv 0) (pa_cons (pv 1) pa_nil)))) pa_nil)) (by rfl))
 (pss_cons (ps_set (i := 4) sc__law_hidden.nd rfl (Or.inl rfl) (calS g_law_pick pass0 hr (by decide) (by rfl) (pa_cons (pv 0) (pa_cons (lstS (pa_cons pe_int (pa_cons (pv 2) (pa_cons (pv 3) (pa_cons (pe_op op_mulX (pv 2) (pv 3)) (pa_cons (calS g_law_gcd pass0 hr (by decide) (by rfl) (pa_cons (pe_op op_mulX (pv 2) (pv 3)) (pa_cons (pe_op op_add pe_int (calS g_law_size pass0 hr (by decide) (by rfl) (pa_cons (pv 0) (pa_cons (pv 1) pa_nil)))) pa_nil))) (pa_cons (calS g_law_gcd pass0 hr (by decide) (by rfl) (pa_cons (pv 2) (pa_cons (pe_op op_add pe_int (calS g_law_draw pass0 hr (by decide) (by rfl) (pa_cons (pv 0) (pa_cons pe_int pa_nil)))) pa_nil))) pa_nil))))))) pa_nil))))
 (pss_one (ps_ret (tupS (pa_cons (lstS (pa_cons (tupS (pa_cons (pv 2) (pa_cons (calS g_law_draw pass0 hr (by decide) (by rfl) (pa_cons (pv 0) (pa_cons (pv 3) pa_nil))) (pa_cons (calS g_law_draw pass0 hr (by decide) (by rfl) (pa_cons (pv 0) (pa_cons (pv 4) pa_nil))) pa_nil)))) (pa_cons (tupS (pa_cons pe_int (pa_cons (pv 3) (pa_cons (calS g_law_draw pass0 hr (by decide) (by rfl) (pa_cons (pv 0) (pa_cons (pv 4) pa_nil))) pa_nil)))) pa_nil))) (pa_cons (pv 4) pa_nil))))))), ?_⟩
  walk_at "rd"
  have t12 : ten 12 = 1000000000000 := by decide
  refine ⟨tp, 12, n, rfl, hT, by omega, by decide, by decide, fun v1 H1 s1 hT1 a0 a1 => ?_⟩
  walk_at "rd"
  refine ⟨tp, 12, _, rfl, hT1, by omega, by decide, by decide, fun v2 H2 s2 hT2 b0 b1 => ?_⟩
  rw [t12] at a1 b1
  walk_at "rd"
  obtain ⟨M, hM⟩ : ∃ M : Int, M = 1000000000090 * 1000000000090 := ⟨_, rfl⟩
  have ps0 : 0 < (1 + v1) * (1 + v2) := Int.mul_pos (by omega) (by omega)
  have ps1 : (1 + v1) * (1 + v2) ≤ M := by rw [hM]; exact Int.mul_le_mul (by omega) (by omega) (by omega) (by decide)
  have fM : ∀ {c : Int}, 0 ≤ c → c ≤ M → Fits 82 c := fun h1 h2 => Fits.of_lt (b := 1000000000090 * 1000000000090 + 1) (by omega) (by decide)
  have fp : ∀ {c : Int}, 0 ≤ c → c ≤ 1000000000090 → Fits 41 c := fun h1 h2 => Fits.of_lt (b := 1000000000091) (by omega) (by decide)
  have up : ∀ {k : Nat} {c : Int}, k ≤ 8999 → Fits k c → Fits 8999 c := fun h1 h2 => h2.mono h1
  refine rd_I (mul_ok (fp (by omega) (by omega)) (fp (by omega) (by omega)) (by decide)) ?_
  walk_at "rd"
  refine rd_I (mul_ok (fp (by omega) (by omega)) (fp (by omega) (by omega)) (by decide)) ?_
  walk_at "rd"
  refine ⟨tp, 12, _, rfl, hT2, by omega, by decide, by decide, fun v3 H3 s3 hT3 c0 c1 => ?_⟩
  rw [t12] at c1
  walk_at "rd"
  refine ⟨_, _, M, rfl, ps0, ps1, by omega, by omega, fun g1 g10 g11 => ?_⟩
  walk_at "rd"
  refine ⟨tp, 60, _, rfl, hT3, by omega, by decide, Fits.of_lt (b := 61) (by decide) (Nat.le_trans (by decide : 61 ≤ 2 ^ 10) (Nat.pow_le_pow_right (by decide) (by decide))), fun v4 H4 s4 hT4 d0 d1 => ?_⟩
  walk_at "rd"
  refine ⟨_, _, M, rfl, by omega, by omega, by omega, by omega, fun g2 g20 g21 => ?_⟩
  walk_at "rd"
  refine rd_newL fun l0 H5 n5 s5 hl0 => ?_
  walk_at "rd"
  refine ⟨tp, l0, _, _, rfl, hT4.same s5, by omega, hl0, (by show 0 < 6; decide), (by show 6 ≤ 100; decide), fun x H6 hx s6 hT6 => ?_⟩
  have hc : ∃ c : Int, x = .int c ∧ 0 < c ∧ c ≤ M := by
    simp only [List.mem_cons, List.not_mem_nil, or_false] at hx
    rcases hx with rfl | rfl | rfl | rfl | rfl | rfl
    · exact ⟨_, rfl, by omega, by omega⟩
    · exact ⟨_, rfl, by omega, by omega⟩
    · exact ⟨_, rfl, by omega, by omega⟩
    · exact ⟨_, rfl, ps0, ps1⟩
    · exact ⟨_, rfl, g10, g11⟩
    · exact ⟨_, rfl, g20, g21⟩
  obtain ⟨c, rfl, e0, e1⟩ := hc
  walk_at "rd"
  refine ⟨tp, _, _, rfl, hT6, by omega, by omega, up (by decide) (fp (c := 1 + v2) (by omega) (by omega)), fun w1 H7 s7 hT7 f0 f1 => ?_⟩
  walk_at "rd"
  refine ⟨tp, _, _, rfl, hT7, by omega, e0, up (by decide) (fM (Int.le_of_lt e0) e1), fun w2 H8 s8 hT8 i0 i1 => ?_⟩
  walk_at "rd"
  refine rd_new fun r1 H9 n9 s9 hr1 => ?_
  walk_at "rd"
  refine ⟨tp, _, _, rfl, hT8.same s9, by omega, e0, up (by decide) (fM (Int.le_of_lt e0) e1), fun w3 H10 s10 hT10 j0 j1 => ?_⟩
  walk_at "rd"
  refine rd_new fun r2 H11 n11 s11 hr2 => ?_
  walk_at "rd"
  refine rd_newL fun l2 H12 n12 s12 hl2 => ?_
  walk_at "rd"
  refine rd_new fun r3 H13 n13 s13 hr3 => ?_
  have sA := ((((((((((s1.trans s2).trans s3).trans s4).trans (.of s5)).trans s6).trans s7).trans s8).trans (.of s9)).trans s10).trans (.of s11)).trans (.of s12)
  exact h r3 l2 r1 r2 ⟨1 + v1, w1, w2⟩ ⟨0, 1 + v2, w3⟩ c H13 (sA.trans (.of s13)) ((((hT10.same s11).same s12).same s13).up (by omega)) hr3 (s13 _ _ hl2) (s13 _ _ (s12 _ _ (s11 _ _ (s10.tup hr1)))) (s13 _ _ (s12 _ _ hr2)) (fp (by show 0 ≤ 1 + v1; omega) (by show 1 + v1 ≤ _; omega)) (fp f0 (by show w1 ≤ _; omega)) (fM i0 (by show w2 ≤ _; omega)) rfl (fp (by show 0 ≤ 1 + v2; omega) (by show 1 + v2 ≤ _; omega)) (fM j0 (by show w3 ≤ _; omega)) (fM (Int.le_of_lt e0) e1)
structure ToldSt (H : Hp) (lf l q1 q2 st : Addr) (v1 v2 : Pl) (s0 s1 : Int) (xs : List V) (gs : List Pl) (H' : Hp) : Prop where
  sam : Sam H H'
  fl : H' lf = some (.lst xs)
  rw : Rws3 H' xs gs
  ld : H' l = some (.lst [.ref q1, .ref q2])
  t1 : T3 H' q1 v1
  t2 : T3 H' q2 v2
  ts : H' st = some (.tup [.int s0, .int s1])
theorem ToldSt.go {H : Hp} {lf l q1 q2 st : Addr} {v1 v2 : Pl} {s0 s1 : Int} {xs : List V} {gs : List Pl} {H' H2 : Hp} (S : ToldSt H lf l q1 q2 st v1 v2 s0 s1 xs gs H') (s : Sam H' H2) : ToldSt H lf l q1 q2 st v1 v2 s0 s1 xs gs H2 :=
  ⟨S.sam.trans s, s.lst S.fl, S.rw.sam s, s.lst S.ld, S.t1.sam s, S.t2.sam s, s.tup S.ts⟩
theorem fits_num {v g : Int} {k : Nat} (h : v.natAbs < 90 + ten g) (e : 90 + ten g ≤ ((2 ^ k : Nat) : Int)) : Fits k v := ⟨by omega⟩
theorem made_told {v1 v2 v : Pl} {c : Int} (h : MadeOf [v1, v2] c (90 + ten 4) v) (f1 : Fits 41 v1.x) (f2 : Fits 41 v1.y) (f3 : Fits 82 v1.a) (x0 : v2.x = 0) (f4 : Fits 41 v2.y) (f5 : Fits 82 v2.a) (fc : Fits 82 c) : ToldB v := by
  obtain ⟨ns, hn, hb, m, hm, rfl⟩ := h
  match ns, hn with
  | [n1, n2], _ =>
    have b4 : (90 : Int) + ten 4 ≤ ((2 ^ 14 : Nat) : Int) := by decide
    have g1 : Fits 14 n1 := fits_num (hb n1 (by simp)) b4
    have g2 : Fits 14 n2 := fits_num (hb n2 (by simp)) b4
    have gm : Fits 14 m := fits_num hm b4
    have e : prodL (List.zipWith Pl.pow [v1, v2] [n1, n2]) = (home.mul (v1.pow n1)).mul (v2.pow n2) := rfl
    rw [e]
    refine ⟨?_, ?_, ?_⟩
    · show Fits 57 (0 + n1 * v1.x + n2 * v2.x)
      rw [x0, Int.zero_add, Int.mul_zero, Int.add_zero]
      exact (g1.mul f1 (k := 57) (by omega))
    · show Fits 57 (0 + n1 * v1.y + n2 * v2.y)
      rw [Int.zero_add]
      exact (g1.mul f2 (k := 55) (by omega)).add (g2.mul f4 (k := 55) (by omega)) (by omega) (by omega)
    · show Fits 120 (((0 + (n1 * v1.a + tri n1 * v1.x * v1.y) + 0 * (n1 * v1.y)) + (n2 * v2.a + tri n2 * v2.x * v2.y) + (0 + n1 * v1.x) * (n2 * v2.y)) + c * m)
      rw [x0, Int.mul_zero, Int.zero_mul, Int.zero_mul, Int.zero_add, Int.zero_add, Int.add_zero, Int.add_zero]
      have h1 : Fits 112 (n1 * v1.a) := g1.mul f3 (by omega)
      have h2 : Fits 112 (tri n1 * v1.x * v1.y) := ((fits_tri g1).mul f1 (k := 71) (by omega)).mul f2 (by omega)
      have h3 : Fits 112 (n2 * v2.a) := g2.mul f5 (by omega)
      have h4 : Fits 112 (n1 * v1.x * (n2 * v2.y)) := (g1.mul f1 (k := 55) (by omega)).mul (g2.mul f4 (k := 55) (by omega)) (by omega)
      have h5 : Fits 112 (c * m) := fc.mul gm (by omega)
      exact ((((h1.add h2 (k := 113) (by omega) (by omega)).add h3 (k := 114) (by omega) (by omega)).add h4 (k := 115) (by omega) (by omega))).add h5 (by omega) (by omega)
abbrev s__law_told : Stmt := top 66
def N__law_told : List Str := ["_law_tape", "_law_figures_here", "_law_sort", "_law_found", "_law_rows", "_law_home", "_law_step", "_law_k", "_law_one", "_law_times"]
theorem sc__law_told : FnScope ["_law_tape", "_law_figures_here", "_law_sort", "_law_found", "_law_rows", "_law_home", "_law_step", "_law_k", "_law_one", "_law_times"] ["_law_tape", "_law_figures_here"] (defScope s__law_told) := ⟨rfl, rfl, rfl, by decide +kernel, rfl, by decide +kernel, by decide +kernel⟩
def spTold : Sp := fun vs H Q _ => ∃ (tp : Tp) (n : Nat), vs = [.ref tp.d, .int 12] ∧ TapeAt H tp n ∧ n ≤ 60000 ∧
  ∀ l xs gs H', Sam H H' → TapeAt H' tp (n + 400) → H' l = some (.lst xs) → Rws3 H' xs gs → gs.length ≤ 6 → (∀ g ∈ gs, ToldB g) → Q (.ref l) H'
theorem ok_law_told (T : Txt K mg CP CB CT CE) : Cal P w K mg base L2.CX0 6 "_law_told" spTold := by
  have g_law_draw := ok_law_draw (P := P) (w := w) (base := base) T
  have g_law_number := ok_law_number (P := P) (w := w) (base := base) T
  have g_law_hidden := ok_law_hidden (P := P) (w := w) (base := base) T
  have g_law_made := ok_law_made (P := P) (w := w) (base := base) T
  refine T.f_law_told.cal sc__law_told (fun vs H Q E ⟨tp, n, e, _⟩ => by subst e; rfl) (N := N__law_told) fun f cdv A outer s H vs Q E hr h => ?_
  obtain ⟨tp, n, rfl, hT, bn, h⟩ := h
  refine ⟨_, (pss_cons (ps_par (i := 2) (j := 3) rfl sc__law_told.nd rfl rfl (by decide) rfl rfl (pa_cons (calS g_law_draw pass0 hr (by decide) (by rfl) (pa_cons (pv 0) (pa_cons pe_int pa_nil))) (pa_cons (lstS pa_nil) pa_nil)) (by rfl))
 (pss_cons (ps_asg (calS g_law_hidden pass0 hr (by decide) (by rfl) (pa_cons (pv 0) (pa_cons (pv 1) pa_nil))) (pg_tup rfl (pgs_cons (pg_name (i := 4) sc__law_told.nd rfl (Or.inl rfl)) (pgs_cons (pg_name (i := 5) sc__law_told.nd rfl (Or.inl rfl)) pgs_nil))))
 (pss_cons (ps_set (i := 6) sc__law_told.nd rfl (Or.inl rfl) (tupS (pa_cons (calS g_law_number pass0 hr (by decide) (by rfl) (pa_cons (pv 0) (pa_cons (pv 1) pa_nil))) (pa_cons (calS g_law_number pass0 hr (by decide) (by rfl) (pa_cons (pv 0) (pa_cons (pv 1) pa_nil))) pa_nil))))
 (pss_cons (ps_for PassesOwn.never rfl (pi_range1 rfl T.n_range (pa_cons (pe_op op_add pe_int (calS g_law_draw pass0 hr (by decide) (by rfl) (pa_cons (pv 0) (pa_cons pe_int pa_nil)))) pa_nil)) (pg_name (i := 7) sc__law_told.nd rfl (Or.inl rfl)) (pss_cons (ps_set (i := 8) sc__law_told.nd rfl (Or.inl rfl) (tupS (pa_cons (calS g_law_number pass0 hr (by decide) (by rfl) (pa_cons (pv 0) (pa_cons (pv 1) pa_nil))) (pa_cons (calS g_law_number pass0 hr (by decide) (by rfl) (pa_cons (pv 0) (pa_cons (pv 1) pa_nil))) (pa_cons (calS g_law_number pass0 hr (by decide) (by rfl) (pa_cons (pv 0) (pa_cons (pv 1) pa_nil))) pa_nil)))))
 (pss_cons (ps_if (pt_cmpR op_eq (pv 2) pe_int (nomark _)) (pss_cons (ps_set (i := 9) sc__law_told.nd rfl (Or.inl rfl) (calS g_law_number pass0 hr (by decide) (by rfl) (pa_cons (pv 0) (pa_cons pe_int pa_nil))))
 (pss_one (ps_set (i := 8) sc__law_told.nd rfl (Or.inl rfl) (tupS (pa_cons (pe_op op_mulX (pv 9) (pe_ix (ixTK (K := K) rfl) (pv 6) pe_int (fun _ _ => rfl))) (pa_cons (pe_op op_mulX (pv 9) (pe_ix (ixTK (K := K) rfl) (pv 6) pe_int (fun _ _ => rfl))) (pa_cons (calS g_law_number pass0 hr (by decide) (by rfl) (pa_cons (pv 0) (pa_cons (pv 1) pa_nil))) pa_nil))))))) pss_nil)
 (pss_cons (ps_if (pt_cmpR op_eq (pv 2) pe_int (nomark _)) (pss_one (ps_set (i := 8) sc__law_told.nd rfl (Or.inl rfl) (tupS (pa_cons pe_int (pa_cons pe_int (pa_cons (pe_ix (ixTK (K := K) rfl) (pv 8) pe_int (fun _ _ => rfl)) pa_nil)))))) pss_nil)
 (pss_cons (ps_if (pt_cmpR op_gt (pv 2) pe_int (nomark _)) (pss_one (ps_set (i := 8) sc__law_told.nd rfl (Or.inl rfl) (calS g_law_made pass0 hr (by decide) (by rfl) (pa_cons (pv 0) (pa_cons (pv 4) (pa_cons (pv 5) (pa_cons pe_int pa_nil))))))) pss_nil)
 (pss_cons (ps_if (pt_cmpR op_eq (pv 2) pe_int (nomark _)) (pss_one (ps_set (i := 8) sc__law_told.nd rfl (Or.inl rfl) (tupS (pa_cons (pe_op op_sub (calS g_law_draw pass0 hr (by decide) (by rfl) (pa_cons (pv 0) (pa_cons pe_int pa_nil))) pe_int) (pa_cons (pe_op op_sub (calS g_law_draw pass0 hr (by decide) (by rfl) (pa_cons (pv 0) (pa_cons pe_int pa_nil))) pe_int) (pa_cons (pe_op op_sub (calS g_law_draw pass0 hr (by decide) (by rfl) (pa_cons (pv 0) (pa_cons pe_int pa_nil))) pe_int) pa_nil)))))) pss_nil)
 (pss_one (ps_expr (pe_bm PySem.F.plainAttrs_list PySem.F.slot_list_append PySem.F.type_list_append mt_append (pv 3) (pa_cons (pv 8) pa_nil))))))))))
 (pss_one (ps_ret (pv 3))))))), ?_⟩
  walk_at "rd"
  have f89 : ∀ {m : Int}, m.natAbs < 100 → Fits 8999 m := fun h => Fits.of_lt h (Nat.le_trans (by decide : 100 ≤ 2 ^ 10) (Nat.pow_le_pow_right (by decide) (by decide)))
  have f12 : ∀ {v : Int}, v.natAbs < 90 + ten 12 → Fits 40 v := fun h => fits_num h (by decide)
  refine ⟨tp, 6, n, rfl, hT, by omega, by decide, f89 (by decide), fun sort H1 s1 hT1 a0 a1 => ?_⟩
  walk_at "rd"
  refine rd_newL fun lf H2 n2 s2 hlf => ?_
  walk_at "rd"
  have nlf : H lf = none ∨ ∃ kvs, H lf = some (.dK kvs) := by
    cases e : H lf with
    | none => exact .inl rfl
    | some o =>
      refine .inr ?_
      cases o with
      | dK kvs => exact ⟨kvs, rfl⟩
      | _ => exact absurd (s1 _ _ (by intro k z; cases z) e) (by rw [n2]; intro z; cases z)
  refine ⟨tp, _, rfl, hT1.same s2, by omega, fun r l q1 q2 v1 v2 c H3 s3 hT3 hr hl hq1 hq2 b1 b2 b3 b4 b5 b6 b7 => ?_⟩
  walk_at "rd"
  refine ⟨tp, 12, _, rfl, hT3, by omega, by decide, by decide, fun s0 H4 s4 hT4 i0 => ?_⟩
  walk_at "rd"
  refine ⟨tp, 12, _, rfl, hT4, by omega, by decide, by decide, fun sx H5 s5 hT5 i1 => ?_⟩
  walk_at "rd"
  refine rd_new fun st H6 n6 s6 hst => ?_
  walk_at "rd"
  have nl : l ≠ lf := fun e => by rw [e, s3.lst hlf] at hl; cases hl
  have S0 : ToldSt H lf l q1 q2 st v1 v2 s0 sx [] [] H6 := ⟨((((s1.trans (.of s2)).trans s3).trans s4).trans s5).trans (.of s6), s6 _ _ (s5.lst (s4.lst (s3.lst hlf))), .nil, s6 _ _ (s5.lst (s4.lst hl)), ((hq1.sam s4).sam s5).mono s6, ((hq2.sam s4).sam s5).mono s6, hst⟩
  have dT : tp.d ≠ lf ∧ tp.c ≠ lf := by
    obtain ⟨cs, a, r, h1, h2, _⟩ := hT1.ex
    exact ⟨fun e => (by rw [e, n2] at h1; cases h1), fun e => (by rw [e, n2] at h2; cases h2)⟩
  refine ⟨tp, 6, _, rfl, hT5.same s6, by omega, by decide, f89 (by decide), fun cnt H7 s7 hT7 c0 c1 => ?_⟩
  walk_at "rd"
  refine ⟨_, rfl, by omega, by omega, ?_⟩
  refine rd_rng (fun i σ' H' => ∃ c7 c8 c9 xs gs, σ' = [some (.ref tp.d), some (.int 12), some (.int sort), some (.ref lf), some (.ref l), some (.int c), some (.ref st), c7, c8, c9] ∧ ToldSt H lf l q1 q2 st v1 v2 s0 sx xs gs H' ∧ TapeAt H' tp (n + 40 + 35 * i) ∧ gs.length ≤ i ∧ ∀ g ∈ gs, ToldB g)
    ⟨none, none, none, [], [], rfl, S0.go s7, hT7.up (by omega), by simp, by simp⟩ ?_ ?_
  · rintro i σ' H' hi ⟨c7, c8, c9, xs, gs, rfl, S, hTi, gl, gB⟩
    have i6 : i < 6 := by omega
    refine rd_gname ?_
    refine rd_seqJ (fun σ' H2 => ∃ r8 v, σ' = [some (.ref tp.d), some (.int 12), some (.int sort), some (.ref lf), some (.ref l), some (.int c), some (.ref st), some (.int (0 + (i : Int))), some (.ref r8), c9] ∧ ToldSt H lf l q1 q2 st v1 v2 s0 sx xs gs H2 ∧ TapeAt H2 tp (n + 40 + 35 * i + 12) ∧ T3 H2 r8 v ∧ ToldB v) (fun N' hN' => ?_) ?_
    · walk_at "rd"
      refine ⟨tp, 12, _, rfl, hTi, by omega, by decide, by decide, fun x1 H2 t1 hU1 k1 => ?_⟩
      walk_at "rd"
      refine ⟨tp, 12, _, rfl, hU1, by omega, by decide, by decide, fun x2 H3 t2 hU2 k2 => ?_⟩
      walk_at "rd"
      refine ⟨tp, 12, _, rfl, hU2, by omega, by decide, by decide, fun x3 H4 t3 hU3 k3 => ?_⟩
      walk_at "rd"
      refine rd_new fun r8 H5 n5 t5 hr8 => ?_
      exact hN' _ _ ⟨r8, ⟨x1, x2, x3⟩, rfl, S.go (((t1.trans t2).trans t3).trans (.of t5)), hU3.same t5, hr8, (f12 k1).mono (by omega), (f12 k2).mono (by omega), (f12 k3).mono (by omega)⟩
    · rintro σ' H2 ⟨r8, v, rfl, S, hU, hr8, tB⟩
      refine rd_seqJ (fun σ' H2 => ∃ r8 v c9, σ' = [some (.ref tp.d), some (.int 12), some (.int sort), some (.ref lf), some (.ref l), some (.int c), some (.ref st), some (.int (0 + (i : Int))), some (.ref r8), c9] ∧ ToldSt H lf l q1 q2 st v1 v2 s0 sx xs gs H2 ∧ TapeAt H2 tp (n + 40 + 35 * i + 20) ∧ T3 H2 r8 v ∧ ToldB v) (fun N' hN' => ?_) ?_
      · walk_at "rd"
        refine rd_dec (fun hz => ?_) (fun hz => ?_)
        · walk_at "rd"
          refine ⟨tp, 5, _, rfl, hU, by omega, by decide, by decide, fun tm H3 t3 hU3 k3 => ?_⟩
          have ftm : Fits 17 tm := fits_num k3 (by decide)
          have S3 := S.go t3
          have hts := S3.ts
          walk_at "rd"
          refine rd_I (mul_ok ftm (f12 i0) (by decide)) ?_
          walk_at "rd"
          refine rd_I (mul_ok ftm (f12 i1) (by decide)) ?_
          walk_at "rd"
          refine ⟨tp, 12, _, rfl, hU3, by omega, by decide, by decide, fun x3 H4 t4 hU4 k4 => ?_⟩
          walk_at "rd"
          refine rd_new fun r9 H5 n5 t5 hr9 => ?_
          exact hN' _ _ ⟨r9, ⟨tm * s0, tm * sx, x3⟩, _, rfl, S3.go (t4.trans (.of t5)), (hU4.same t5).up (by omega), hr9, ftm.mul (f12 i0) (by omega), ftm.mul (f12 i1) (by omega), (f12 k4).mono (by omega)⟩
        · refine rd_next ?_
          exact hN' _ _ ⟨r8, v, _, rfl, S, hU.up (by omega), hr8, tB⟩
      · clear hr8 tB hU S
        rintro σ' H2 ⟨r8, v, c9, rfl, S, hU, hr8, tB⟩
        refine rd_seqJ (fun σ' H2 => ∃ r8 v, σ' = [some (.ref tp.d), some (.int 12), some (.int sort), some (.ref lf), some (.ref l), some (.int c), some (.ref st), some (.int (0 + (i : Int))), some (.ref r8), c9] ∧ ToldSt H lf l q1 q2 st v1 v2 s0 sx xs gs H2 ∧ TapeAt H2 tp (n + 40 + 35 * i + 20) ∧ T3 H2 r8 v ∧ ToldB v) (fun N' hN' => ?_) ?_
        · walk_at "rd"
          refine rd_dec (fun hz => ?_) (fun hz => ?_)
          · have hr8' : H2 r8 = some (.tup [.int v.x, .int v.y, .int v.a]) := hr8
            walk_at "rd"
            refine rd_new fun r9 H5 n5 t5 hr9 => ?_
            exact hN' _ _ ⟨r9, ⟨0, 0, v.a⟩, rfl, S.go (.of t5), hU.same t5, hr9, .zero, .zero, tB.a⟩
          · refine rd_next ?_
            exact hN' _ _ ⟨r8, v, rfl, S, hU, hr8, tB⟩
        · clear hr8 tB hU S
          rintro σ' H2 ⟨r8, v, rfl, S, hU, hr8, tB⟩
          refine rd_seqJ (fun σ' H2 => ∃ r8 v, σ' = [some (.ref tp.d), some (.int 12), some (.int sort), some (.ref lf), some (.ref l), some (.int c), some (.ref st), some (.int (0 + (i : Int))), some (.ref r8), c9] ∧ ToldSt H lf l q1 q2 st v1 v2 s0 sx xs gs H2 ∧ TapeAt H2 tp (n + 40 + 35 * i + 32) ∧ T3 H2 r8 v ∧ ToldB v) (fun N' hN' => ?_) ?_
          · walk_at "rd"
            refine rd_dec (fun hz => ?_) (fun hz => ?_)
            · walk_at "rd"
              refine ⟨tp, l, _, [v1, v2], c, 4, _, 82, rfl, hU, by omega, S.ld, (Rws3.nil.snoc S.t1).snoc S.t2, (by show 2 ≤ 2; decide), fun g hg => ?_, b7, by decide, by decide, by decide, by decide, fun r9 v9 H3 t3 hU3 hr9 md => ?_⟩
              · simp only [List.mem_cons, List.not_mem_nil, or_false] at hg
                rcases hg with rfl | rfl
                · exact ⟨b1.mono (by omega), b2.mono (by omega), b3⟩
                · exact ⟨by rw [b4]; exact .zero, b5.mono (by omega), b6⟩
              · exact hN' _ _ ⟨r9, v9, rfl, S.go t3, hU3, hr9, made_told md b1 b2 b3 b4 b5 b6 b7⟩
            · refine rd_next ?_
              exact hN' _ _ ⟨r8, v, rfl, S, hU.up (by omega), hr8, tB⟩
          · clear hr8 tB hU S
            rintro σ' H2 ⟨r8, v, rfl, S, hU, hr8, tB⟩
            refine rd_seqJ (fun σ' H2 => ∃ r8 v, σ' = [some (.ref tp.d), some (.int 12), some (.int sort), some (.ref lf), some (.ref l), some (.int c), some (.ref st), some (.int (0 + (i : Int))), some (.ref r8), c9] ∧ ToldSt H lf l q1 q2 st v1 v2 s0 sx xs gs H2 ∧ TapeAt H2 tp (n + 40 + 35 * i + 35) ∧ T3 H2 r8 v ∧ ToldB v) (fun N' hN' => ?_) ?_
            · walk_at "rd"
              refine rd_dec (fun hz => ?_) (fun hz => ?_)
              · walk_at "rd"
                refine ⟨tp, 9, _, rfl, hU, by omega, by decide, f89 (by decide), fun x1 H3 t1 hU1 k0 k1 => ?_⟩
                walk_at "rd"
                refine ⟨tp, 9, _, rfl, hU1, by omega, by decide, f89 (by decide), fun x2 H4 t2 hU2 k2 k3 => ?_⟩
                walk_at "rd"
                refine ⟨tp, 9, _, rfl, hU2, by omega, by decide, f89 (by decide), fun x3 H5 t3 hU3 k4 k5 => ?_⟩
                walk_at "rd"
                refine rd_new fun r9 H6 n6 t6 hr9 => ?_
                have fs : ∀ {z : Int} {k : Nat}, 4 ≤ k → 0 ≤ z → z < 9 → Fits k (z - 4) := fun h1 h2 h3 => (Fits.of_lt (a := 4) (b := 9) (by omega) (by decide)).mono h1
                exact hN' _ _ ⟨r9, ⟨x1 - 4, x2 - 4, x3 - 4⟩, rfl, S.go (((t1.trans t2).trans t3).trans (.of t6)), (hU3.same t6).up (by omega), hr9, fs (by decide) k0 k1, fs (by decide) k2 k3, fs (by decide) k4 k5⟩
              · refine rd_next ?_
                exact hN' _ _ ⟨r8, v, rfl, S, hU.up (by omega), hr8, tB⟩
            · clear hr8 tB hU S
              rintro σ' H2 ⟨r8, v, rfl, S, hU, hr8, tB⟩
              walk_at "rd"
              refine rd_bmL S.fl ?_
              walk_at "rd"
              refine rd_append S.fl (by rw [S.rw.1]; omega) fun H3 s3' hlf3 => ?_
              walk_at "rd"
              obtain ⟨cs, a, r, u1, u2, u3⟩ := hU.ex
              refine ⟨_, _, _, xs ++ [.ref r8], gs ++ [v], rfl, ⟨fun b o hu e => ?_, hlf3, (S.rw.monoB S.fl s3').snoc (s3' _ _ (ne_of (show H2 r8 = _ from hr8) S.fl (by intro z; cases z)) hr8), s3' _ _ nl S.ld, s3' _ _ (ne_of (show H2 q1 = _ from S.t1) S.fl (by intro z; cases z)) S.t1, s3' _ _ (ne_of (show H2 q2 = _ from S.t2) S.fl (by intro z; cases z)) S.t2, s3' _ _ (ne_of S.ts S.fl (by intro z; cases z)) S.ts⟩,
                ⟨cs, a, r, s3' _ _ dT.1 u1, s3' _ _ dT.2 u2, u3.1, u3.2.1, u3.2.2.1, by omega, u3.2.2.2.2⟩, by rw [List.length_append]; show _ + 1 ≤ _; omega, fun g hg => ?_⟩
              · refine s3' _ _ (fun z => ?_) (S.sam _ _ hu e)
                rcases nlf with nz | ⟨kvs, nz⟩
                · rw [z, nz] at e; cases e
                · rw [z, nz] at e; cases e; exact hu _ rfl
              · rcases List.mem_append.mp hg with hg | hg
                · exact gB g hg
                · rw [List.mem_singleton.mp hg]; exact tB
  · rintro σ' H' ⟨c7, c8, c9, xs, gs, rfl, S, hTi, gl, gB⟩
    walk_at "rd"
    have e6 : (1 + cnt).toNat ≤ 6 := by omega
    exact h lf xs gs H' S.sam (hTi.up (by omega)) S.fl S.rw (by omega) gB
end
end Wk
namespace Wk
set_option linter.all false
set_option maxRecDepth 100000
set_option maxHeartbeats 4000000
open PySem L2
local macro_rules | `(tactic| walk_at "cy") => `(tactic| first
  | assumption
  | ((with_reducible refine' at_mono (H := ?H) ?s ?h); (case s => assumption); (case h => walk_at "cy"))
  | ((with_reducible refine' PlAt.mono (H := ?H) ?s ?h); (case s => assumption); (case h => walk_at "cy")))
local macro_rules | `(tactic| walk_at "rd1") => `(tactic| first
  | (with_reducible refine' rd_seq ?_) | (with_reducible refine' rd_asg ?_) | (with_reducible refine' rd_par ?_) | (with_reducible refine' rd_ret ?_)
  | (with_reducible refine' rd_ifs ?_) | (with_reducible refine' rd_drop ?_) | (with_reducible refine' rd_next ?_) | (with_reducible refine' rd_asgG ?_)
  | ((with_reducible refine' rd_var (v := ?v) ?e ?h); (case e => exact rfl)) | (with_reducible refine' rd_c ?_) | (with_reducible refine' rd_op ?_) | (with_reducible refine' rd_un ?_)
  | (with_reducible refine' rd_cb ?_) | (with_reducible refine' rd_cons ?_) | (with_reducible refine' rd_nil ?_)
  | (with_reducible refine' rd_I0 ?_) | (with_reducible refine' rd_U ?_) | (with_reducible refine' rd_eqI ?_) | (with_reducible refine' rd_neI ?_)
  | (with_reducible refine' rd_test ?_) | (with_reducible refine' rd_bl ?_) | (with_reducible refine' rd_not ?_) | (with_reducible refine' rd_and ?_) | (with_reducible refine' rd_or ?_)
  | (with_reducible refine' rd_t ?_) | (with_reducible refine' rd_f ?_) | (with_reducible refine' rd_nt ?_) | (with_reducible refine' rd_nf ?_)
  | (with_reducible refine' rd_andV ?_) | (with_reducible refine' rd_orV ?_) | (with_reducible refine' rd_notV ?_) | (with_reducible refine' rd_B ?_) | (with_reducible refine' rd_forR1 ?_) | (with_reducible refine' rd_forR2 ?_) | (with_reducible refine' rd_for ?_) | (with_reducible refine' rd_iT ?_) | (with_reducible refine' rd_iL ?_) | (with_reducible refine' rd_lc ?_)
  | (with_reducible refine' rd_if ?_) | (with_reducible refine' rd_isNr ?_) | (with_reducible refine' rd_isN0 ?_) | (with_reducible refine' rd_notNr ?_) | (with_reducible refine' rd_notN0 ?_) | (with_reducible refine' rd_abs ?_) | ((with_reducible refine' rd_lenL (xs := ?xs) ?f ?h); (case f => walk_at "cy")) | ((with_reducible refine' rd_lenT (xs := ?xs) ?f ?h); (case f => walk_at "cy")) | (with_reducible refine' rd_mt ?_) | (with_reducible refine' rd_bm ?_) | (with_reducible refine' rd_tru ?_) | (with_reducible refine' rd_truInt ?_) | (with_reducible refine' rd_fld ?_)
  | ((with_reducible refine' rd_ixT (xs := ?xs) (v := ?v) ?f ?e ?h); (case f => walk_at "cy"); (case e => exact rfl))
  | ((with_reducible refine' rd_ixL (xs := ?xs) (v := ?v) ?f ?e ?h); (case f => walk_at "cy"); (case e => exact rfl))
  | ((with_reducible refine' rd_gtup (xs := ?xs) ?f ?e ?h); (case f => walk_at "cy"); (case e => exact rfl))
  | (with_reducible refine' rd_gcons ?_) | (with_reducible refine' rd_gnil ?_) | (with_reducible refine' rd_gname ?_))
local macro_rules | `(tactic| walk_at "rd") => `(tactic| repeat walk_at "rd1")
local macro_rules | `(tactic| walk_at "cy") => `(tactic| first
  | assumption
  | ((with_reducible refine' at_mono (H := ?H) ?s ?h); (case s => assumption); (case h => walk_at "cy"))
  | ((with_reducible refine' T2.mono (H := ?H) ?s ?h); (case s => assumption); (case h => walk_at "cy"))
  | ((with_reducible refine' PlAt.mono (H := ?H) ?s ?h); (case s => assumption); (case h => walk_at "cy"))
  | ((with_reducible refine' Pls.mono (H := ?H) ?s ?h); (case s => assumption); (case h => walk_at "cy")))
local macro_rules | `(tactic| walk_at "cy") => `(tactic| first
  | assumption
  | ((with_reducible refine' at_mono (H := ?H) ?s ?h); (case s => assumption); (case h => walk_at "cy"))
  | ((with_reducible refine' T2.mono (H := ?H) ?s ?h); (case s => assumption); (case h => walk_at "cy"))
  | ((with_reducible refine' PlAt.mono (H := ?H) ?s ?h); (case s => assumption); (case h => walk_at "cy"))
  | ((with_reducible refine' Pls.mono (H := ?H) ?s ?h); (case s => assumption); (case h => walk_at "cy"))
  | ((with_reducible refine' TbAt.mono (H := ?H) ?s ?h); (case s => assumption); (case h => walk_at "cy"))
  | ((with_reducible refine' Rws.mono (H := ?H) ?s ?h); (case s => assumption); (case h => walk_at "cy")))
theorem rd_chain {r r' : R2} {ta tb tc : TE} {σ : L2.St} {H : Hp} {Q : VK} (h : ta σ H fun x H1 => tb σ H1 fun y H2 => r x y H2 fun z H3 => ∃ k, z = .bl k ∧ if k = true then tc σ H3 fun w' H4 => r' y w' H4 Q else Q (.bl false) H3) : tChain r r' ta tb tc σ H Q := h
local macro_rules | `(tactic| walk_at "rd") => `(tactic| repeat (first
  | walk_at "rd1"
  | (with_reducible refine' rd_chain ?_)
  | (with_reducible refine' rd_dget ?_)
  | (with_reducible refine' rd_tcells (by assumption) ?_)
  | (with_reducible refine' rd_tat (by assumption) ?_)
  | (with_reducible refine' rd_trest (by assumption) ?_)
  | (with_reducible refine' rd_slN ?_)
  | (with_reducible refine' rd_max ?_)
  | (with_reducible refine' rd_int ?_) | (with_reducible refine' rd_intb ?_)))
section
variable {P : Program} {w : World} {K : PySem.W.Frag} {mg : Str → Option Value} {base : Heap} {CP CB CT CE : Addr}
abbrev s__law_figures : Stmt := top 61
def N__law_figures : List Str := ["_law_rows", "_law_home", "_law_row_here", "_law_left", "_law_counts", "_law_line", "_law_whole", "_law_part"]
theorem sc__law_figures : FnScope ["_law_rows", "_law_home", "_law_row_here", "_law_left", "_law_counts", "_law_line", "_law_whole", "_law_part"] ["_law_rows", "_law_home", "_law_row_here"] (defScope s__law_figures) := ⟨rfl, rfl, rfl, by decide +kernel, rfl, by decide +kernel, by decide +kernel⟩
def spLFig : Sp := fun vs H Q _ => ∃ (p r : Addr) (xs : List V) (S : Tb) (g : Pl) (k : Nat), vs = [.ref p, .int S.c, .ref r] ∧ H p = some (.lst xs) ∧ Rws3 H xs S.rows ∧ S.Ok ∧ TbB S ∧ T3 H r g ∧ FP k g ∧ k ≤ 100000 ∧ (∀ H', Same H H' → ¬ S.Mem g → Q .non H') ∧ ∀ q H', Same H H' → S.Mem g → Q (.ref q) H'
theorem ok_law_figures (T : Txt K mg CP CB CT CE) : Cal P w K mg base L2.CX0 2 "_law_figures" spLFig := by
  have g_law_mul := ok_law_mul (P := P) (w := w) (base := base) T
  have g_law_pow := ok_law_pow (P := P) (w := w) (base := base) T
  refine T.f_law_figures.cal sc__law_figures (fun vs H Q E ⟨p, r, xs, S, g, k, e, _⟩ => by subst e; rfl) (N := N__law_figures) fun f cdv A outer s H vs Q E hr h => ?_
  obtain ⟨p, r, xs, S, g, k, rfl, hl, hx, ok, bS, hg, fg, bk, hN, hY⟩ := h
  refine ⟨_, (pss_cons (ps_par (i := 3) (j := 4) rfl sc__law_figures.nd rfl rfl (by decide) rfl rfl (pa_cons (pv 2) (pa_cons (lstS pa_nil) pa_nil)) (by rfl))
 (pss_cons (ps_for PassesOwn.never rfl (piL (K := K) rfl (pv 0)) (pg_name (i := 5) sc__law_figures.nd rfl (Or.inl rfl)) (pss_cons (ps_asg (pe_ifExp (truK (K := K) rfl (pe_ix (ixTK (K := K) rfl) (pv 5) pe_int (fun _ _ => rfl)) (by intro _; rfl)) (tupS (pa_cons (pe_ix (ixTK (K := K) rfl) (pv 5) pe_int (fun _ _ => rfl)) (pa_cons (pe_ix (ixTK (K := K) rfl) (pv 3) pe_int (fun _ _ => rfl)) pa_nil))) (tupS (pa_cons (pe_ix (ixTK (K := K) rfl) (pv 5) pe_int (fun _ _ => rfl)) (pa_cons (pe_ix (ixTK (K := K) rfl) (pv 3) pe_int (fun _ _ => rfl)) pa_nil)))) (pg_tup rfl (pgs_cons (pg_name (i := 6) sc__law_figures.nd rfl (Or.inl rfl)) (pgs_cons (pg_name (i := 7) sc__law_figures.nd rfl (Or.inl rfl)) pgs_nil))))
 (pss_cons (ps_if (truK (K := K) rfl (pe_op op_modN (pe_callTy call_int1S (by rfl) T.n_int (by decide +kernel) (pa_cons (pv 7) pa_nil)) (pv 6)) (by intro _; rfl)) (pss_one (ps_ret pe_non)) pss_nil)
 (pss_cons (ps_expr (pe_bm PySem.F.plainAttrs_list PySem.F.slot_list_append PySem.F.type_list_append mt_append (pv 4) (pa_cons (pe_op op_fdX (pv 7) (pv 6)) pa_nil)))
 (pss_one (ps_set (i := 3) sc__law_figures.nd rfl (Or.inl rfl) (calS g_law_mul pass0 hr (by decide) (by rfl) (pa_cons (calS g_law_pow pass0 hr (by decide) (by rfl) (pa_cons (pv 5) (pa_cons (pe_un un_neg (pe_op op_fdX (pv 7) (pv 6))) pa_nil))) (pa_cons (pv 3) pa_nil)))))))))
 (pss_cons (ps_if (PW.pt (pw_or (pt_cmpR op_ne (pe_ix (ixTK (K := K) rfl) (pv 3) pe_int (fun _ _ => rfl)) pe_int (nomark _)) (pw_or (pt_cmpR op_ne (pe_ix (ixTK (K := K) rfl) (pv 3) pe_int (fun _ _ => rfl)) pe_int (nomark _)) (pw_or (PW.pt (pw_and (pt_cmpR op_eq (pv 1) pe_int (nomark _)) (pw_and1 (pt_cmpR op_ne (pe_ix (ixTK (K := K) rfl) (pv 3) pe_int (fun _ _ => rfl)) pe_int (nomark _))))) (pw_or1 (PW.pt (pw_and (pt_cmpR op_gt (pv 1) pe_int (nomark _)) (pw_and1 (pt_cmpR op_ne (pe_op op_modN (pe_callTy call_int1S (by rfl) T.n_int (by decide +kernel) (pa_cons (pe_ix (ixTK (K := K) rfl) (pv 3) pe_int (fun _ _ => rfl)) pa_nil)) (pv 1)) pe_int (nomark _)))))))))) (pss_one (ps_ret pe_non)) pss_nil)
 (pss_one (ps_ret (pe_op op_catS (pv 4) (lstS (pa_cons (pe_ifExp (truK (K := K) rfl (pv 1) (by intro _; rfl)) (pe_op op_fdX (pe_ix (ixTK (K := K) rfl) (pv 3) pe_int (fun _ _ => rfl)) (pv 1)) pe_int) pa_nil)))))))), ?_⟩
  walk_at "rd"
  refine rd_newL fun cl H1 n1 s1 hcl => ?_
  walk_at "rd"
  have bound : ∀ i, i ≤ 2 → (3 ^ i * (max k 3000) + 3003 * (3 ^ i - 1)) ≤ 10000000 := fun i hi => by
    match i, hi with
    | 0, _ => simp; omega
    | 1, _ => simp; omega
    | 2, _ => simp; omega
  refine rd_forL (s1 _ _ hl) (fun i σ' H' => ∃ lq l cs c5 c6 c7, σ' = [some (.ref p), some (.int S.c), some (.ref r), some (.ref lq), some (.ref cl), c5, c6, c7] ∧ Same H H' ∧ T3 H' lq l ∧ H' cl = some (.lst cs) ∧ cs.length = i ∧ FP (3 ^ i * (max k 3000) + 3003 * (3 ^ i - 1)) l ∧ figL (S.rows.drop i) l = figL S.rows g)
    ⟨r, g, [], none, none, none, rfl, s1, hg.mono s1, hcl, rfl, fg.mono (by simp; omega), rfl⟩ (fun i σ' H' _ h => by obtain ⟨_, _, _, _, _, _, _, s2, _⟩ := h; exact s2 _ _ hl) ?_ ?_
  · rintro i z σ' H' hz ⟨lq, l, cs, c5, c6, c7, rfl, s2, hlq, hcs, hcl2, B, he⟩
    obtain ⟨gq, r', rfl, hgr, hgq⟩ := (hx.mono s2).get hz
    have hi2 : i < 2 := by have := (List.getElem?_eq_some_iff.mp hgr).1; have := rows_le S; omega
    have hgm := List.mem_of_getElem? hgr
    obtain ⟨b1, b2, b3⟩ := bS.row hgm
    have hd : S.rows.drop i = r' :: S.rows.drop (i + 1) := by
      obtain ⟨h1, h2⟩ := List.getElem?_eq_some_iff.mp hgr
      rw [List.drop_eq_getElem_cons h1, h2]
    rw [hd] at he
    have nz := row_nz hgm
    have kb := bound i (by omega)
    generalize hki : 3 ^ i * (max k 3000) + 3003 * (3 ^ i - 1) = ki at *
    have hgq' : H' gq = some (.tup [.int r'.x, .int r'.y, .int r'.a]) := hgq
    have hlq' : H' lq = some (.tup [.int l.x, .int l.y, .int l.a]) := hlq
    walk_at "rd"
    refine rd_joinT (r := rTup) (w := [.int (figW r' l).1, .int (figW r' l).2]) (fun hn Q q => ?_) (fun hn Q q => ?_) ?_
    · walk_at "rd"
      have e : figW r' l = (r'.x, l.x) := if_pos hn
      rw [e] at q
      exact q
    · walk_at "rd"
      have e : figW r' l = (r'.y, l.y) := if_neg (fun z => z hn)
      rw [e] at q
      exact q
    have w0 : (figW r' l).1 ≠ 0 := by
      unfold figW
      by_cases hn : r'.x = 0
      · rw [if_neg (fun z => z hn)]; exact nz.resolve_left (fun z => z hn)
      · rw [if_pos hn]; exact hn
    have wf : Fits 118 (figW r' l).1 ∧ Fits ki (figW r' l).2 := by
      unfold figW
      by_cases hn : r'.x = 0
      · rw [if_neg (fun z => z hn)]; exact ⟨b2, B.2.1⟩
      · rw [if_pos hn]; exact ⟨b1, B.1⟩
    have hf : figL (r' :: S.rows.drop (i + 1)) l = if (figW r' l).2.fmod (figW r' l).1 ≠ 0 then none else figL (S.rows.drop (i + 1)) ((r'.pow (-((figW r' l).2.fdiv (figW r' l).1))).mul l) := rfl
    rw [hf] at he
    generalize hfw : figW r' l = wp at *
    obtain ⟨wh, pa⟩ := wp
    refine rd_new fun t H2 n2 s2' ht => ?_
    walk_at "rd"
    refine rd_I w0 ?_
    walk_at "rd"
    refine rd_bne (fun hm => ?_) (fun hm => ?_)
    · rw [if_pos hm] at he
      walk_at "rd"
      refine hN H2 (s2.trans s2') fun hmem => ?_
      obtain ⟨l', h1, _⟩ := (fig_in ok g).mpr hmem
      rw [← he] at h1
      cases h1
    · rw [if_neg (fun z => z hm)] at he
      walk_at "rd"
      refine rd_bmL (s2' _ _ hcs) ?_
      walk_at "rd"
      refine rd_I ⟨w0, wf.1.mono (by omega)⟩ ?_
      walk_at "rd"
      refine rd_append (s2' _ _ hcs) (by omega) fun H3 s3 hcs3 => ?_
      have fq : Fits ki (pa.fdiv wh) := wf.2.fdiv _
      have hgq3 : T3 H3 gq r' := s3 _ _ (ne_of (hgq.mono s2') (s2' _ _ hcs) (by intro z; cases z)) (hgq.mono s2')
      have hlq3 : T3 H3 lq l := s3 _ _ (ne_of (hlq.mono s2') (s2' _ _ hcs) (by intro z; cases z)) (hlq.mono s2')
      walk_at "rd"
      refine rd_I ⟨w0, wf.1.mono (by omega)⟩ ?_
      walk_at "rd"
      have fr : FP 3000 r' := ⟨b1.mono (by omega), b2.mono (by omega), b3⟩
      have k3 : 3000 ≤ ki := by
        rw [← hki]
        have : 1 ≤ 3 ^ i := Nat.one_le_pow _ _ (by decide)
        have := Nat.le_mul_of_pos_left (max k 3000) this
        omega
      have ki9 : ki ≤ 400000 := by
        rw [← hki]
        have : 3 ^ i ≤ 3 := by
          match i, hi2 with
          | 0, _ => decide
          | 1, _ => decide
        have : 3 ^ i * max k 3000 ≤ 3 * max k 3000 := Nat.mul_le_mul_right _ this
        omega
      refine ⟨gq, _, r', ki, rfl, hgq3, fr.mono k3, fq.neg, by omega, fun gp H4 n4 s4 hgp => ?_⟩
      have fpw : FP (2 * ki + 2 * 3000 + 4) (r'.pow (-(pa.fdiv wh))) := fr.pow fq.neg
      walk_at "rd"
      refine ⟨gp, lq, _, _, 2 * ki + 6004, rfl, hgp, hlq3.mono s4, fpw.1, B.2.1.mono (by omega), by omega, fun nf H5 n5 s5 hnf => ?_⟩
      refine ⟨nf, _, cs ++ [.int (pa.fdiv wh)], _, _, _, rfl, ?_, hnf, ?_, by rw [List.length_append, hcl2]; rfl, ?_, he⟩
      · exact ((SameB.same n1 (s2.trans s2') s3).trans s4).trans s5
      · exact s5 _ _ (s4 _ _ hcs3)
      · have e3 : 3 ^ (i + 1) * max k 3000 + 3003 * (3 ^ (i + 1) - 1) = 3 * ki + 6006 := by
          rw [Nat.pow_succ, ← hki]
          have : 1 ≤ 3 ^ i := Nat.one_le_pow _ _ (by decide)
          have h1 : 3 ^ i * 3 * max k 3000 = 3 * (3 ^ i * max k 3000) := by rw [Nat.mul_comm (3 ^ i) 3, Nat.mul_assoc]
          rw [h1]
          omega
        rw [e3]
        exact (fpw.mul B).mono (by omega)
  · rintro σ' H' ⟨lq, l, cs, c5, c6, c7, rfl, s2, hlq, hcs, hcl2, B, he⟩
    have hn : xs.length = S.rows.length := hx.1
    have hl2 : xs.length ≤ 2 := by rw [hn]; exact rows_le S
    rw [hn, List.drop_length] at he
    have he' : figL S.rows g = some l := he.symm
    have hlq' : H' lq = some (.tup [.int l.x, .int l.y, .int l.a]) := hlq
    have c0 := ok.c0
    have no : ∀ (h : ¬ (l.x = 0 ∧ l.y = 0 ∧ S.c ∣ l.a)), ¬ S.Mem g := fun h hmem => by
      obtain ⟨l', h1, h2, h3, h4⟩ := (fig_in ok g).mpr hmem
      rw [he'] at h1
      cases h1
      exact h ⟨h2, h3, h4⟩
    have yes : l.x = 0 → l.y = 0 → S.c ∣ l.a → S.Mem g := fun h1 h2 h3 => (fig_in ok g).mp ⟨l, he', h1, h2, h3⟩
    refine rd_seqJ (fun σ2 H2 => σ2 = [some (.ref p), some (.int S.c), some (.ref r), some (.ref lq), some (.ref cl), c5, c6, c7] ∧ H2 = H' ∧ S.Mem g) (fun N' hN' => ?_) ?_
    · walk_at "rd"
      refine rd_ndec (fun z => ?_) (fun hx0 => ?_)
      · walk_at "rd"
        exact hN H' s2 (no fun y => z y.1)
      walk_at "rd"
      refine rd_ndec (fun z => ?_) (fun hy0 => ?_)
      · walk_at "rd"
        exact hN H' s2 (no fun y => z y.2.1)
      walk_at "rd"
      refine rd_dec (fun hc0 => ?_) (fun hc0 => ?_)
      · walk_at "rd"
        refine rd_ndec (fun z => ?_) (fun ha0 => ?_)
        · walk_at "rd"
          exact hN H' s2 (no fun y => z (by rw [hc0] at y; exact Int.zero_dvd.mp y.2.2))
        · walk_at "rd"
          refine rd_dec (fun z => absurd z (by omega)) (fun _ => ?_)
          walk_at "rd"
          exact hN' _ _ ⟨rfl, rfl, yes hx0 hy0 (by rw [ha0]; exact Int.dvd_zero _)⟩
      · walk_at "rd"
        refine rd_dec (fun _ => ?_) (fun z => absurd (show S.c > 0 by omega) z)
        walk_at "rd"
        refine rd_I hc0 ?_
        walk_at "rd"
        refine rd_ndec (fun z => ?_) (fun hm => ?_)
        · walk_at "rd"
          exact hN H' s2 (no fun y => z (fmod_zero_iff.mpr y.2.2))
        · walk_at "rd"
          exact hN' _ _ ⟨rfl, rfl, yes hx0 hy0 (fmod_zero_iff.mp hm)⟩
    · rintro σ2 H2 ⟨rfl, rfl, hm⟩
      walk_at "rd"
      refine rd_joinB (x := .int (l.a.fdiv S.c)) (y := .int 0) (fun hc Q q => ?_) (fun hc Q q => ?_) ?_
      · walk_at "rd"
        refine rd_I ⟨hc, bS.c.mono (by omega)⟩ ?_
        exact q
      · walk_at "rd"
        exact q
      walk_at "rd"
      refine rd_newL fun l2 H3 n3 s3 h3 => ?_
      walk_at "rd"
      refine rd_cat (s3 _ _ hcs) h3 (by simp; omega) fun l4 H4 n4 s4 h4 => ?_
      exact hY l4 H4 ((s2.trans s3).trans s4) hm
theorem isiTK {X : Cx} {K : PySem.W.Frag} (hK : X.K = K) : CallR X (.builtin "isinstance") (rIsiT K) := by subst hK; exact call_isiT
theorem allK {X : Cx} {K : PySem.W.Frag} (hK : X.K = K) (hc : X.calm = true) : CallR X (.builtin "all") (rAll K) := by subst hK; exact cr_all hc
def brew1 (st : List Pl) (l : Ln) : List Pl := st ++ [(st.getD l.1 home).mul ((st.getD l.2.2 home).pow l.2.1)]
def replay (st0 : List Pl) (ls : List Ln) : List Pl := ls.foldl brew1 st0
theorem replay_snoc (st0 : List Pl) (ls : List Ln) (l : Ln) : replay st0 (ls ++ [l]) = brew1 (replay st0 ls) l := by unfold replay; rw [List.foldl_append]; rfl
theorem replay_len (st0 : List Pl) (ls : List Ln) : (replay st0 ls).length = st0.length + ls.length := by
  unfold replay
  induction ls generalizing st0 with
  | nil => rfl
  | cons l ls ih =>
    rw [List.foldl_cons, ih]
    unfold brew1
    rw [List.length_append, List.length_cons]
    show st0.length + 1 + ls.length = st0.length + (ls.length + 1)
    omega
theorem grow_replay {st0 : List Pl} {ls : List Ln} {st : List Pl} (g : Grow [] st0 ls st) : st = replay st0 ls := by
  induction g with
  | refl => rfl
  | line _ h1 h2 h3 ih =>
    rw [replay_snoc, ← ih]
    unfold brew1
    rw [List.getD_eq_getElem?_getD, List.getD_eq_getElem?_getD, h1, h2]
    rfl
theorem grow_steps {st0 : List Pl} {ls : List Ln} {st : List Pl} (g : Grow [] st0 ls st) : ∀ i l, ls[i]? = some l → ∃ g h, (replay st0 (ls.take i))[l.1]? = some g ∧ (replay st0 (ls.take i))[l.2.2]? = some h ∧ FP 100000 g ∧ FP 100000 h ∧ Fits 100000 l.2.1 ∧ replay st0 (ls.take (i + 1)) = replay st0 (ls.take i) ++ [g.mul (h.pow l.2.1)] := by
  induction g with
  | refl => intro i l h; simp at h
  | @line ls' st' i0 j0 t g0 h0 gr h1 h2 h3 ih =>
    intro i l hl
    have e := grow_replay gr
    by_cases hi : i < ls'.length
    · rw [List.getElem?_append_left hi] at hl
      rw [List.take_append_of_le_length (by omega), List.take_append_of_le_length (by omega)]
      exact ih i l hl
    · have hi2 := (List.getElem?_eq_some_iff.mp hl).1
      rw [List.length_append] at hi2
      have e1 : [(i0, t, j0)].length = 1 := rfl
      have : i = ls'.length := by omega
      subst this
      rw [List.getElem?_append_right (Nat.le_refl _), Nat.sub_self] at hl
      cases (Option.some.inj hl : (i0, t, j0) = l)
      rw [List.take_left', List.take_of_length_le (by rw [List.length_append]; exact Nat.le_refl _), replay_snoc, ← e]
      · refine ⟨g0, h0, h1, h2, h3.1, h3.2.1, h3.2.2, ?_⟩
        unfold brew1
        rw [List.getD_eq_getElem?_getD, List.getD_eq_getElem?_getD, h1, h2]
        rfl
      · rfl
theorem kit_any_tup {K : PySem.W.Frag} : PySem.W.kitAny K (.type "tuple") [.type "tuple", .type "list"] = some true := kitAny_cons (b := true) (kit_ty (by decide +kernel)) (fun z => nomatch z) (fun _ => rfl)
theorem all_true {ys : List V} (h : ∀ (k : Nat) y, ys[k]? = some y → y = .bl true) : ∃ bs : List Bool, ys = bs.map V.bl ∧ bs.all id = true := by
  refine ⟨List.replicate ys.length true, ?_, List.all_eq_true.mpr fun b hb => List.eq_of_mem_replicate hb⟩
  rw [List.map_replicate, List.eq_replicate_iff]
  refine ⟨rfl, fun b hb => ?_⟩
  obtain ⟨k, hk⟩ := List.getElem?_of_mem hb
  exact h k b hk
theorem rd_all {K : PySem.W.Frag} {H : Hp} {Q : VK} {D : Addr} {ys : List V} (hD : H D = some (.lst ys)) (h : ∀ (k : Nat) y, ys[k]? = some y → y = .bl true) (k : Q (.bl true) H) : rAll K [.ref D] H Q := by
  obtain ⟨bs, e1, e2⟩ := all_true h
  exact ⟨D, bs, rfl, e1 ▸ SqL.of hD, e2 ▸ k⟩
abbrev s__law_brewed : Stmt := top 62
def N__law_brewed : List Str := ["_law_told_here", "_law_recipe", "_law_stock", "_law_line", "_law_part", "_law_one", "_law_times", "_law_other"]
theorem sc__law_brewed : FnScope ["_law_told_here", "_law_recipe", "_law_stock", "_law_line", "_law_part", "_law_one", "_law_times", "_law_other"] ["_law_told_here", "_law_recipe"] (defScope s__law_brewed) := ⟨rfl, rfl, rfl, by decide +kernel, rfl, by decide +kernel, by decide +kernel⟩
def spBrewed : Sp := fun vs H Q _ => ∃ (l ra : Addr) (xs ys : List V) (told : List Pl) (lines : List Ln) (stock : List Pl), vs = [.ref l, .ref ra] ∧ H l = some (.lst xs) ∧ Rws3 H xs told ∧ H ra = some (.tup ys) ∧ Lns H ys lines ∧ Grow [] (home :: told) lines stock ∧ stock.length ≤ 50000 ∧
  ∀ r zs H', Same H H' → H' r = some (.lst zs) → Rws3 H' zs stock → Q (.ref r) H'
theorem ok_law_brewed (T : Txt K mg CP CB CT CE) : Cal P w K mg base L2.CX0 2 "_law_brewed" spBrewed := by
  have g_law_mul := ok_law_mul (P := P) (w := w) (base := base) T
  have g_law_pow := ok_law_pow (P := P) (w := w) (base := base) T
  have g_law_whole_is := ok_law_whole_is (P := P) (w := w) (base := base) T
  refine T.f_law_brewed.cal sc__law_brewed (fun vs H Q E ⟨l, ra, xs, ys, told, lines, stock, e, _⟩ => by subst e; rfl) (N := N__law_brewed) fun f cdv A outer s H vs Q E hr h => ?_
  obtain ⟨l, ra, xs, ys, told, lines, stock, rfl, hl, hw, hra, hln, gr, hlen, h⟩ := h
  refine ⟨_, (pss_cons (ps_set (i := 2) sc__law_brewed.nd rfl (Or.inl rfl) (pe_op op_catS (lstS (pa_cons (tupS (pa_cons pe_int (pa_cons pe_int (pa_cons pe_int pa_nil)))) pa_nil)) (pe_callTy (listK (K := K) rfl) (by rfl) T.n_list (by decide +kernel) (pa_cons (pv 0) pa_nil))))
 (pss_cons (ps_for PassesOwn.never rfl (piT (K := K) rfl (pv 1)) (pg_name (i := 3) sc__law_brewed.nd rfl (Or.inl rfl)) (pss_cons (ps_if (PW.pt (pw_or (pt_not (pt_val (pe_callB (isiTK (K := K) rfl) (by rfl) T.n_isinstance (by decide +kernel) (pa_cons (pv 3) (pa_cons (tupS (pa_cons (pe_bltn (v := .ty "tuple") (by rfl) T.n_tuple (by decide +kernel) rfl) (pa_cons (pe_bltn (v := .ty "list") (by rfl) T.n_list (by decide +kernel) rfl) pa_nil))) pa_nil))))) (pw_or (pt_cmpR op_ne (pe_callB (lenK (K := K) rfl) (by rfl) T.n_len (by decide +kernel) (pa_cons (pv 3) pa_nil)) pe_int (nomark _)) (pw_or1 (pt_not (pt_val (pe_callB (allK (K := K) rfl rfl) (by rfl) T.n_all (by decide +kernel) (pa_cons (pe_lc (own := [("_law_part", 4)]) (g := gName 4) (tt := tYes) (by rfl) sc__law_brewed.nd (piT (K := K) rfl (pv 3)) (blkOk_by (own := [("_law_part", 4)]) (N := N__law_brewed) (sc := defScope s__law_brewed) (by decide +kernel)) (fun _ _ _ _ _ => pg_name (i := 4) sc__law_brewed.nd rfl (Or.inl rfl)) (fun _ _ _ _ _ => pts_nil) (fun _ _ _ _ _ => by exact (calS g_law_whole_is pass0 hr (by decide) (by rfl) (pa_cons (pv 4) (pa_cons (pv 4) pa_nil))))) pa_nil)))))))) (pss_one (ps_ret pe_non)) pss_nil)
 (pss_cons (ps_asg (pv 3) (pg_tup rfl (pgs_cons (pg_name (i := 5) sc__law_brewed.nd rfl (Or.inl rfl)) (pgs_cons (pg_name (i := 6) sc__law_brewed.nd rfl (Or.inl rfl)) (pgs_cons (pg_name (i := 7) sc__law_brewed.nd rfl (Or.inl rfl)) pgs_nil)))))
 (pss_cons (ps_if (PW.pt (pw_or (pt_not (pt_chain op_le op_lt pe_int (pv 5) (pe_callB (lenK (K := K) rfl) (by rfl) T.n_len (by decide +kernel) (pa_cons (pv 2) pa_nil)))) (pw_or1 (pt_not (pt_chain op_le op_lt pe_int (pv 7) (pe_callB (lenK (K := K) rfl) (by rfl) T.n_len (by decide +kernel) (pa_cons (pv 2) pa_nil))))))) (pss_one (ps_ret pe_non)) pss_nil)
 (pss_one (ps_expr (pe_bm PySem.F.plainAttrs_list PySem.F.slot_list_append PySem.F.type_list_append mt_append (pv 2) (pa_cons (calS g_law_mul pass0 hr (by decide) (by rfl) (pa_cons (pe_ix (ixLK (K := K) rfl) (pv 2) (pv 5) (fun _ _ => rfl)) (pa_cons (calS g_law_pow pass0 hr (by decide) (by rfl) (pa_cons (pe_ix (ixLK (K := K) rfl) (pv 2) (pv 7) (fun _ _ => rfl)) (pa_cons (pv 6) pa_nil))) pa_nil))) pa_nil))))))))
 (pss_one (ps_ret (pv 2))))), ?_⟩
  walk_at "rd"
  refine rd_new fun p0 H1 n1 s1 hp0 => ?_
  walk_at "rd"
  refine rd_newL fun l0 H2 n2 s2 hl0 => ?_
  walk_at "rd"
  refine rd_listL (s2 _ _ (s1 _ _ hl)) fun l1 H3 n3 s3 hl1 => ?_
  walk_at "rd"
  have tl : (home :: told).length + lines.length = stock.length := by rw [grow_replay gr, replay_len]
  rw [List.length_cons] at tl
  refine rd_cat (s3 _ _ hl0) hl1 (by rw [hw.1]; show 1 + _ ≤ _; omega) fun sl H4 n4 s4 hsl => ?_
  walk_at "rd"
  have s14 := fun (_ : Unit) => ((s1.trans s2).trans s3).trans s4
  have nsl : H sl = none := by
    cases e : H sl with
    | none => rfl
    | some o => rw [s3 _ _ (s2 _ _ (s1 _ _ e))] at n4; cases n4
  have w0 : Rws3 H4 ([.ref p0] ++ xs) (home :: told) := by
    have hw4 := hw.mono (s14 ())
    refine ⟨by rw [List.length_append, hw.1]; show 1 + _ = told.length + 1; omega, fun k g e => ?_⟩
    cases k with
    | zero => cases Option.some.inj e; exact ⟨p0, rfl, s4 _ _ (s3 _ _ (s2 _ _ hp0))⟩
    | succ k =>
      obtain ⟨r, e1, e2⟩ := hw4.2 k g e
      exact ⟨r, e1, e2⟩
  refine rd_forT (s14 () _ _ hra) (fun i σ' H' => ∃ zs c3 c4 c5 c6 c7, σ' = [some (.ref l), some (.ref ra), some (.ref sl), c3, c4, c5, c6, c7] ∧ Same H H' ∧ H' sl = some (.lst zs) ∧ Rws3 H' zs (replay (home :: told) (lines.take i)))
    ⟨_, none, none, none, none, none, rfl, s14 (), hsl, w0⟩ (fun i σ' H' _ h => by obtain ⟨_, _, _, _, _, _, _, s, _⟩ := h; exact s _ _ hra) ?_ ?_
  · rintro i x σ' H' hx ⟨zs, c3, c4, c5, c6, c7, rfl, s5, hz, wz⟩
    have hi : i < lines.length := by rw [← hln.1]; exact (List.getElem?_eq_some_iff.mp hx).1
    obtain ⟨ln, el⟩ : ∃ ln, lines[i]? = some ln := ⟨_, List.getElem?_eq_getElem hi⟩
    obtain ⟨q, e1, hq⟩ := hln.2 i ln el
    rw [hx] at e1
    cases Option.some.inj e1
    obtain ⟨a, t, b⟩ := ln
    obtain ⟨g1, g2, eg1, eg2, fg1, fg2, ft, ez⟩ := grow_steps gr i _ el
    have hq5 : H' q = some (.tup [.int (a : Nat), .int t, .int (b : Nat)]) := s5 _ _ hq
    have zl : zs.length ≤ 50000 := by rw [wz.1, replay_len, List.length_cons, List.length_take]; omega
    have al := (List.getElem?_eq_some_iff.mp eg1).1
    have bl := (List.getElem?_eq_some_iff.mp eg2).1
    rw [← wz.1] at al bl
    refine rd_gname ?_
    refine rd_seqJ (fun σ2 H2 => ∃ c4, σ2 = [some (.ref l), some (.ref ra), some (.ref sl), some (.ref q), c4, c5, c6, c7] ∧ Same H' H2) (fun N' hN' => ?_) ?_
    · walk_at "rd"
      refine rd_new fun tq H6 n6 s6 htq => ?_
      walk_at "rd"
      refine ⟨_, tq, _, .type "tuple", [.type "tuple", .type "list"], true, rfl, htq, .cons (.ty _) (.cons (.ty _) .nil), .base (.tup (s6 _ _ hq5)), kit_any_tup, ?_⟩
      walk_at "rd"
      refine rd_ndec (fun z => absurd rfl z) (fun _ => ?_)
      walk_at "rd"
      refine rd_lcT (s6 _ _ hq5) (by show 3 ≤ 1000; decide) (fun k y H' => y = .bl true) (fun k y H1 H2 s h => h) (fun k y H1 D xs ys hD h => h) (fun x => rfl) (fun k x H7 hx7 s7 F hF => ?_) (fun D ys7 H7 n7 s7 hD hl7 hR => ?_)
      · have : ∃ n : Int, x = .int n := by
          match k, hx7 with
          | 0, hx7 => exact ⟨_, (Option.some.inj hx7).symm⟩
          | 1, hx7 => exact ⟨_, (Option.some.inj hx7).symm⟩
          | 2, hx7 => exact ⟨_, (Option.some.inj hx7).symm⟩
          | k + 3, hx7 => simp at hx7
        obtain ⟨nn, rfl⟩ := this
        walk_at "rd"
        exact ⟨nn, nn, rfl, hF _ H7 (Same.refl _) (by rw [decide_eq_true rfl])⟩
      · walk_at "rd"
        refine rd_all hD hR ?_
        walk_at "rd"
        exact hN' _ _ ⟨_, rfl, s6.trans s7⟩
    · rintro σ2 H2 ⟨c4, rfl, s6⟩
      have hq6 := s6 _ _ hq5
      have hz6 := s6 _ _ hz
      have wz6 := wz.mono s6
      obtain ⟨pa, ea, ha⟩ := wz6.2 _ _ eg1
      obtain ⟨pb, eb, hb⟩ := wz6.2 _ _ eg2
      refine rd_seq ?_
      walk_at "rd"
      refine rd_dec (fun _ => ?_) (fun z => absurd (show (0 : Int) ≤ (a : Nat) by omega) z)
      walk_at "rd"
      refine rd_ndec (fun z => absurd (show ((a : Nat) : Int) < (zs.length : Nat) by exact Int.ofNat_lt.mpr al) z) (fun _ => ?_)
      walk_at "rd"
      refine rd_dec (fun _ => ?_) (fun z => absurd (show (0 : Int) ≤ (b : Nat) by omega) z)
      walk_at "rd"
      refine rd_ndec (fun z => absurd (show ((b : Nat) : Int) < (zs.length : Nat) by exact Int.ofNat_lt.mpr bl) z) (fun _ => ?_)
      walk_at "rd"
      refine rd_bmL hz6 ?_
      walk_at "rd"
      refine rd_ixL hz6 (atI_nat ea) ?_
      walk_at "rd"
      refine rd_ixL hz6 (atI_nat eb) ?_
      walk_at "rd"
      refine ⟨pb, t, g2, 100000, rfl, hb, fg2, ft, by omega, fun r1 H7 n7 s7 hr1 => ?_⟩
      walk_at "rd"
      refine ⟨pa, r1, g1, g2.pow t, 200000, rfl, ha.mono s7, hr1, fg1.1.mono (by omega), Fits.mul ft fg2.2.1 (by omega), by omega, fun r2 H8 n8 s8 hr2 => ?_⟩
      walk_at "rd"
      have hz8 := s8 _ _ (s7 _ _ hz6)
      refine rd_append hz8 (by omega) fun H9 s9 hz9 => ?_
      refine ⟨zs ++ [.ref r2], _, _, _, _, _, rfl, ?_, hz9, ?_⟩
      · exact SameB.same nsl (((s5.trans s6).trans s7).trans s8) s9
      · rw [ez]
        exact (((wz6.mono s7).mono s8).snoc hr2).monoB hz8 s9
  · rintro σ' H' ⟨zs, c3, c4, c5, c6, c7, rfl, s5, hz, wz⟩
    rw [hln.1, List.take_length, ← grow_replay gr] at wz
    walk_at "rd"
    exact h sl zs H' s5 hz wz
end
end Wk
namespace Wk
set_option linter.all false
set_option maxRecDepth 100000
open PySem L2
/-! data of rows -/
def rowD1 (g : Pl) : PyData := .tuple [.int g.x, .int g.y, .int g.a]
def rowD (gs : List Pl) : PyData := .list (gs.map rowD1)
theorem row_dp {K : PySem.W.Frag} {H : Hp} {p : Addr} {g : Pl} (h : T3 H p g) : Dp K H (.ref p) (rowD1 g) := .tup (SqT.of h) (.cons (.int _) (.cons (.int _) (.cons (.int _) .nil)))
theorem rows_dpA {K : PySem.W.Frag} {H : Hp} : ∀ {xs : List V} {gs : List Pl}, Rws3 H xs gs → DpAll K H xs (gs.map rowD1)
  | [], [], _ => .nil
  | [], g :: gs, h => by have := h.1; simp at this
  | x :: xs, [], h => by have := h.1; simp at this
  | x :: xs, g :: gs, h => by
    obtain ⟨p, e1, e2⟩ := h.2 0 g rfl
    cases Option.some.inj e1
    exact .cons (row_dp e2) (rows_dpA ⟨by have := h.1; simpa using this, fun i g' e => h.2 (i + 1) g' e⟩)
theorem rows_dp {K : PySem.W.Frag} {H : Hp} {p : Addr} {xs : List V} {gs : List Pl} (h : H p = some (.lst xs)) (hw : Rws3 H xs gs) : Dp K H (.ref p) (rowD gs) := .lst (SqL.of h) (rows_dpA hw)
theorem row_can (g : Pl) : (rowD1 g).canLay0 = true := by simp [rowD1, PyData.canLay0, PyData.canLayAll0]
theorem rows_canA : ∀ gs : List Pl, PyData.canLayAll0 (gs.map rowD1) = true
  | [] => by simp [PyData.canLayAll0]
  | g :: gs => by rw [List.map_cons, PyData.canLayAll0, row_can, rows_canA gs]; rfl
theorem rows_can (gs : List Pl) : (rowD gs).canLay0 = true := by unfold rowD; rw [PyData.canLay0]; exact rows_canA gs
theorem row_depth (g : Pl) : (rowD1 g).depth ≤ 3 := by
  simp [rowD1, PyData.depth, PyData.depthAll]
theorem rows_depthA : ∀ gs : List Pl, PyData.depthAll (gs.map rowD1) ≤ 3
  | [] => by simp [PyData.depthAll]
  | g :: gs => by rw [List.map_cons, PyData.depthAll]; exact Nat.max_le.mpr ⟨row_depth g, rows_depthA gs⟩
theorem row_shaped (g : Pl) : SeqAt.shaped (rowD1 g) = true := by
  unfold SeqAt.shaped
  rw [row_can, decide_eq_true (Nat.le_trans (row_depth g) (by decide))]
  rfl
theorem rows_shaped (gs : List Pl) : SeqAt.shaped (rowD gs) = true := by
  unfold SeqAt.shaped
  have h : (rowD gs).depth ≤ 64 := by
    unfold rowD
    rw [PyData.depth]
    exact Nat.le_trans (Nat.succ_le_succ (rows_depthA gs)) (by decide)
  rw [rows_can, decide_eq_true h]
  rfl
theorem row_eqv (g h : Pl) : PyData.eqv (rowD1 g) (rowD1 h) = decide (g = h) := by
  have : PyData.eqv (rowD1 g) (rowD1 h) = ((g.x == h.x) && ((g.y == h.y) && ((g.a == h.a) && true))) := by simp [rowD1, PyData.eqv, PyData.eqvAll]
  rw [this]
  by_cases e : g = h
  · subst e
    simp
  · rw [decide_eq_false e]
    cases h1 : ((g.x == h.x) && ((g.y == h.y) && ((g.a == h.a) && true))) with
    | false => rfl
    | true =>
      simp at h1
      exact absurd (Pl.ext' h1.1 h1.2.1 h1.2.2) e
theorem rows_eqvA : ∀ gs : List Pl, PyData.eqvAll (gs.map rowD1) (gs.map rowD1) = true
  | [] => by simp [PyData.eqvAll]
  | g :: gs => by rw [List.map_cons, PyData.eqvAll, row_eqv, decide_eq_true rfl, rows_eqvA gs]; rfl
theorem rows_eqv (gs : List Pl) : PyData.eqv (rowD gs) (rowD gs) = true := by unfold rowD; rw [PyData.eqv]; exact rows_eqvA gs
theorem rows_any (gs : List Pl) (g : Pl) : (gs.map rowD1).any (fun z => PyData.eqv z (rowD1 g)) = decide (g ∈ gs) := by
  induction gs with
  | nil => simp
  | cons h gs ih =>
    rw [List.map_cons, List.any_cons, ih, row_eqv]
    by_cases e : h = g
    · subst e; simp
    · rw [decide_eq_false e, Bool.false_or]
      have : (g ∈ h :: gs) ↔ g ∈ gs := ⟨fun z => (List.mem_cons.mp z).resolve_left (fun y => e y.symm), fun z => List.mem_cons_of_mem _ z⟩
      rw [decide_eq_decide.mpr this]
end Wk
namespace Wk
set_option linter.all false
set_option maxRecDepth 100000
set_option maxHeartbeats 4000000
open PySem L2
local macro_rules | `(tactic| walk_at "cy") => `(tactic| first
  | assumption
  | ((with_reducible refine' at_mono (H := ?H) ?s ?h); (case s => assumption); (case h => walk_at "cy"))
  | ((with_reducible refine' PlAt.mono (H := ?H) ?s ?h); (case s => assumption); (case h => walk_at "cy")))
local macro_rules | `(tactic| walk_at "rd1") => `(tactic| first
  | (with_reducible refine' rd_seq ?_) | (with_reducible refine' rd_asg ?_) | (with_reducible refine' rd_par ?_) | (with_reducible refine' rd_ret ?_)
  | (with_reducible refine' rd_ifs ?_) | (with_reducible refine' rd_drop ?_) | (with_reducible refine' rd_next ?_) | (with_reducible refine' rd_asgG ?_)
  | ((with_reducible refine' rd_var (v := ?v) ?e ?h); (case e => exact rfl)) | (with_reducible refine' rd_c ?_) | (with_reducible refine' rd_op ?_) | (with_reducible refine' rd_un ?_)
  | (with_reducible refine' rd_cb ?_) | (with_reducible refine' rd_cons ?_) | (with_reducible refine' rd_nil ?_)
  | (with_reducible refine' rd_I0 ?_) | (with_reducible refine' rd_U ?_) | (with_reducible refine' rd_eqI ?_) | (with_reducible refine' rd_neI ?_)
  | (with_reducible refine' rd_test ?_) | (with_reducible refine' rd_bl ?_) | (with_reducible refine' rd_not ?_) | (with_reducible refine' rd_and ?_) | (with_reducible refine' rd_or ?_)
  | (with_reducible refine' rd_t ?_) | (with_reducible refine' rd_f ?_) | (with_reducible refine' rd_nt ?_) | (with_reducible refine' rd_nf ?_)
  | (with_reducible refine' rd_andV ?_) | (with_reducible refine' rd_orV ?_) | (with_reducible refine' rd_notV ?_) | (with_reducible refine' rd_B ?_) | (with_reducible refine' rd_forR1 ?_) | (with_reducible refine' rd_forR2 ?_) | (with_reducible refine' rd_for ?_) | (with_reducible refine' rd_iT ?_) | (with_reducible refine' rd_iL ?_) | (with_reducible refine' rd_lc ?_)
  | (with_reducible refine' rd_if ?_) | (with_reducible refine' rd_isNr ?_) | (with_reducible refine' rd_isN0 ?_) | (with_reducible refine' rd_notNr ?_) | (with_reducible refine' rd_notN0 ?_) | (with_reducible refine' rd_abs ?_) | ((with_reducible refine' rd_lenL (xs := ?xs) ?f ?h); (case f => walk_at "cy")) | ((with_reducible refine' rd_lenT (xs := ?xs) ?f ?h); (case f => walk_at "cy")) | (with_reducible refine' rd_mt ?_) | (with_reducible refine' rd_bm ?_) | (with_reducible refine' rd_tru ?_) | (with_reducible refine' rd_truInt ?_) | (with_reducible refine' rd_fld ?_)
  | ((with_reducible refine' rd_ixT (xs := ?xs) (v := ?v) ?f ?e ?h); (case f => walk_at "cy"); (case e => exact rfl))
  | ((with_reducible refine' rd_ixL (xs := ?xs) (v := ?v) ?f ?e ?h); (case f => walk_at "cy"); (case e => exact rfl))
  | ((with_reducible refine' rd_gtup (xs := ?xs) ?f ?e ?h); (case f => walk_at "cy"); (case e => exact rfl))
  | (with_reducible refine' rd_gcons ?_) | (with_reducible refine' rd_gnil ?_) | (with_reducible refine' rd_gname ?_))
local macro_rules | `(tactic| walk_at "rd") => `(tactic| repeat walk_at "rd1")
local macro_rules | `(tactic| walk_at "cy") => `(tactic| first
  | assumption
  | ((with_reducible refine' at_mono (H := ?H) ?s ?h); (case s => assumption); (case h => walk_at "cy"))
  | ((with_reducible refine' T2.mono (H := ?H) ?s ?h); (case s => assumption); (case h => walk_at "cy"))
  | ((with_reducible refine' PlAt.mono (H := ?H) ?s ?h); (case s => assumption); (case h => walk_at "cy"))
  | ((with_reducible refine' Pls.mono (H := ?H) ?s ?h); (case s => assumption); (case h => walk_at "cy")))
local macro_rules | `(tactic| walk_at "cy") => `(tactic| first
  | assumption
  | ((with_reducible refine' at_mono (H := ?H) ?s ?h); (case s => assumption); (case h => walk_at "cy"))
  | ((with_reducible refine' T2.mono (H := ?H) ?s ?h); (case s => assumption); (case h => walk_at "cy"))
  | ((with_reducible refine' PlAt.mono (H := ?H) ?s ?h); (case s => assumption); (case h => walk_at "cy"))
  | ((with_reducible refine' Pls.mono (H := ?H) ?s ?h); (case s => assumption); (case h => walk_at "cy"))
  | ((with_reducible refine' TbAt.mono (H := ?H) ?s ?h); (case s => assumption); (case h => walk_at "cy"))
  | ((with_reducible refine' Rws.mono (H := ?H) ?s ?h); (case s => assumption); (case h => walk_at "cy")))
local macro_rules | `(tactic| walk_at "rd") => `(tactic| repeat (first
  | walk_at "rd1"
  | (with_reducible refine' rd_chain ?_)
  | (with_reducible refine' rd_dget ?_)
  | (with_reducible refine' rd_tcells (by assumption) ?_)
  | (with_reducible refine' rd_tat (by assumption) ?_)
  | (with_reducible refine' rd_trest (by assumption) ?_)
  | (with_reducible refine' rd_slN ?_)
  | (with_reducible refine' rd_max ?_)
  | (with_reducible refine' rd_int ?_) | (with_reducible refine' rd_intb ?_)))
section
variable {P : Program} {w : World} {K : PySem.W.Frag} {mg : Str → Option Value} {base : Heap} {CP CB CT CE : Addr}
theorem rd_glst {σ : L2.St} {H : Hp} {n : Nat} {g : TGs} {p : Addr} {xs : List V} {G : L2.St → Hp → Prop} (h : H p = some (.lst xs)) (l : xs.length = n) (k : g xs σ H G) : gLst K n g (.ref p) σ H G := ⟨p, xs, rfl, SqL.of h, l, k⟩
abbrev s__law_ledge_right : Stmt := top 60
def N__law_ledge_right : List Str := ["_law_rows", "_law_home", "_law_row_here", "_law_p", "_law_q", "_law_r", "_law_x", "_law_s", "_law_t"]
theorem sc__law_ledge_right : FnScope ["_law_rows", "_law_home", "_law_row_here", "_law_p", "_law_q", "_law_r", "_law_x", "_law_s", "_law_t"] ["_law_rows", "_law_home"] (defScope s__law_ledge_right) := ⟨rfl, rfl, rfl, by decide +kernel, rfl, by decide +kernel, by decide +kernel⟩
def spLedge : Sp := fun vs H Q _ => ∃ (p : Addr) (xs : List V) (S : Tb), vs = [.ref p, .int S.c] ∧ H p = some (.lst xs) ∧ Rws3 H xs S.rows ∧ S.Ok ∧ TbB S ∧ ∀ H', Same H H' → Q (.bl true) H'
theorem ok_law_ledge_right (T : Txt K mg CP CB CT CE) : Cal P w K mg base L2.CX0 2 "_law_ledge_right" spLedge := by
  have g_law_whole_is := ok_law_whole_is (P := P) (w := w) (base := base) T
  refine T.f_law_ledge_right.cal sc__law_ledge_right (fun vs H Q E ⟨p, xs, S, e, _⟩ => by subst e; rfl) (N := N__law_ledge_right) fun f cdv A outer s H vs Q E hr h => ?_
  obtain ⟨p, xs, S, rfl, hl, hx, ok, bS, h⟩ := h
  refine ⟨_, (pss_cons (ps_if (PW.pt (pw_or (pt_not (pt_val (calS g_law_whole_is pass0 hr (by decide) (by rfl) (pa_cons (pv 1) (pa_cons (pv 1) pa_nil))))) (pw_or (pt_cmpR op_lt (pv 1) pe_int (nomark _)) (pw_or1 (pt_cmpR op_gt (pe_callB (lenK (K := K) rfl) (by rfl) T.n_len (by decide +kernel) (pa_cons (pv 0) pa_nil)) pe_int (nomark _)))))) (pss_one (ps_ret pe_bl)) pss_nil)
 (pss_cons (ps_if (PW.pt (pw_and (pt_cmpR op_gt (pv 1) pe_int (nomark _)) (pw_and1 (pt_not (pt_val (pe_callB (allK (K := K) rfl rfl) (by rfl) T.n_all (by decide +kernel) (pa_cons (pe_lc (own := [("_law_row_here", 2)]) (g := gName 2) (tt := tYes) (by rfl) sc__law_ledge_right.nd (piL (K := K) rfl (pv 0)) (blkOk_by (own := [("_law_row_here", 2)]) (N := N__law_ledge_right) (sc := defScope s__law_ledge_right) (by decide +kernel)) (fun _ _ _ _ _ => pg_name (i := 2) sc__law_ledge_right.nd rfl (Or.inl rfl)) (fun _ _ _ _ _ => pts_nil) (fun _ _ _ _ _ => by exact (pe_chain op_le op_lt pe_int (pe_ix (ixTK (K := K) rfl) (pv 2) pe_int (fun _ _ => rfl)) (pv 1)))) pa_nil))))))) (pss_one (ps_ret pe_bl)) pss_nil)
 (pss_cons (ps_if (pt_cmpR op_eq (pe_callB (lenK (K := K) rfl) (by rfl) T.n_len (by decide +kernel) (pa_cons (pv 0) pa_nil)) pe_int (nomark _)) (pss_one (ps_ret (pe_or (pe_cmpR op_gt (pe_ix (ixTK (K := K) rfl) (pe_ix (ixLK (K := K) rfl) (pv 0) pe_int (fun _ _ => rfl)) pe_int (fun _ _ => rfl)) pe_int (nomark _)) (pe_one (pe_and (pe_cmpR op_eq (pe_ix (ixTK (K := K) rfl) (pe_ix (ixLK (K := K) rfl) (pv 0) pe_int (fun _ _ => rfl)) pe_int (fun _ _ => rfl)) pe_int (nomark _)) (pe_one (pe_cmpR op_gt (pe_ix (ixTK (K := K) rfl) (pe_ix (ixLK (K := K) rfl) (pv 0) pe_int (fun _ _ => rfl)) pe_int (fun _ _ => rfl)) pe_int (nomark _)))))))) pss_nil)
 (pss_cons (ps_if (pt_cmpR op_eq (pe_callB (lenK (K := K) rfl) (by rfl) T.n_len (by decide +kernel) (pa_cons (pv 0) pa_nil)) pe_int (nomark _)) (pss_cons (ps_asg (pv 0) (pg_lst rfl (pgs_cons (pg_tup rfl (pgs_cons (pg_name (i := 3) sc__law_ledge_right.nd rfl (Or.inl rfl)) (pgs_cons (pg_name (i := 4) sc__law_ledge_right.nd rfl (Or.inl rfl)) (pgs_cons (pg_name (i := 5) sc__law_ledge_right.nd rfl (Or.inl rfl)) pgs_nil)))) (pgs_cons (pg_tup rfl (pgs_cons (pg_name (i := 6) sc__law_ledge_right.nd rfl (Or.inl rfl)) (pgs_cons (pg_name (i := 7) sc__law_ledge_right.nd rfl (Or.inl rfl)) (pgs_cons (pg_name (i := 8) sc__law_ledge_right.nd rfl (Or.inl rfl)) pgs_nil)))) pgs_nil))))
 (pss_one (ps_ret (pe_and (pe_cmpR op_eq (pv 6) pe_int (nomark _)) (pe_and (pe_cmpR op_gt (pv 3) pe_int (nomark _)) (pe_and (pe_cmpR op_gt (pv 7) pe_int (nomark _)) (pe_and (pe_chain op_le op_lt pe_int (pv 4) (pv 7)) (pe_and (pe_cmpR op_gt (pv 1) pe_int (nomark _)) (pe_one (pe_cmpR op_eq (pe_op op_modN (pe_callTy call_int1S (by rfl) T.n_int (by decide +kernel) (pa_cons (pe_op op_mulX (pv 3) (pv 7)) pa_nil)) (pv 1)) pe_int (nomark _))))))))))) pss_nil)
 (pss_one (ps_ret pe_bl)))))), ?_⟩
  have xl : xs.length ≤ 2 := by rw [hx.1]; exact rows_le S
  have c0 := ok.c0
  refine rd_seqJ (fun σ' H' => σ' = [some (.ref p), some (.int S.c), none, none, none, none, none, none, none] ∧ H' = H) (fun N' hN' => ?_) ?_
  · walk_at "rd"
    refine ⟨_, _, rfl, ?_⟩
    walk_at "rd"
    refine rd_ndec (fun z => absurd rfl z) (fun _ => ?_)
    walk_at "rd"
    refine rd_dec (fun z => absurd z (by omega)) (fun _ => ?_)
    walk_at "rd"
    refine rd_dec (fun z => absurd z (by omega)) (fun _ => ?_)
    refine rd_next ?_
    exact hN' _ _ ⟨rfl, rfl⟩
  · rintro σ' H' ⟨rfl, rfl⟩
    refine rd_seqJ (fun σ' H2 => ∃ c2, σ' = [some (.ref p), some (.int S.c), c2, none, none, none, none, none, none] ∧ Same H' H2) (fun N' hN' => ?_) ?_
    · walk_at "rd"
      refine rd_dec (fun hc => ?_) (fun hc => ?_)
      · walk_at "rd"
        refine rd_lcL hl (by omega) (fun k y H' => y = .bl true) (fun k y H1 H2 s h => h) (fun k y H1 D xs ys hD h => h) (fun x => rfl) (fun k x H1 hx1 s1 F hF => ?_) (fun D ys H1 n1 s1 hD hl1 hR => ?_)
        · obtain ⟨q, g, rfl, eg, hq⟩ := hx.get hx1
          have hq1 : H1 q = some (.tup [.int g.x, .int g.y, .int g.a]) := s1 _ _ hq
          have lw : 0 ≤ g.a ∧ g.a < S.c := by
            have l4 := ok.low (by omega)
            have gm := List.mem_of_getElem? eg
            unfold Tb.rows at gm
            rcases List.mem_append.mp gm with gm | gm
            · split at gm
              · cases List.mem_singleton.mp gm; exact ⟨l4.1, l4.2.1⟩
              · cases gm
            · split at gm
              · cases List.mem_singleton.mp gm; exact ⟨l4.2.2.1, l4.2.2.2⟩
              · cases gm
          walk_at "rd"
          refine rd_dec (fun _ => ?_) (fun z => absurd lw.1 z)
          walk_at "rd"
          exact hF _ H1 (Same.refl _) (by rw [decide_eq_true lw.2])
        · walk_at "rd"
          refine rd_all hD hR ?_
          walk_at "rd"
          exact hN' _ _ ⟨_, rfl, s1⟩
      · refine rd_f ?_
        refine rd_next ?_
        exact hN' _ _ ⟨_, rfl, Same.refl _⟩
    · rintro σ' H2 ⟨c2, rfl, s2⟩
      have hl2 := s2 _ _ hl
      have hx2 := hx.mono s2
      rcases rows_cases S with ⟨hp, hs, er⟩ | ⟨hp, hs, er⟩ | ⟨hp, hs, er⟩ | ⟨hp, hs, er⟩
      · rw [er] at hx2
        have e0 : xs = [] := List.eq_nil_of_length_eq_zero hx2.1
        subst e0
        walk_at "rd"
        refine rd_dec (fun z => absurd z (by decide)) (fun _ => ?_)
        walk_at "rd"
        refine rd_dec (fun z => absurd z (by decide)) (fun _ => ?_)
        walk_at "rd"
        exact h H2 s2
      · rw [er] at hx2
        obtain ⟨q, eq, hq⟩ := hx2.2 0 S.u rfl
        match xs, hx2.1, eq with
        | [x], _, eq =>
          cases Option.some.inj eq
          have hq1 : H2 q = some (.tup [.int S.p, .int S.q, .int S.r]) := hq
          walk_at "rd"
          refine rd_dec (fun _ => ?_) (fun z => absurd rfl z)
          walk_at "rd"
          refine rd_dec (fun _ => ?_) (fun z => absurd hp z)
          exact h H2 s2
      · rw [er] at hx2
        obtain ⟨q, eq, hq⟩ := hx2.2 0 S.v rfl
        match xs, hx2.1, eq with
        | [x], _, eq =>
          cases Option.some.inj eq
          have hq1 : H2 q = some (.tup [.int 0, .int S.s, .int S.t]) := hq
          walk_at "rd"
          refine rd_dec (fun _ => ?_) (fun z => absurd rfl z)
          walk_at "rd"
          refine rd_dec (fun z => absurd z (by decide)) (fun _ => ?_)
          walk_at "rd"
          refine rd_dec (fun _ => ?_) (fun z => absurd rfl z)
          walk_at "rd"
          rw [decide_eq_true hs]
          exact h H2 s2
      · rw [er] at hx2
        obtain ⟨q, eq, hq⟩ := hx2.2 0 S.u rfl
        obtain ⟨q2, eq2, hq2⟩ := hx2.2 1 S.v rfl
        match xs, hx2.1, eq, eq2 with
        | [x, x2], _, eq, eq2 =>
          cases Option.some.inj eq
          cases Option.some.inj eq2
          have hq1 : H2 q = some (.tup [.int S.p, .int S.q, .int S.r]) := hq
          have hq3 : H2 q2 = some (.tup [.int 0, .int S.s, .int S.t]) := hq2
          walk_at "rd"
          refine rd_dec (fun z => absurd z (by show ¬ (((2 : Nat) : Int) = 1); decide)) (fun _ => ?_)
          walk_at "rd"
          refine rd_dec (fun _ => ?_) (fun z => absurd rfl z)
          walk_at "rd"
          refine rd_glst hl2 rfl ?_
          walk_at "rd"
          have two := ok.two hp hs
          refine rd_dec (fun _ => ?_) (fun z => absurd rfl z)
          walk_at "rd"
          refine rd_dec (fun _ => ?_) (fun z => absurd hp z)
          walk_at "rd"
          refine rd_dec (fun _ => ?_) (fun z => absurd hs z)
          walk_at "rd"
          refine rd_dec (fun _ => ?_) (fun z => absurd two.1 z)
          walk_at "rd"
          refine rd_dec (fun _ => ?_) (fun z => absurd two.2.1 z)
          walk_at "rd"
          refine rd_dec (fun _ => ?_) (fun z => absurd two.2.2 z)
          walk_at "rd"
          refine rd_I (mul_ok bS.p bS.s (by decide)) ?_
          walk_at "rd"
          refine rd_I (by have := two.2.2; omega) ?_
          walk_at "rd"
          rw [decide_eq_true (fmod_zero_iff.mpr ok.dv)]
          exact h H2 s2
section
variable {H : Hp} {p : Addr} {S : Tb} {told : List Pl} {ta la ra ma : Addr} {xs ys : List V} {ms : List Nat} {lines : List Ln} {stock : List Pl} {Q : VK}
theorem tbF_recipe {a b c d : Addr} {n : Int} : (tbF a b c d n).lookup ("recipe" : Str) = some (.ref c) := by unfold tbF; rw [lk_miss (by decide +kernel), lk_miss (by decide +kernel), lk_miss (by decide +kernel)]; exact lk_hit
theorem tbF_made {a b c d : Addr} {n : Int} : (tbF a b c d n).lookup ("made" : Str) = some (.ref d) := by unfold tbF; rw [lk_miss (by decide +kernel), lk_miss (by decide +kernel), lk_miss (by decide +kernel), lk_miss (by decide +kernel)]; exact lk_hit
theorem rd_tled (T : Txt K mg CP CB CT CE) (h : TabAt CP CT H p S told ta la ra ma xs ys ms lines stock) (k : Q (.ref la) H) : rFld K "ledge" (.ref p) H Q := let ⟨dx, e⟩ := h.ins; ⟨p, CT, dx, _, _, rfl, e, T.cl_Table, T.a_CT_ledge, tbF_ledge, k⟩
theorem rd_trec (T : Txt K mg CP CB CT CE) (h : TabAt CP CT H p S told ta la ra ma xs ys ms lines stock) (k : Q (.ref ra) H) : rFld K "recipe" (.ref p) H Q := let ⟨dx, e⟩ := h.ins; ⟨p, CT, dx, _, _, rfl, e, T.cl_Table, T.a_CT_recipe, tbF_recipe, k⟩
theorem rd_tmad (T : Txt K mg CP CB CT CE) (h : TabAt CP CT H p S told ta la ra ma xs ys ms lines stock) (k : Q (.ref ma) H) : rFld K "made" (.ref p) H Q := let ⟨dx, e⟩ := h.ins; ⟨p, CT, dx, _, _, rfl, e, T.cl_Table, T.a_CT_made, tbF_made, k⟩
theorem rd_isTab (T : Txt K mg CP CB CT CE) (h : TbAt CP CT H p S) (k : Q (.bl true) H) : rIsi K [.ref p, .ref CT] H Q := let ⟨_, _, _, _, _, _, e, _⟩ := h; rd_isC T.isT e k
theorem rd_isTup {q : Addr} {zs : List V} (h : H q = some (.tup zs)) (k : Q (.bl true) H) : rIsi K [.ref q, .ty "tuple"] H Q := ⟨_, _, _, _, true, rfl, .ty _, .base (.tup h), kit_ty (by decide +kernel), k⟩
end
/-- a row in the heap's tuples, made from a table's places -/
theorem rows_of {H : Hp} {ys : List V} {gs : List Pl} (hl : ys.length = gs.length) (h : ∀ (k : Nat) y, ys[k]? = some y → ∀ g, gs[k]? = some g → ∃ q, y = .ref q ∧ T3 H q g) : Rws3 H ys gs := ⟨hl, fun k g e => by
  have hk : k < ys.length := by rw [hl]; exact (List.getElem?_eq_some_iff.mp e).1
  obtain ⟨q, e1, e2⟩ := h k _ (List.getElem?_eq_getElem hk) g e
  exact ⟨q, by rw [List.getElem?_eq_getElem hk, e1], e2⟩⟩
abbrev s__law_table_right : Stmt := top 63
def N__law_table_right : List Str := ["_law_table", "_law_told_here", "_law_place_here", "_law_rows", "_law_home", "_law_stock", "_law_due", "_law_number_here", "_law_row_here"]
theorem sc__law_table_right : FnScope ["_law_table", "_law_told_here", "_law_place_here", "_law_rows", "_law_home", "_law_stock", "_law_due", "_law_number_here", "_law_row_here"] ["_law_table", "_law_told_here"] (defScope s__law_table_right) := ⟨rfl, rfl, rfl, by decide +kernel, rfl, by decide +kernel, by decide +kernel⟩
def spTabR (CP CT : Addr) : Sp := fun vs H Q _ => ∃ (p l : Addr) (S : Tb) (told : List Pl) (ta la ra ma : Addr) (xs ys ls : List V) (ms : List Nat) (lines : List Ln) (stock : List Pl), vs = [.ref p, .ref l] ∧ TabAt CP CT H p S told ta la ra ma xs ys ms lines stock ∧ TabOk S told ∧ H l = some (.lst ls) ∧ Rws3 H ls told ∧ told.length ≤ 100 ∧ (∀ g ∈ told, ToldB g) ∧ ∀ H', Same H H' → Q (.bl true) H'
theorem ok_law_table_right (T : Txt K mg CP CB CT CE) : Cal P w K mg base L2.CX0 3 "_law_table_right" (spTabR CP CT) := by
  have g_law_row := ok_law_row (P := P) (w := w) (base := base) T
  have g_law_brewed := ok_law_brewed (P := P) (w := w) (base := base) T
  have g_law_ledge_right := ok_law_ledge_right (P := P) (w := w) (base := base) T
  have g_law_figures := ok_law_figures (P := P) (w := w) (base := base) T
  refine T.f_law_table_right.cal sc__law_table_right (fun vs H Q E ⟨p, l, S, told, ta, la, ra, ma, xs, ys, ls, ms, lines, stock, e, _⟩ => by subst e; rfl) (N := N__law_table_right) fun f cdv A outer s H vs Q E hr h => ?_
  obtain ⟨p, l, S, told, ta, la, ra, ma, xs, ys, ls, ms, lines, stock, rfl, hS, ok, hl, hw, tl, tB, h⟩ := h
  refine ⟨_, (pss_cons (ps_if (PW.pt (pw_or (pt_not (pt_val (pe_callB (isiK (K := K) rfl) (by rfl) T.n_isinstance (by decide +kernel) (pa_cons (pv 0) (pa_cons (pe_glob (v := .ref CT) rfl T.g_Table rfl) pa_nil))))) (pw_or (pt_not (pt_val (pe_callB (isiK (K := K) rfl) (by rfl) T.n_isinstance (by decide +kernel) (pa_cons (fldK (K := K) rfl (pv 0) rfl) (pa_cons (pe_bltn (v := .ty "tuple") (by rfl) T.n_tuple (by decide +kernel) rfl) pa_nil))))) (pw_or1 (pt_not (pt_val (pe_callB (isiK (K := K) rfl) (by rfl) T.n_isinstance (by decide +kernel) (pa_cons (fldK (K := K) rfl (pv 0) rfl) (pa_cons (pe_bltn (v := .ty "tuple") (by rfl) T.n_tuple (by decide +kernel) rfl) pa_nil))))))))) (pss_one (ps_ret pe_bl)) pss_nil)
 (pss_cons (ps_if (PW.pt (pw_or (pt_not (pt_val (pe_callB (allK (K := K) rfl rfl) (by rfl) T.n_all (by decide +kernel) (pa_cons (pe_lc (own := [("_law_place_here", 2)]) (g := gName 2) (tt := tYes) (by rfl) sc__law_table_right.nd (piT (K := K) rfl (fldK (K := K) rfl (pv 0) rfl)) (blkOk_by (own := [("_law_place_here", 2)]) (N := N__law_table_right) (sc := defScope s__law_table_right) (by decide +kernel)) (fun _ _ _ _ _ => pg_name (i := 2) sc__law_table_right.nd rfl (Or.inl rfl)) (fun _ _ _ _ _ => pts_nil) (fun _ _ _ _ _ => by exact (pe_callB (isiK (K := K) rfl) (by rfl) T.n_isinstance (by decide +kernel) (pa_cons (pv 2) (pa_cons (pe_glob (v := .ref CP) rfl T.g_Place rfl) pa_nil))))) pa_nil)))) (pw_or1 (pt_not (pt_val (pe_callB (isiK (K := K) rfl) (by rfl) T.n_isinstance (by decide +kernel) (pa_cons (fldK (K := K) rfl (pv 0) rfl) (pa_cons (pe_bltn (v := .ty "tuple") (by rfl) T.n_tuple (by decide +kernel) rfl) pa_nil)))))))) (pss_one (ps_ret pe_bl)) pss_nil)
 (pss_cons (ps_asg (tupS (pa_cons (pe_lc (own := [("_law_place_here", 2)]) (g := gName 2) (tt := tYes) (by rfl) sc__law_table_right.nd (piT (K := K) rfl (fldK (K := K) rfl (pv 0) rfl)) (blkOk_by (own := [("_law_place_here", 2)]) (N := N__law_table_right) (sc := defScope s__law_table_right) (by decide +kernel)) (fun _ _ _ _ _ => pg_name (i := 2) sc__law_table_right.nd rfl (Or.inl rfl)) (fun _ _ _ _ _ => pts_nil) (fun _ _ _ _ _ => by exact (calS g_law_row pass0 hr (by decide) (by rfl) (pa_cons (pv 2) pa_nil)))) (pa_cons (fldK (K := K) rfl (pv 0) rfl) (pa_cons (calS g_law_brewed pass0 hr (by decide) (by rfl) (pa_cons (pv 1) (pa_cons (fldK (K := K) rfl (pv 0) rfl) pa_nil))) pa_nil)))) (pg_tup rfl (pgs_cons (pg_name (i := 3) sc__law_table_right.nd rfl (Or.inr rfl)) (pgs_cons (pg_name (i := 4) sc__law_table_right.nd rfl (Or.inr rfl)) (pgs_cons (pg_name (i := 5) sc__law_table_right.nd rfl (Or.inr rfl)) pgs_nil)))))
 (pss_cons (ps_if (PW.pt (pw_or (pt_not (pt_val (calS g_law_ledge_right pass0 hr (by decide) (by rfl) (pa_cons (pv 3) (pa_cons (pv 4) pa_nil))))) (pw_or1 (pt_cmpR op_isNS (pv 5) pe_non (nomark _))))) (pss_one (ps_ret pe_bl)) pss_nil)
 (pss_cons (ps_set (i := 6) sc__law_table_right.nd rfl (Or.inl rfl) (pe_op op_catS (pv 3) (pe_op op_repS (lstS (pa_cons (tupS (pa_cons pe_int (pa_cons pe_int (pa_cons (pv 4) pa_nil)))) pa_nil)) (pe_callTy call_int1S (by rfl) T.n_int (by decide +kernel) (pa_cons (pe_cmpR op_gt (pv 4) pe_int (nomark _)) pa_nil)))))
 (pss_cons (ps_if (PW.pt (pw_or (pt_cmpR op_ne (pe_callB (lenK (K := K) rfl) (by rfl) T.n_len (by decide +kernel) (pa_cons (fldK (K := K) rfl (pv 0) rfl) pa_nil)) (pe_callB (lenK (K := K) rfl) (by rfl) T.n_len (by decide +kernel) (pa_cons (pv 6) pa_nil)) (nomark _)) (pw_or1 (pt_not (pt_val (pe_callB (allK (K := K) rfl rfl) (by rfl) T.n_all (by decide +kernel) (pa_cons (pe_lc (own := [("_law_number_here", 7)]) (g := gName 7) (tt := tYes) (by rfl) sc__law_table_right.nd (piT (K := K) rfl (fldK (K := K) rfl (pv 0) rfl)) (blkOk_by (own := [("_law_number_here", 7)]) (N := N__law_table_right) (sc := defScope s__law_table_right) (by decide +kernel)) (fun _ _ _ _ _ => pg_name (i := 7) sc__law_table_right.nd rfl (Or.inl rfl)) (fun _ _ _ _ _ => pts_nil) (fun _ _ _ _ _ => by exact (pe_chain op_le op_lt pe_int (pv 7) (pe_callB (lenK (K := K) rfl) (by rfl) T.n_len (by decide +kernel) (pa_cons (pv 5) pa_nil))))) pa_nil))))))) (pss_one (ps_ret pe_bl)) pss_nil)
 (pss_cons (ps_if (pt_cmpR (op_neD (ru64 hr)) (pe_lc (own := [("_law_number_here", 7)]) (g := gName 7) (tt := tYes) (by rfl) sc__law_table_right.nd (piT (K := K) rfl (fldK (K := K) rfl (pv 0) rfl)) (blkOk_by (own := [("_law_number_here", 7)]) (N := N__law_table_right) (sc := defScope s__law_table_right) (by decide +kernel)) (fun _ _ _ _ _ => pg_name (i := 7) sc__law_table_right.nd rfl (Or.inl rfl)) (fun _ _ _ _ _ => pts_nil) (fun _ _ _ _ _ => by exact (pe_ix (ixLK (K := K) rfl) (pv 5) (pv 7) (fun _ _ => rfl)))) (pv 6) (nomark _)) (pss_one (ps_ret pe_bl)) pss_nil)
 (pss_one (ps_ret (pe_callB (allK (K := K) rfl rfl) (by rfl) T.n_all (by decide +kernel) (pa_cons (pe_lc (own := [("_law_row_here", 8)]) (g := gName 8) (tt := tYes) (by rfl) sc__law_table_right.nd (piL (K := K) rfl (pv 1)) (blkOk_by (own := [("_law_row_here", 8)]) (N := N__law_table_right) (sc := defScope s__law_table_right) (by decide +kernel)) (fun _ _ _ _ _ => pg_name (i := 8) sc__law_table_right.nd rfl (Or.inl rfl)) (fun _ _ _ _ _ => pts_nil) (fun _ _ _ _ _ => by exact (pe_cmpR op_notNS (calS g_law_figures pass0 hr (by decide) (by rfl) (pa_cons (pv 3) (pa_cons (pv 4) (pa_cons (pv 8) pa_nil)))) pe_non (nomark _)))) pa_nil))))))))))), ?_⟩
  have xl : xs.length ≤ 2 := by rw [hS.rows.1]; exact rows_le S
  refine rd_seqJ (fun σ' H' => σ' = [some (.ref p), some (.ref l), none, none, none, none, none, none, none] ∧ H' = H) (fun N' hN' => ?_) ?_
  · walk_at "rd"
    refine rd_isTab T hS.tb ?_
    walk_at "rd"
    refine rd_tled T hS ?_
    walk_at "rd"
    refine rd_isTup hS.led ?_
    walk_at "rd"
    refine rd_trec T hS ?_
    walk_at "rd"
    refine rd_isTup hS.rcp ?_
    walk_at "rd"
    exact hN' _ _ ⟨rfl, rfl⟩
  rintro σ' H' ⟨rfl, rfl⟩
  refine rd_seqJ (fun σ' H2 => ∃ c2, σ' = [some (.ref p), some (.ref l), c2, none, none, none, none, none, none] ∧ Same H' H2) (fun N' hN' => ?_) ?_
  · walk_at "rd"
    refine rd_tled T hS ?_
    refine rd_lcT hS.led (by omega) (fun k y H' => y = .bl true) (fun k y H1 H2 s h => h) (fun k y H1 D xs ys hD h => h) (fun x => rfl) (fun k x H1 hx1 s1 F hF => ?_) (fun D zs H1 n1 s1 hD hl1 hR => ?_)
    · obtain ⟨q, g, rfl, eg, hq⟩ := (hS.rows.mono s1).get hx1
      walk_at "rd"
      refine rd_isP T hq ?_
      exact hF _ H1 (Same.refl _) rfl
    · walk_at "rd"
      refine rd_all hD hR ?_
      walk_at "rd"
      refine rd_tmad T (hS.mono s1) ?_
      walk_at "rd"
      refine rd_isTup (s1 _ _ hS.mad) ?_
      walk_at "rd"
      exact hN' _ _ ⟨_, rfl, s1⟩
  rintro σ' H2 ⟨c2, rfl, s2⟩
  have s2' := s2
  have hS2 := hS.mono s2
  walk_at "rd"
  refine rd_tled T hS2 ?_
  refine rd_lcT hS2.led (by omega) (fun k y H' => ∀ g, S.rows[k]? = some g → ∃ q, y = .ref q ∧ T3 H' q g) (fun k y H1 H2 s h g e => let ⟨q, e1, e2⟩ := h g e; ⟨q, e1, e2.mono s⟩) (fun k y H1 D xs ys hD h g e => let ⟨q, e1, e2⟩ := h g e; ⟨q, e1, SameB.of _ _ (ne_of (show H1 q = _ from e2) hD (by intro z; cases z)) e2⟩) (fun x => rfl) (fun k x H1 hx1 s1 F hF => ?_) (fun D zs H3 n3 s3 hD hl1 hR => ?_)
  · obtain ⟨q, g, rfl, eg, hq⟩ := (hS2.rows.mono s1).get hx1
    walk_at "rd"
    refine ⟨q, g, rfl, hq, fun r H4 n4 s4 hr4 => hF _ H4 s4 fun g' eg' => ?_⟩
    rw [eg] at eg'
    cases eg'
    exact ⟨r, rfl, hr4⟩
  have hS3 := hS2.mono s3
  have sD := s3
  have hrw : Rws3 H3 zs S.rows := rows_of (by rw [hl1, hS.rows.1]) hR
  walk_at "rd"
  refine rd_home T hS3.tb ?_
  walk_at "rd"
  refine rd_trec T hS3 ?_
  walk_at "rd"
  have hw3 := (hw.mono s2).mono s3
  have hl3 := s3 _ _ (s2 _ _ hl)
  refine ⟨l, ra, ls, ys, told, lines, stock, rfl, hl3, hw3, hS3.rcp, hS3.lns, hS3.gr, hS3.len, fun sq ws H4 s4 hsq hws => ?_⟩
  walk_at "rd"
  refine rd_new fun tq H5 n5 s5 htq => ?_
  walk_at "rd"
  have hD5 := s5 _ _ (s4 _ _ hD)
  have hrw5 := (hrw.mono s4).mono s5
  have hS5 := (hS3.mono s4).mono s5
  refine ⟨D, zs, S, rfl, hD5, hrw5, ok.ok, ok.bd, fun H6 s6 => ?_⟩
  walk_at "rd"
  have hD6 := s6 _ _ hD5
  have hrw6 := hrw5.mono s6
  have hS6 := hS5.mono s6
  have hsq6 := s6 _ _ (s5 _ _ hsq)
  have hws6 := (hws.mono s5).mono s6
  refine rd_new fun z0 H7 n7 s7 hz0 => ?_
  walk_at "rd"
  refine rd_newL fun l0 H8 n8 s8 hl0 => ?_
  walk_at "rd"
  have c0 := ok.ok.c0
  have kk : ∃ k : Int, (if decide (S.c > 0) = true then (1 : Int) else 0) = k ∧ 0 ≤ k ∧ k ≤ 1 ∧ (k = if S.c ≠ 0 then 1 else 0) := by
    refine ⟨_, rfl, by split <;> omega, by split <;> omega, ?_⟩
    by_cases hc : S.c = 0
    · rw [if_neg (by simp; omega), if_neg (fun z => z hc)]
    · rw [if_pos (by simp; omega), if_pos hc]
  obtain ⟨k, ek, k0, k1, ekc⟩ := kk
  rw [ek]
  refine ⟨l0, k, [.ref z0], rfl, rfl, hl0, k0, by omega, (by show 1 ≤ 1000; decide), fun l1 H9 n9 s9 hl1' => ?_⟩
  walk_at "rd"
  have hD9 := s9 _ _ (s8 _ _ (s7 _ _ hD6))
  have zl : zs.length ≤ 2 := by rw [hrw.1]; exact rows_le S
  obtain ⟨fl, efl, hfl⟩ : ∃ fl, (List.replicate k.toNat [V.ref z0]).flatten = fl ∧ (fl = if S.c ≠ 0 then [.ref z0] else []) := by
    refine ⟨_, rfl, ?_⟩
    rw [ekc]
    split <;> rfl
  rw [efl] at hl1'
  have fl1 : fl.length ≤ 1 := by rw [hfl]; split <;> simp
  refine rd_cat hD9 hl1' (by omega) fun ld H10 n10 s10 hld => ?_
  walk_at "rd"
  have s6A := fun (_ : Unit) => ((s7.trans s8).trans s9).trans s10
  have hdue : Rws3 H10 (zs ++ fl) (S.rows ++ if S.c ≠ 0 then [⟨0, 0, S.c⟩] else []) := by
    have h1 := hrw6.mono (s6A ())
    rw [hfl]
    by_cases hc : S.c = 0
    · rw [if_neg (fun z => z hc), if_neg (fun z => z hc), List.append_nil, List.append_nil]
      exact h1
    · rw [if_pos hc, if_pos hc]
      exact h1.snoc (s10 _ _ (s9 _ _ (s8 _ _ hz0)))
  have hSA := hS6.mono (s6A ())
  have hsqA := s6A () _ _ hsq6
  have hwsA := hws6.mono (s6A ())
  have ml : ms.length ≤ 3 := by
    rw [hS.pk.1, List.length_append]
    have := rows_le S
    split <;> simp <;> omega
  have hmaA := hSA.mad
  have hlA := s6A () _ _ (s6 _ _ (s5 _ _ (s4 _ _ hl3)))
  have hwA := (((hw3.mono s4).mono s5).mono s6).mono (s6A ())
  have hDA := s10 _ _ hD9
  have hrwA := hrw6.mono (s6A ())
  obtain ⟨due, ed⟩ : ∃ due, due = S.rows ++ (if S.c ≠ 0 then [(⟨0, 0, S.c⟩ : Pl)] else []) := ⟨_, rfl⟩
  have pk := hS.pk
  rw [← ed] at hdue pk
  refine rd_tmad T hSA ?_
  refine rd_nil ?_
  refine rd_lenT hmaA ?_
  refine rd_cb ?_
  refine rd_cons ?_
  walk_at "rd1"
  walk_at "rd1"
  refine rd_lenL hld ?_
  walk_at "rd1"
  walk_at "rd1"
  have elen : (((natV ms).length : Nat) : Int) = (((zs ++ fl).length : Nat) : Int) := by rw [natV_len, pk.1, hdue.1]
  refine rd_ndec (fun z => absurd elen z) (fun _ => ?_)
  clear elen
  walk_at "rd"
  refine rd_tmad T hSA ?_
  refine rd_lcT hmaA (by rw [natV_len]; omega) (fun k y H' => y = .bl true) (fun k y H1 H2 s h => h) (fun k y H1 D xs ys hD h => h) (fun x => rfl) (fun k x H1 hx1 s1 F hF => ?_) (fun D1 zs1 H1 n1 s1 hD1 hl1 hR1 => ?_)
  · have hi : k < ms.length := by have := (List.getElem?_eq_some_iff.mp hx1).1; rwa [natV_len] at this
    obtain ⟨m, hm⟩ : ∃ m, ms[k]? = some m := ⟨ms[k], List.getElem?_eq_getElem hi⟩
    have ex : x = .int (m : Nat) := by unfold natV at hx1; rw [List.getElem?_map, hm] at hx1; exact (Option.some.inj hx1).symm
    subst ex
    obtain ⟨g, eg, em⟩ := pk.2 k m hm
    have mw : m < ws.length := by rw [hws.1]; exact (List.getElem?_eq_some_iff.mp em).1
    have hsq1 := s1 _ _ hsqA
    walk_at "rd"
    refine rd_dec (fun _ => ?_) (fun z => absurd (show (0 : Int) ≤ (m : Nat) by omega) z)
    walk_at "rd"
    exact hF _ H1 (Same.refl _) (by rw [decide_eq_true (show ((m : Nat) : Int) < (ws.length : Nat) by omega)])
  walk_at "rd"
  refine rd_all hD1 hR1 ?_
  walk_at "rd"
  have hSB := hSA.mono s1
  have hsqB := s1 _ _ hsqA
  have hwsB := hwsA.mono s1
  refine rd_tmad T hSB ?_
  refine rd_lcT hSB.mad (by rw [natV_len]; omega) (fun k y H' => ∀ g, due[k]? = some g → ∃ q, y = .ref q ∧ T3 H' q g) (fun k y H1 H2 s h g e => let ⟨q, e1, e2⟩ := h g e; ⟨q, e1, e2.mono s⟩) (fun k y H1 D xs ys hD h g e => let ⟨q, e1, e2⟩ := h g e; ⟨q, e1, SameB.of _ _ (ne_of (show H1 q = _ from e2) hD (by intro z; cases z)) e2⟩) (fun x => rfl) (fun k x H1 hx1 s1 F hF => ?_) (fun D2 zs2 H2 n2 s2 hD2 hl2 hR2 => ?_)
  · have hi : k < ms.length := by have := (List.getElem?_eq_some_iff.mp hx1).1; rwa [natV_len] at this
    obtain ⟨m, hm⟩ : ∃ m, ms[k]? = some m := ⟨ms[k], List.getElem?_eq_getElem hi⟩
    have ex : x = .int (m : Nat) := by unfold natV at hx1; rw [List.getElem?_map, hm] at hx1; exact (Option.some.inj hx1).symm
    subst ex
    obtain ⟨g, eg, em⟩ := pk.2 k m hm
    obtain ⟨q, e1, e2⟩ := (hwsB.mono s1).2 m g em
    walk_at "rd"
    refine rd_ixL (s1 _ _ hsqB) (atI_nat e1) ?_
    refine hF _ H1 (Same.refl _) fun g' eg' => ⟨q, rfl, ?_⟩
    rw [eg] at eg'
    cases eg'
    exact e2
  have hrw2 : Rws3 H2 zs2 due := rows_of (by rw [hl2, natV_len, pk.1]) hR2
  walk_at "rd"
  refine ⟨rowD due, rowD due, rows_dp hD2 hrw2, rows_dp (s2 _ _ (s1 _ _ hld)) ((hdue.mono s1).mono s2), rows_shaped due, rows_shaped due, ?_⟩
  rw [rows_eqv]
  walk_at "rd"
  have s12 := fun (_ : Unit) => s1.trans s2
  refine rd_lcL (s12 () _ _ hlA) (by rw [hw.1]; omega) (fun k y H' => y = .bl true) (fun k y H1 H2 s h => h) (fun k y H1 D xs ys hD h => h) (fun x => rfl) (fun k x H3 hx3 s3 F hF => ?_) (fun D3 zs3 H3 n3 s3 hD3 hl3 hR3 => ?_)
  · obtain ⟨q, g, rfl, eg, hq⟩ := ((hwA.mono (s12 ())).mono s3).get hx3
    have gm := List.mem_of_getElem? eg
    have b := tB g gm
    walk_at "rd"
    refine ⟨D, q, zs, S, g, 120, rfl, s3 _ _ (s12 () _ _ hDA), (hrwA.mono (s12 ())).mono s3, ok.ok, ok.bd, hq, ⟨b.x.mono (by omega), b.y.mono (by omega), b.a⟩, by omega, fun H' s hn => absurd (ok.mem g gm) hn, fun q2 H4 s4 _ => ?_⟩
    walk_at "rd"
    exact hF _ H4 s4 rfl
  walk_at "rd"
  refine rd_all hD3 hR3 ?_
  exact h H3 (((((((s2'.trans sD).trans s4).trans s5).trans s6).trans (s6A ())).trans (s12 ())).trans s3)
end
end Wk
namespace Wk
set_option linter.all false
set_option maxRecDepth 100000
set_option maxHeartbeats 1000000
open PySem L2
local macro_rules | `(tactic| walk_at "cy") => `(tactic| first
  | assumption
  | ((with_reducible refine' at_mono (H := ?H) ?s ?h); (case s => assumption); (case h => walk_at "cy"))
  | ((with_reducible refine' PlAt.mono (H := ?H) ?s ?h); (case s => assumption); (case h => walk_at "cy")))
local macro_rules | `(tactic| walk_at "rd1") => `(tactic| first
  | (with_reducible refine' rd_seq ?_) | (with_reducible refine' rd_asg ?_) | (with_reducible refine' rd_par ?_) | (with_reducible refine' rd_ret ?_)
  | (with_reducible refine' rd_ifs ?_) | (with_reducible refine' rd_drop ?_) | (with_reducible refine' rd_next ?_) | (with_reducible refine' rd_asgG ?_)
  | ((with_reducible refine' rd_var (v := ?v) ?e ?h); (case e => exact rfl)) | (with_reducible refine' rd_c ?_) | (with_reducible refine' rd_op ?_) | (with_reducible refine' rd_un ?_)
  | (with_reducible refine' rd_cb ?_) | (with_reducible refine' rd_cons ?_) | (with_reducible refine' rd_nil ?_)
  | (with_reducible refine' rd_I0 ?_) | (with_reducible refine' rd_U ?_) | (with_reducible refine' rd_eqI ?_) | (with_reducible refine' rd_neI ?_)
  | (with_reducible refine' rd_test ?_) | (with_reducible refine' rd_bl ?_) | (with_reducible refine' rd_not ?_) | (with_reducible refine' rd_and ?_) | (with_reducible refine' rd_or ?_)
  | (with_reducible refine' rd_t ?_) | (with_reducible refine' rd_f ?_) | (with_reducible refine' rd_nt ?_) | (with_reducible refine' rd_nf ?_)
  | (with_reducible refine' rd_andV ?_) | (with_reducible refine' rd_orV ?_) | (with_reducible refine' rd_notV ?_) | (with_reducible refine' rd_B ?_) | (with_reducible refine' rd_forR1 ?_) | (with_reducible refine' rd_forR2 ?_) | (with_reducible refine' rd_for ?_) | (with_reducible refine' rd_iT ?_) | (with_reducible refine' rd_iL ?_) | (with_reducible refine' rd_lc ?_)
  | (with_reducible refine' rd_if ?_) | (with_reducible refine' rd_isNr ?_) | (with_reducible refine' rd_isN0 ?_) | (with_reducible refine' rd_notNr ?_) | (with_reducible refine' rd_notN0 ?_) | (with_reducible refine' rd_abs ?_) | ((with_reducible refine' rd_lenL (xs := ?xs) ?f ?h); (case f => walk_at "cy")) | ((with_reducible refine' rd_lenT (xs := ?xs) ?f ?h); (case f => walk_at "cy")) | (with_reducible refine' rd_mt ?_) | (with_reducible refine' rd_bm ?_) | (with_reducible refine' rd_tru ?_) | (with_reducible refine' rd_truInt ?_) | (with_reducible refine' rd_fld ?_)
  | ((with_reducible refine' rd_ixT (xs := ?xs) (v := ?v) ?f ?e ?h); (case f => walk_at "cy"); (case e => exact rfl))
  | ((with_reducible refine' rd_ixL (xs := ?xs) (v := ?v) ?f ?e ?h); (case f => walk_at "cy"); (case e => exact rfl))
  | ((with_reducible refine' rd_gtup (xs := ?xs) ?f ?e ?h); (case f => walk_at "cy"); (case e => exact rfl))
  | (with_reducible refine' rd_gcons ?_) | (with_reducible refine' rd_gnil ?_) | (with_reducible refine' rd_gname ?_))
local macro_rules | `(tactic| walk_at "rd") => `(tactic| repeat walk_at "rd1")
local macro_rules | `(tactic| walk_at "cy") => `(tactic| first
  | assumption
  | ((with_reducible refine' at_mono (H := ?H) ?s ?h); (case s => assumption); (case h => walk_at "cy"))
  | ((with_reducible refine' T2.mono (H := ?H) ?s ?h); (case s => assumption); (case h => walk_at "cy"))
  | ((with_reducible refine' PlAt.mono (H := ?H) ?s ?h); (case s => assumption); (case h => walk_at "cy"))
  | ((with_reducible refine' Pls.mono (H := ?H) ?s ?h); (case s => assumption); (case h => walk_at "cy")))
local macro_rules | `(tactic| walk_at "cy") => `(tactic| first
  | assumption
  | ((with_reducible refine' at_mono (H := ?H) ?s ?h); (case s => assumption); (case h => walk_at "cy"))
  | ((with_reducible refine' T2.mono (H := ?H) ?s ?h); (case s => assumption); (case h => walk_at "cy"))
  | ((with_reducible refine' PlAt.mono (H := ?H) ?s ?h); (case s => assumption); (case h => walk_at "cy"))
  | ((with_reducible refine' Pls.mono (H := ?H) ?s ?h); (case s => assumption); (case h => walk_at "cy"))
  | ((with_reducible refine' TbAt.mono (H := ?H) ?s ?h); (case s => assumption); (case h => walk_at "cy"))
  | ((with_reducible refine' Rws.mono (H := ?H) ?s ?h); (case s => assumption); (case h => walk_at "cy")))
local macro_rules | `(tactic| walk_at "rd") => `(tactic| repeat (first
  | walk_at "rd1"
  | (with_reducible refine' rd_chain ?_)
  | (with_reducible refine' rd_dget ?_)
  | (with_reducible refine' rd_tcells (by assumption) ?_)
  | (with_reducible refine' rd_tat (by assumption) ?_)
  | (with_reducible refine' rd_trest (by assumption) ?_)
  | (with_reducible refine' rd_slN ?_)
  | (with_reducible refine' rd_max ?_)
  | (with_reducible refine' rd_int ?_) | (with_reducible refine' rd_intb ?_)))
section
variable {P : Program} {w : World} {K : PySem.W.Frag} {mg : Str → Option Value} {base : Heap} {CP CB CT CE : Addr}
abbrev s__law_parts_right : Stmt := top 69
def N__law_parts_right : List Str := ["_law_one", "_law_other", "_law_row_here", "_law_found", "_law_part", "_law_first", "_law_second", "_law_place_here"]
theorem sc__law_parts_right : FnScope ["_law_one", "_law_other", "_law_row_here", "_law_found", "_law_part", "_law_first", "_law_second", "_law_place_here"] ["_law_one", "_law_other", "_law_row_here"] (defScope s__law_parts_right) := ⟨rfl, rfl, rfl, by decide +kernel, rfl, by decide +kernel, by decide +kernel⟩
def spParts (CP CT : Addr) : Sp := fun vs H Q _ => ∃ (p q r : Addr) (S U : Tb) (g : Pl), vs = [.ref p, .ref q, .ref r] ∧ TbAt CP CT H p S ∧ TbAt CP CT H q U ∧ TbB S ∧ TbB U ∧ S.Ok ∧ U.Ok ∧ T3 H r g ∧ FitsP 168 (g.x, g.y) ∧ Fits 3060 g.a ∧ (∃ a b, S.Mem a ∧ U.Mem b ∧ a.mul b = g) ∧ ∀ H', Same H H' → Q (.bl true) H'
theorem ok_law_parts_right (T : Txt K mg CP CB CT CE) : Cal P w K mg base L2.CX0 10 "_law_parts_right" (spParts CP CT) := by
  have g_in_product := ok_in_product (P := P) (w := w) (base := base) T
  have g_law_place := ok_law_place (P := P) (w := w) (base := base) T
  have g_law_row := ok_law_row (P := P) (w := w) (base := base) T
  have g_law_figures := ok_law_figures (P := P) (w := w) (base := base) T
  have g_law_mul := ok_law_mul (P := P) (w := w) (base := base) T
  refine T.f_law_parts_right.cal sc__law_parts_right (fun vs H Q E ⟨p, q, r, S, U, g, e, _⟩ => by subst e; rfl) (N := N__law_parts_right) fun f cdv A outer s H vs Q E hr h => ?_
  obtain ⟨p, q, r, S, U, g, rfl, hS, hU, bS, bU, oS, oU, hr3, fg, fa, hY, h⟩ := h
  refine ⟨_, (pss_cons (ps_set (i := 3) sc__law_parts_right.nd rfl (Or.inl rfl) (calS g_in_product pass0 hr (by decide) (by rfl) (pa_cons (pv 0) (pa_cons (pv 1) (pa_cons (calS g_law_place pass0 hr (by decide) (by rfl) (pa_cons (pv 2) pa_nil)) pa_nil)))))
 (pss_cons (ps_if (PW.pt (pw_or (pt_not (pt_val (pe_callB (isiK (K := K) rfl) (by rfl) T.n_isinstance (by decide +kernel) (pa_cons (pv 3) (pa_cons (pe_bltn (v := .ty "tuple") (by rfl) T.n_tuple (by decide +kernel) rfl) pa_nil))))) (pw_or (pt_cmpR op_ne (pe_callB (lenK (K := K) rfl) (by rfl) T.n_len (by decide +kernel) (pa_cons (pv 3) pa_nil)) pe_int (nomark _)) (pw_or1 (pt_not (pt_val (pe_callB (allK (K := K) rfl rfl) (by rfl) T.n_all (by decide +kernel) (pa_cons (pe_lc (own := [("_law_part", 4)]) (g := gName 4) (tt := tYes) (by rfl) sc__law_parts_right.nd (piT (K := K) rfl (pv 3)) (blkOk_by (own := [("_law_part", 4)]) (N := N__law_parts_right) (sc := defScope s__law_parts_right) (by decide +kernel)) (fun _ _ _ _ _ => pg_name (i := 4) sc__law_parts_right.nd rfl (Or.inl rfl)) (fun _ _ _ _ _ => pts_nil) (fun _ _ _ _ _ => by exact (pe_callB (isiK (K := K) rfl) (by rfl) T.n_isinstance (by decide +kernel) (pa_cons (pv 4) (pa_cons (pe_glob (v := .ref CP) rfl T.g_Place rfl) pa_nil))))) pa_nil)))))))) (pss_one (ps_ret pe_bl)) pss_nil)
 (pss_cons (ps_par (i := 5) (j := 6) rfl sc__law_parts_right.nd rfl rfl (by decide) rfl rfl (pa_cons (calS g_law_row pass0 hr (by decide) (by rfl) (pa_cons (pe_ix (ixTK (K := K) rfl) (pv 3) pe_int (fun _ _ => rfl)) pa_nil)) (pa_cons (calS g_law_row pass0 hr (by decide) (by rfl) (pa_cons (pe_ix (ixTK (K := K) rfl) (pv 3) pe_int (fun _ _ => rfl)) pa_nil)) pa_nil)) (by rfl))
 (pss_cons (ps_if (pt_cmpR op_isNS (calS g_law_figures pass0 hr (by decide) (by rfl) (pa_cons (pe_lc (own := [("_law_place_here", 7)]) (g := gName 7) (tt := tYes) (by rfl) sc__law_parts_right.nd (piT (K := K) rfl (fldK (K := K) rfl (pv 0) rfl)) (blkOk_by (own := [("_law_place_here", 7)]) (N := N__law_parts_right) (sc := defScope s__law_parts_right) (by decide +kernel)) (fun _ _ _ _ _ => pg_name (i := 7) sc__law_parts_right.nd rfl (Or.inl rfl)) (fun _ _ _ _ _ => pts_nil) (fun _ _ _ _ _ => by exact (calS g_law_row pass0 hr (by decide) (by rfl) (pa_cons (pv 7) pa_nil)))) (pa_cons (fldK (K := K) rfl (pv 0) rfl) (pa_cons (pv 5) pa_nil)))) pe_non (nomark _)) (pss_one (ps_ret pe_bl)) pss_nil)
 (pss_cons (ps_if (pt_cmpR op_isNS (calS g_law_figures pass0 hr (by decide) (by rfl) (pa_cons (pe_lc (own := [("_law_place_here", 7)]) (g := gName 7) (tt := tYes) (by rfl) sc__law_parts_right.nd (piT (K := K) rfl (fldK (K := K) rfl (pv 1) rfl)) (blkOk_by (own := [("_law_place_here", 7)]) (N := N__law_parts_right) (sc := defScope s__law_parts_right) (by decide +kernel)) (fun _ _ _ _ _ => pg_name (i := 7) sc__law_parts_right.nd rfl (Or.inl rfl)) (fun _ _ _ _ _ => pts_nil) (fun _ _ _ _ _ => by exact (calS g_law_row pass0 hr (by decide) (by rfl) (pa_cons (pv 7) pa_nil)))) (pa_cons (fldK (K := K) rfl (pv 1) rfl) (pa_cons (pv 6) pa_nil)))) pe_non (nomark _)) (pss_one (ps_ret pe_bl)) pss_nil)
 (pss_one (ps_ret (pe_cmpR (op_eqD (ru64 hr)) (calS g_law_mul pass0 hr (by decide) (by rfl) (pa_cons (pv 5) (pa_cons (pv 6) pa_nil))) (pv 2) (nomark _))))))))), ?_⟩
  walk_at "rd"
  refine ⟨r, g, rfl, hr3, fun pl H1 n1 s1 hpl => ?_⟩
  walk_at "rd"
  refine ⟨p, q, pl, S, U, g, rfl, hS.mono s1, hU.mono s1, bS, bU, oS, oU, hpl, fg, fa, fun H2 s2 hn => absurd hY hn, fun fq p1 p2 a b H2 s2 hfq ha hb ma mb hab fpa fpb => ?_⟩
  walk_at "rd"
  refine rd_isTup hfq ?_
  walk_at "rd"
  refine rd_ndec (fun z => absurd rfl z) (fun _ => ?_)
  walk_at "rd"
  refine rd_lcT hfq (by show 2 ≤ 1000; decide) (fun k y H' => y = .bl true) (fun k y H1 H2 s h => h) (fun k y H1 D xs ys hD h => h) (fun x => rfl) (fun k x H3 hx3 s3 F hF => ?_) (fun D ys H3 n3 s3 hD hl3 hR => ?_)
  · have : ∃ z gz, x = .ref z ∧ PlAt CP H3 z gz := by
      match k, hx3 with
      | 0, hx3 => exact ⟨p1, a, (Option.some.inj hx3).symm, ha.mono s3⟩
      | 1, hx3 => exact ⟨p2, b, (Option.some.inj hx3).symm, hb.mono s3⟩
      | k + 2, hx3 => simp at hx3
    obtain ⟨z, gz, rfl, hz⟩ := this
    walk_at "rd"
    refine rd_isP T hz ?_
    exact hF _ H3 (Same.refl _) rfl
  walk_at "rd"
  refine rd_all hD hR ?_
  walk_at "rd"
  have hfq3 := s3 _ _ hfq
  have ha3 := ha.mono s3
  have hb3 := hb.mono s3
  have hS3 := ((hS.mono s1).mono s2).mono s3
  have hU3 := ((hU.mono s1).mono s2).mono s3
  have hr33 := ((hr3.mono s1).mono s2).mono s3
  refine ⟨p1, a, rfl, ha3, fun r1 H4 n4 s4 hr1 => ?_⟩
  walk_at "rd"
  refine ⟨p2, b, rfl, hb3.mono s4, fun r2 H5 n5 s5 hr2 => ?_⟩
  walk_at "rd"
  have hS5 := (hS3.mono s4).mono s5
  have hU5 := (hU3.mono s4).mono s5
  have hr15 := hr1.mono s5
  refine rd_ledge T hS5 fun l1 xs1 hl1 hx1 => ?_
  have xl1 : xs1.length ≤ 2 := by rw [hx1.1]; exact rows_le S
  refine rd_lcT hl1 (by omega) (fun k y H' => ∀ g, S.rows[k]? = some g → ∃ q, y = .ref q ∧ T3 H' q g) (fun k y H1 H2 s h g e => let ⟨q, e1, e2⟩ := h g e; ⟨q, e1, e2.mono s⟩) (fun k y H1 D xs ys hD h g e => let ⟨q, e1, e2⟩ := h g e; ⟨q, e1, SameB.of _ _ (ne_of (show H1 q = _ from e2) hD (by intro z; cases z)) e2⟩) (fun x => rfl) (fun k x H6 hx6 s6 F hF => ?_) (fun D1 zs1 H6 n6 s6 hD1 hz1 hR1 => ?_)
  · obtain ⟨q, g, rfl, eg, hq⟩ := (hx1.mono s6).get hx6
    walk_at "rd"
    refine ⟨q, g, rfl, hq, fun r H7 n7 s7 hr7 => hF _ H7 s7 fun g' eg' => ?_⟩
    rw [eg] at eg'
    cases eg'
    exact ⟨r, rfl, hr7⟩
  walk_at "rd"
  refine rd_home T (hS5.mono s6) ?_
  walk_at "rd"
  refine ⟨D1, r1, zs1, S, a, 60000, rfl, hD1, rows_of (by rw [hz1, hx1.1]) hR1, oS, bS, hr15.mono s6, fpa, by omega, fun H7 s7 hn => absurd ma hn, fun q H7 s7 _ => ?_⟩
  walk_at "rd"
  have hU7 := (hU5.mono s6).mono s7
  have hr27 := (hr2.mono s6).mono s7
  have hr17 := (hr15.mono s6).mono s7
  refine rd_ledge T hU7 fun l2 xs2 hl2 hx2 => ?_
  have xl2 : xs2.length ≤ 2 := by rw [hx2.1]; exact rows_le U
  refine rd_lcT hl2 (by omega) (fun k y H' => ∀ g, U.rows[k]? = some g → ∃ q, y = .ref q ∧ T3 H' q g) (fun k y H1 H2 s h g e => let ⟨q, e1, e2⟩ := h g e; ⟨q, e1, e2.mono s⟩) (fun k y H1 D xs ys hD h g e => let ⟨q, e1, e2⟩ := h g e; ⟨q, e1, SameB.of _ _ (ne_of (show H1 q = _ from e2) hD (by intro z; cases z)) e2⟩) (fun x => rfl) (fun k x H8 hx8 s8 F hF => ?_) (fun D2 zs2 H8 n8 s8 hD2 hz2 hR2 => ?_)
  · obtain ⟨q, g, rfl, eg, hq⟩ := (hx2.mono s8).get hx8
    walk_at "rd"
    refine ⟨q, g, rfl, hq, fun r H7 n7 s7 hr7 => hF _ H7 s7 fun g' eg' => ?_⟩
    rw [eg] at eg'
    cases eg'
    exact ⟨r, rfl, hr7⟩
  walk_at "rd"
  refine rd_home T (hU7.mono s8) ?_
  walk_at "rd"
  refine ⟨D2, r2, zs2, U, b, 60000, rfl, hD2, rows_of (by rw [hz2, hx2.1]) hR2, oU, bU, hr27.mono s8, fpb, by omega, fun H9 s9 hn => absurd mb hn, fun q2 H9 s9 _ => ?_⟩
  walk_at "rd"
  refine ⟨r1, r2, a, b, 60000, rfl, (hr17.mono s8).mono s9, (hr27.mono s8).mono s9, fpa.1, fpb.2.1, by omega, fun rp HA nA sA hrp => ?_⟩
  walk_at "rd"
  rw [hab] at hrp
  have hgA : T3 HA r g := ((((((hr33.mono s4).mono s5).mono s6).mono s7).mono s8).mono s9).mono sA
  refine ⟨rowD1 g, rowD1 g, row_dp hrp, row_dp hgA, row_shaped g, row_shaped g, ?_⟩
  rw [row_eqv, decide_eq_true rfl]
  exact h HA (((((((((s1.trans s2).trans s3).trans s4).trans s5).trans s6).trans s7).trans s8).trans s9).trans sA)
end
end Wk
namespace Wk
set_option linter.all false
/-! the ring: all multiples of n are told -/
structure RingT (T : Tb) (n : Int) : Prop where
  x : T.Mem ⟨n, 0, 0⟩
  y : T.Mem ⟨0, n, 0⟩
  a : T.Mem ⟨0, 0, n⟩
def Cg (n : Int) (g h : Pl) : Prop := n ∣ h.x - g.x ∧ n ∣ h.y - g.y ∧ n ∣ h.a - g.a
theorem Cg.symm {n : Int} {g h : Pl} (c : Cg n g h) : Cg n h g := ⟨dvd_sub_comm.mp c.1, dvd_sub_comm.mp c.2.1, dvd_sub_comm.mp c.2.2⟩
theorem Cg.trans {n : Int} {g h k : Pl} (c : Cg n g h) (d : Cg n h k) : Cg n g k := by
  refine ⟨?_, ?_, ?_⟩
  · have e := Int.dvd_add c.1 d.1
    rwa [show h.x - g.x + (k.x - h.x) = k.x - g.x by omega] at e
  · have e := Int.dvd_add c.2.1 d.2.1
    rwa [show h.y - g.y + (k.y - h.y) = k.y - g.y by omega] at e
  · have e := Int.dvd_add c.2.2 d.2.2
    rwa [show h.a - g.a + (k.a - h.a) = k.a - g.a by omega] at e
theorem ring_mul3 (n i j m : Int) : ((Pl.pow ⟨n, 0, 0⟩ i).mul (Pl.pow ⟨0, n, 0⟩ j)).mul (Pl.pow ⟨0, 0, n⟩ (m - n * i * j)) = ⟨n * i, n * j, n * m⟩ := by
  refine Pl.ext' ?_ ?_ ?_ <;> simp only [Pl.mul, Pl.pow] <;> grind
theorem RingT.all {T : Tb} {n : Int} (ok : T.Ok) (R : RingT T n) (i j m : Int) : T.Mem ⟨n * i, n * j, n * m⟩ := by
  have c := T.clo' ok
  rw [← ring_mul3]
  exact c.mul (c.mul (c.pow R.x _) (c.pow R.y _)) (c.pow R.a _)
/-- what makes h from g lies in the ring -/
theorem Cg.part {T : Tb} {n : Int} (ok : T.Ok) (R : RingT T n) {g h : Pl} (c : Cg n g h) : T.Mem (g.inv.mul h) := by
  obtain ⟨⟨i, hi⟩, ⟨j, hj⟩, ⟨m, hm⟩⟩ := c
  have e : g.inv.mul h = ⟨n * i, n * j, n * (m - g.x * j)⟩ := by
    have e1 : h.x = g.x + n * i := by omega
    have e2 : h.y = g.y + n * j := by omega
    have e3 : h.a = g.a + n * m := by omega
    refine Pl.ext' ?_ ?_ ?_ <;> simp only [Pl.mul, Pl.inv, e1, e2, e3] <;> grind
  rw [e]
  exact R.all ok i j _
theorem Cg.mem {T : Tb} {n : Int} (ok : T.Ok) (R : RingT T n) {g h : Pl} (c : Cg n g h) (m : T.Mem g) : T.Mem h := by
  have e := (T.clo' ok).mul m (c.part ok R)
  rwa [← Pl.mul_assoc, Pl.mul_inv, Pl.home_mul] at e
theorem Cg.mul {n : Int} {g h g' h' : Pl} (c : Cg n g g') (d : Cg n h h') : Cg n (g.mul h) (g'.mul h') := by
  obtain ⟨⟨i, hi⟩, ⟨j, hj⟩, ⟨m, hm⟩⟩ := c
  obtain ⟨⟨i', hi'⟩, ⟨j', hj'⟩, ⟨m', hm'⟩⟩ := d
  refine ⟨⟨i + i', ?_⟩, ⟨j + j', ?_⟩, ⟨m + m' + g.x * j' + i * h.y + n * i * j', ?_⟩⟩ <;> simp only [Pl.mul]
  · have e1 : g'.x = g.x + n * i := by omega
    have e2 : h'.x = h.x + n * i' := by omega
    rw [e1, e2]; grind
  · have e1 : g'.y = g.y + n * j := by omega
    have e2 : h'.y = h.y + n * j' := by omega
    rw [e1, e2]; grind
  · have e1 : g'.x = g.x + n * i := by omega
    have e2 : h'.y = h.y + n * j' := by omega
    have e3 : g'.a = g.a + n * m := by omega
    have e4 : h'.a = h.a + n * m' := by omega
    rw [e1, e2, e3, e4]; grind
/-- the remainders -/
def redn (n : Int) (g : Pl) : Pl := ⟨g.x.fmod n, g.y.fmod n, g.a.fmod n⟩
theorem dvd_fmod (x n : Int) : n ∣ x.fmod n - x := ⟨-(x.fdiv n), by have := Int.mul_fdiv_add_fmod x n; grind⟩
theorem redn_cg (n : Int) (g : Pl) : Cg n g (redn n g) := ⟨dvd_fmod _ _, dvd_fmod _ _, dvd_fmod _ _⟩
structure InR (n : Int) (g : Pl) : Prop where
  x : 0 ≤ g.x ∧ g.x < n
  y : 0 ≤ g.y ∧ g.y < n
  a : 0 ≤ g.a ∧ g.a < n
theorem fmod_in {x n : Int} (h : 0 < n) : 0 ≤ x.fmod n ∧ x.fmod n < n := by rw [Int.fmod_eq_emod_of_nonneg x (by omega)]; exact ⟨Int.emod_nonneg x (by omega), Int.emod_lt_of_pos x h⟩
theorem redn_in {n : Int} (h : 0 < n) (g : Pl) : InR n (redn n g) := ⟨fmod_in h, fmod_in h, fmod_in h⟩
theorem eq_of_dvd {n a b : Int} (ha : 0 ≤ a ∧ a < n) (hb : 0 ≤ b ∧ b < n) (d : n ∣ a - b) : a = b := by
  obtain ⟨k, hk⟩ := d
  have h1 : n * k < n * 1 := by omega
  have h2 : n * (-1) < n * k := by omega
  have n0 : 0 < n := by omega
  have := Int.lt_of_mul_lt_mul_left h1 (by omega)
  have := Int.lt_of_mul_lt_mul_left h2 (by omega)
  have : k = 0 := by omega
  subst this
  omega
theorem InR.eq {n : Int} {g h : Pl} (a : InR n g) (b : InR n h) (c : Cg n h g) : g = h :=
  Pl.ext' (eq_of_dvd a.x b.x c.1) (eq_of_dvd a.y b.y c.2.1) (eq_of_dvd a.a b.a c.2.2)
def ringAt (n : Int) (k : Nat) : Pl := ⟨(k : Int).fdiv (n * n), ((k : Int).fdiv n).fmod n, (k : Int).fmod n⟩
def ringRows (n : Int) (m : Nat) : List Pl := (List.range m).map (ringAt n)
theorem ringRows_succ (n : Int) (m : Nat) : ringRows n (m + 1) = ringRows n m ++ [ringAt n m] := by unfold ringRows; rw [List.range_succ, List.map_append]; rfl
theorem ring_in {n : Int} (h : n = 2 ∨ n = 3 ∨ n = 4) {g : Pl} (hg : g ∈ ringRows n (n * n * n).toNat) : InR n g := by
  have key : ∀ m : Nat, (m = 2 ∨ m = 3 ∨ m = 4) → ∀ k < m * m * m, (0 ≤ (ringAt (m : Int) k).x ∧ (ringAt (m : Int) k).x < m) ∧ (0 ≤ (ringAt (m : Int) k).y ∧ (ringAt (m : Int) k).y < m) ∧ (0 ≤ (ringAt (m : Int) k).a ∧ (ringAt (m : Int) k).a < m) := by
    rintro m (rfl | rfl | rfl) <;> decide +kernel
  obtain ⟨k, hk, rfl⟩ := List.mem_map.mp hg
  have hk := List.mem_range.mp hk
  have : ∃ m : Nat, (m = 2 ∨ m = 3 ∨ m = 4) ∧ n = (m : Int) := by
    rcases h with rfl | rfl | rfl
    · exact ⟨2, by decide, rfl⟩
    · exact ⟨3, by decide, rfl⟩
    · exact ⟨4, by decide, rfl⟩
  obtain ⟨m, hm, rfl⟩ := this
  have e : ((m : Int) * m * m).toNat = m * m * m := by rw [← Int.natCast_mul, ← Int.natCast_mul, Int.toNat_natCast]
  rw [e] at hk
  have := key m hm k hk
  exact ⟨this.1, this.2.1, this.2.2⟩
theorem ring_has {n : Int} (h : n = 2 ∨ n = 3 ∨ n = 4) {g : Pl} (hg : InR n g) : g ∈ ringRows n (n * n * n).toNat := by
  have key : ∀ m : Nat, (m = 2 ∨ m = 3 ∨ m = 4) → ∀ x < m, ∀ y < m, ∀ a < m, (x * m + y) * m + a < m * m * m ∧ (ringAt (m : Int) ((x * m + y) * m + a)).x = x ∧ (ringAt (m : Int) ((x * m + y) * m + a)).y = y ∧ (ringAt (m : Int) ((x * m + y) * m + a)).a = a := by
    rintro m (rfl | rfl | rfl) <;> decide +kernel
  have : ∃ m : Nat, (m = 2 ∨ m = 3 ∨ m = 4) ∧ n = (m : Int) := by
    rcases h with rfl | rfl | rfl
    · exact ⟨2, by decide, rfl⟩
    · exact ⟨3, by decide, rfl⟩
    · exact ⟨4, by decide, rfl⟩
  obtain ⟨m, hm, rfl⟩ := this
  have e : ((m : Int) * m * m).toNat = m * m * m := by rw [← Int.natCast_mul, ← Int.natCast_mul, Int.toNat_natCast]
  obtain ⟨⟨x0, x1⟩, ⟨y0, y1⟩, ⟨a0, a1⟩⟩ := hg
  obtain ⟨k0, k1, k2, k3⟩ := key m hm g.x.toNat (by omega) g.y.toNat (by omega) g.a.toNat (by omega)
  rw [e]
  exact List.mem_map.mpr ⟨_, List.mem_range.mpr k0, Pl.ext' (k1.trans (by omega)) (k2.trans (by omega)) (k3.trans (by omega))⟩
open Classical in
noncomputable def memB (T : Tb) (g : Pl) : Bool := decide (T.Mem g)
theorem memB_iff {T : Tb} {g : Pl} : memB T g = true ↔ T.Mem g := by unfold memB; simp
/-- the list of products as it is made -/
def addNew (l : List Pl) (g : Pl) : List Pl := if g ∈ l then l else l ++ [g]
theorem mem_addNew {l : List Pl} {g h : Pl} : h ∈ addNew l g ↔ h ∈ l ∨ h = g := by
  unfold addNew
  split
  · rename_i m
    exact ⟨.inl, fun z => z.elim id fun e => e ▸ m⟩
  · rw [List.mem_append, List.mem_singleton]
/-- where a place of the ring is a product -/
theorem ring_prod {S U : Tb} {n : Int} (hn : n = 2 ∨ n = 3 ∨ n = 4) (oS : S.Ok) (oU : U.Ok) (rS : RingT S n) (rU : RingT U n) {made : List Pl}
    (hm : ∀ z, z ∈ made ↔ ∃ a b, a ∈ (ringRows n (n * n * n).toNat).filter (memB S) ∧ b ∈ (ringRows n (n * n * n).toNat).filter (memB U) ∧ z = redn n (a.mul b)) {far : Pl} :
    redn n far ∈ made ↔ ∃ a b, S.Mem a ∧ U.Mem b ∧ a.mul b = far := by
  have n0 : 0 < n := by omega
  rw [hm]
  constructor
  · rintro ⟨a, b, ha, hb, e⟩
    have ma := memB_iff.mp (List.mem_filter.mp ha).2
    have mb := memB_iff.mp (List.mem_filter.mp hb).2
    have c : Cg n (a.mul b) far := (redn_cg n _).trans (e ▸ (redn_cg n far).symm)
    refine ⟨a, b.mul ((a.mul b).inv.mul far), ma, (U.clo' oU).mul mb (c.part oU rU), ?_⟩
    rw [← Pl.mul_assoc, ← Pl.mul_assoc, Pl.mul_inv, Pl.home_mul]
  · rintro ⟨a, b, ma, mb, e⟩
    refine ⟨redn n a, redn n b, List.mem_filter.mpr ⟨ring_has hn (redn_in n0 a), memB_iff.mpr ((redn_cg n a).mem oS rS ma)⟩, List.mem_filter.mpr ⟨ring_has hn (redn_in n0 b), memB_iff.mpr ((redn_cg n b).mem oU rU mb)⟩, ?_⟩
    refine (redn_in n0 far).eq (redn_in n0 _) ?_
    refine (redn_cg n _).symm.trans ?_
    refine (((redn_cg n a).mul (redn_cg n b)).symm).trans ?_
    rw [e]
    exact redn_cg n far
end Wk
namespace Wk
set_option linter.all false
set_option maxRecDepth 100000
set_option maxHeartbeats 1000000
open PySem L2
local macro_rules | `(tactic| walk_at "cy") => `(tactic| first
  | assumption
  | ((with_reducible refine' at_mono (H := ?H) ?s ?h); (case s => assumption); (case h => walk_at "cy"))
  | ((with_reducible refine' PlAt.mono (H := ?H) ?s ?h); (case s => assumption); (case h => walk_at "cy")))
local macro_rules | `(tactic| walk_at "rd1") => `(tactic| first
  | (with_reducible refine' rd_seq ?_) | (with_reducible refine' rd_asg ?_) | (with_reducible refine' rd_par ?_) | (with_reducible refine' rd_ret ?_)
  | (with_reducible refine' rd_ifs ?_) | (with_reducible refine' rd_drop ?_) | (with_reducible refine' rd_next ?_) | (with_reducible refine' rd_asgG ?_)
  | ((with_reducible refine' rd_var (v := ?v) ?e ?h); (case e => exact rfl)) | (with_reducible refine' rd_c ?_) | (with_reducible refine' rd_op ?_) | (with_reducible refine' rd_un ?_)
  | (with_reducible refine' rd_cb ?_) | (with_reducible refine' rd_cons ?_) | (with_reducible refine' rd_nil ?_)
  | (with_reducible refine' rd_I0 ?_) | (with_reducible refine' rd_U ?_) | (with_reducible refine' rd_eqI ?_) | (with_reducible refine' rd_neI ?_)
  | (with_reducible refine' rd_test ?_) | (with_reducible refine' rd_bl ?_) | (with_reducible refine' rd_not ?_) | (with_reducible refine' rd_and ?_) | (with_reducible refine' rd_or ?_)
  | (with_reducible refine' rd_t ?_) | (with_reducible refine' rd_f ?_) | (with_reducible refine' rd_nt ?_) | (with_reducible refine' rd_nf ?_)
  | (with_reducible refine' rd_andV ?_) | (with_reducible refine' rd_orV ?_) | (with_reducible refine' rd_notV ?_) | (with_reducible refine' rd_B ?_) | (with_reducible refine' rd_forR1 ?_) | (with_reducible refine' rd_forR2 ?_) | (with_reducible refine' rd_for ?_) | (with_reducible refine' rd_iT ?_) | (with_reducible refine' rd_iL ?_) | (with_reducible refine' rd_lc ?_)
  | (with_reducible refine' rd_if ?_) | (with_reducible refine' rd_isNr ?_) | (with_reducible refine' rd_isN0 ?_) | (with_reducible refine' rd_notNr ?_) | (with_reducible refine' rd_notN0 ?_) | (with_reducible refine' rd_abs ?_) | ((with_reducible refine' rd_lenL (xs := ?xs) ?f ?h); (case f => walk_at "cy")) | ((with_reducible refine' rd_lenT (xs := ?xs) ?f ?h); (case f => walk_at "cy")) | (with_reducible refine' rd_mt ?_) | (with_reducible refine' rd_bm ?_) | (with_reducible refine' rd_tru ?_) | (with_reducible refine' rd_truInt ?_) | (with_reducible refine' rd_fld ?_)
  | ((with_reducible refine' rd_ixT (xs := ?xs) (v := ?v) ?f ?e ?h); (case f => walk_at "cy"); (case e => exact rfl))
  | ((with_reducible refine' rd_ixL (xs := ?xs) (v := ?v) ?f ?e ?h); (case f => walk_at "cy"); (case e => exact rfl))
  | ((with_reducible refine' rd_gtup (xs := ?xs) ?f ?e ?h); (case f => walk_at "cy"); (case e => exact rfl))
  | (with_reducible refine' rd_gcons ?_) | (with_reducible refine' rd_gnil ?_) | (with_reducible refine' rd_gname ?_))
local macro_rules | `(tactic| walk_at "rd") => `(tactic| repeat walk_at "rd1")
local macro_rules | `(tactic| walk_at "cy") => `(tactic| first
  | assumption
  | ((with_reducible refine' at_mono (H := ?H) ?s ?h); (case s => assumption); (case h => walk_at "cy"))
  | ((with_reducible refine' T2.mono (H := ?H) ?s ?h); (case s => assumption); (case h => walk_at "cy"))
  | ((with_reducible refine' PlAt.mono (H := ?H) ?s ?h); (case s => assumption); (case h => walk_at "cy"))
  | ((with_reducible refine' Pls.mono (H := ?H) ?s ?h); (case s => assumption); (case h => walk_at "cy")))
local macro_rules | `(tactic| walk_at "cy") => `(tactic| first
  | assumption
  | ((with_reducible refine' at_mono (H := ?H) ?s ?h); (case s => assumption); (case h => walk_at "cy"))
  | ((with_reducible refine' T2.mono (H := ?H) ?s ?h); (case s => assumption); (case h => walk_at "cy"))
  | ((with_reducible refine' PlAt.mono (H := ?H) ?s ?h); (case s => assumption); (case h => walk_at "cy"))
  | ((with_reducible refine' Pls.mono (H := ?H) ?s ?h); (case s => assumption); (case h => walk_at "cy"))
  | ((with_reducible refine' TbAt.mono (H := ?H) ?s ?h); (case s => assumption); (case h => walk_at "cy"))
  | ((with_reducible refine' Rws.mono (H := ?H) ?s ?h); (case s => assumption); (case h => walk_at "cy")))
local macro_rules | `(tactic| walk_at "rd") => `(tactic| repeat (first
  | walk_at "rd1"
  | (with_reducible refine' rd_chain ?_)
  | (with_reducible refine' rd_dget ?_)
  | (with_reducible refine' rd_tcells (by assumption) ?_)
  | (with_reducible refine' rd_tat (by assumption) ?_)
  | (with_reducible refine' rd_trest (by assumption) ?_)
  | (with_reducible refine' rd_slN ?_)
  | (with_reducible refine' rd_max ?_)
  | (with_reducible refine' rd_int ?_) | (with_reducible refine' rd_intb ?_)))
section
variable {P : Program} {w : World} {K : PySem.W.Frag} {mg : Str → Option Value} {base : Heap} {CP CB CT CE : Addr}
def rTable (CP CB CT : Addr) : List V → Hp → VK → Prop := fun vs H Q => ∃ (tl : Addr) (xs : List V) (told : List Pl), vs = [.ref tl] ∧ H tl = some (.lst xs) ∧ Pls CP H xs told ∧ told.length ≤ 5 ∧ (∀ g ∈ told, ToldB g) ∧
  ∀ p H' S ta la ra ma xs' ys ms lines stock, H p = none → Same H H' → TabAt CP CT H' p S told ta la ra ma xs' ys ms lines stock → TabOk S told → Q (.ref p) H'
theorem table_new {E : XK} : ∀ vs H Q, rTable CP CB CT vs H Q → ∀ a dx, H a = none → H dx = none → dx ≠ a → tbX CP CB CT (.ref a :: vs) (upd (upd H dx (.own a)) a (.ins CT dx [])) (fun v H2 => v = .non ∧ Q (.ref a) H2) E := fun vs H Q ⟨tl, xs, told, e, h1, h2, h3, h4, h⟩ a dx n1 n2 n3 => by
  subst e
  have sm : Same H (upd (upd H dx (.own a)) a (.ins CT dx [])) := fun b o e => by rw [upd_ne (ne_of_none e n1), upd_ne (ne_of_none e n2)]; exact e
  exact ⟨a, dx, tl, xs, told, rfl, upd_same, sm _ _ h1, h2.mono sm, h3, h4, fun H' S ta la ra ma xs' ys ms lines stock s t k => ⟨rfl, h a H' S ta la ra ma xs' ys ms lines stock n1 (fun b o e => s b o (ne_of_none e n1) (sm _ _ e)) t k⟩⟩
abbrev s__law_all_rows : Stmt := top 71
def N__law_all_rows : List Str := ["_law_ring", "_law_found", "_law_k"]
theorem sc__law_all_rows : FnScope ["_law_ring", "_law_found", "_law_k"] ["_law_ring"] (defScope s__law_all_rows) := ⟨rfl, rfl, rfl, by decide +kernel, rfl, by decide +kernel, by decide +kernel⟩
def spAllRows : Sp := fun vs H Q _ => ∃ n : Int, vs = [.int n] ∧ (n = 2 ∨ n = 3 ∨ n = 4) ∧ ∀ l xs H', Same H H' → H' l = some (.lst xs) → Rws3 H' xs (ringRows n (n * n * n).toNat) → Q (.ref l) H'
theorem ok_law_all_rows (T : Txt K mg CP CB CT CE) : Cal P w K mg base L2.CX0 1 "_law_all_rows" spAllRows := by
  refine T.f_law_all_rows.cal sc__law_all_rows (fun vs H Q E ⟨n, e, _⟩ => by subst e; rfl) (N := N__law_all_rows) fun f cdv A outer s H vs Q E hr h => ?_
  obtain ⟨n, rfl, hn, h⟩ := h
  refine ⟨_, (pss_cons (ps_set (i := 1) sc__law_all_rows.nd rfl (Or.inl rfl) (lstS pa_nil))
 (pss_cons (ps_for PassesOwn.never rfl (pi_range1 rfl T.n_range (pa_cons (pe_op op_mulX (pe_op op_mulX (pv 0) (pv 0)) (pv 0)) pa_nil)) (pg_name (i := 2) sc__law_all_rows.nd rfl (Or.inl rfl)) (pss_one (ps_expr (pe_bm PySem.F.plainAttrs_list PySem.F.slot_list_append PySem.F.type_list_append mt_append (pv 1) (pa_cons (tupS (pa_cons (pe_op op_fdX (pv 2) (pe_op op_mulX (pv 0) (pv 0))) (pa_cons (pe_op op_modN (pe_callTy call_int1S (by rfl) T.n_int (by decide +kernel) (pa_cons (pe_op op_fdX (pv 2) (pv 0)) pa_nil)) (pv 0)) (pa_cons (pe_op op_modN (pe_callTy call_int1S (by rfl) T.n_int (by decide +kernel) (pa_cons (pv 2) pa_nil)) (pv 0)) pa_nil)))) pa_nil)))))
 (pss_one (ps_ret (pv 1))))), ?_⟩
  have f63 : ∀ {z : Int}, z.natAbs < 1000 → Fits 63 z := fun h => Fits.of_lt h (by decide)
  have n0 : n ≠ 0 ∧ n.natAbs ≤ 4 := by omega
  obtain ⟨n2, e2, b2⟩ : ∃ n2, n * n = n2 ∧ (0 < n2 ∧ n2 ≤ 16) := by rcases hn with rfl | rfl | rfl <;> exact ⟨_, rfl, by decide⟩
  obtain ⟨n3, e3, b3⟩ : ∃ n3, n * n * n = n3 ∧ (0 < n3 ∧ n3 ≤ 64) := by rcases hn with rfl | rfl | rfl <;> exact ⟨_, rfl, by decide⟩
  have fn : Fits 63 n := f63 (by omega)
  walk_at "rd"
  refine rd_newL fun lf H1 n1 s1 hlf => ?_
  walk_at "rd"
  refine rd_I (mul_okL fn) ?_
  walk_at "rd"
  refine rd_I (mul_okR fn) ?_
  walk_at "rd"
  refine ⟨_, rfl, by omega, by omega, ?_⟩
  refine rd_rng (fun i σ' H' => ∃ c xs, σ' = [some (.int n), some (.ref lf), c] ∧ Same H H' ∧ H' lf = some (.lst xs) ∧ Rws3 H' xs (ringRows n i)) ⟨none, [], rfl, s1, hlf, .nil⟩ ?_ ?_
  · rintro i σ' H' hi ⟨c, xs, rfl, s2, hl2, hw⟩
    have xl : xs.length ≤ 100 := by rw [hw.1]; unfold ringRows; rw [List.length_map, List.length_range]; omega
    walk_at "rd"
    refine rd_bmL hl2 ?_
    walk_at "rd"
    refine rd_I (mul_okL fn) ?_
    walk_at "rd"
    refine rd_I ⟨by omega, (f63 (by omega : (n * n).natAbs < 1000)).mono (by omega)⟩ ?_
    walk_at "rd"
    refine rd_I ⟨by omega, fn.mono (by omega)⟩ ?_
    walk_at "rd"
    refine rd_I (by omega) ?_
    walk_at "rd"
    refine rd_I (by omega) ?_
    walk_at "rd"
    refine rd_new fun r H3 n3' s3 hr3 => ?_
    walk_at "rd"
    refine rd_append (s3 _ _ hl2) (by omega) fun H4 s4 hl4 => ?_
    have nlf : H lf = none := n1
    have e0 : (0 : Int) + (i : Int) = (i : Int) := by omega
    rw [e0] at hr3
    refine ⟨_, _, rfl, SameB.same nlf (s2.trans s3) s4, hl4, ?_⟩
    rw [ringRows_succ]
    have hr3' : T3 H3 r (ringAt n i) := hr3
    exact ((hw.mono s3).snoc hr3').monoB (s3 _ _ hl2) s4
  · rintro σ' H' ⟨c, xs, rfl, s2, hl2, hw⟩
    walk_at "rd"
    exact h lf xs H' s2 hl2 hw
end
end Wk
namespace Wk
set_option linter.all false
set_option maxRecDepth 100000
set_option maxHeartbeats 1000000
open PySem L2
local macro_rules | `(tactic| walk_at "cy") => `(tactic| first
  | assumption
  | ((with_reducible refine' at_mono (H := ?H) ?s ?h); (case s => assumption); (case h => walk_at "cy"))
  | ((with_reducible refine' PlAt.mono (H := ?H) ?s ?h); (case s => assumption); (case h => walk_at "cy")))
local macro_rules | `(tactic| walk_at "rd1") => `(tactic| first
  | (with_reducible refine' rd_seq ?_) | (with_reducible refine' rd_asg ?_) | (with_reducible refine' rd_par ?_) | (with_reducible refine' rd_ret ?_)
  | (with_reducible refine' rd_ifs ?_) | (with_reducible refine' rd_drop ?_) | (with_reducible refine' rd_next ?_) | (with_reducible refine' rd_asgG ?_)
  | ((with_reducible refine' rd_var (v := ?v) ?e ?h); (case e => exact rfl)) | (with_reducible refine' rd_c ?_) | (with_reducible refine' rd_op ?_) | (with_reducible refine' rd_un ?_)
  | (with_reducible refine' rd_cb ?_) | (with_reducible refine' rd_cons ?_) | (with_reducible refine' rd_nil ?_)
  | (with_reducible refine' rd_I0 ?_) | (with_reducible refine' rd_U ?_) | (with_reducible refine' rd_eqI ?_) | (with_reducible refine' rd_neI ?_)
  | (with_reducible refine' rd_test ?_) | (with_reducible refine' rd_bl ?_) | (with_reducible refine' rd_not ?_) | (with_reducible refine' rd_and ?_) | (with_reducible refine' rd_or ?_)
  | (with_reducible refine' rd_t ?_) | (with_reducible refine' rd_f ?_) | (with_reducible refine' rd_nt ?_) | (with_reducible refine' rd_nf ?_)
  | (with_reducible refine' rd_andV ?_) | (with_reducible refine' rd_orV ?_) | (with_reducible refine' rd_notV ?_) | (with_reducible refine' rd_B ?_) | (with_reducible refine' rd_forR1 ?_) | (with_reducible refine' rd_forR2 ?_) | (with_reducible refine' rd_for ?_) | (with_reducible refine' rd_iT ?_) | (with_reducible refine' rd_iL ?_) | (with_reducible refine' rd_lc ?_)
  | (with_reducible refine' rd_if ?_) | (with_reducible refine' rd_isNr ?_) | (with_reducible refine' rd_isN0 ?_) | (with_reducible refine' rd_notNr ?_) | (with_reducible refine' rd_notN0 ?_) | (with_reducible refine' rd_abs ?_) | ((with_reducible refine' rd_lenL (xs := ?xs) ?f ?h); (case f => walk_at "cy")) | ((with_reducible refine' rd_lenT (xs := ?xs) ?f ?h); (case f => walk_at "cy")) | (with_reducible refine' rd_mt ?_) | (with_reducible refine' rd_bm ?_) | (with_reducible refine' rd_tru ?_) | (with_reducible refine' rd_truInt ?_) | (with_reducible refine' rd_fld ?_)
  | ((with_reducible refine' rd_ixT (xs := ?xs) (v := ?v) ?f ?e ?h); (case f => walk_at "cy"); (case e => exact rfl))
  | ((with_reducible refine' rd_ixL (xs := ?xs) (v := ?v) ?f ?e ?h); (case f => walk_at "cy"); (case e => exact rfl))
  | ((with_reducible refine' rd_gtup (xs := ?xs) ?f ?e ?h); (case f => walk_at "cy"); (case e => exact rfl))
  | (with_reducible refine' rd_gcons ?_) | (with_reducible refine' rd_gnil ?_) | (with_reducible refine' rd_gname ?_))
local macro_rules | `(tactic| walk_at "rd") => `(tactic| repeat walk_at "rd1")
local macro_rules | `(tactic| walk_at "cy") => `(tactic| first
  | assumption
  | ((with_reducible refine' at_mono (H := ?H) ?s ?h); (case s => assumption); (case h => walk_at "cy"))
  | ((with_reducible refine' T2.mono (H := ?H) ?s ?h); (case s => assumption); (case h => walk_at "cy"))
  | ((with_reducible refine' PlAt.mono (H := ?H) ?s ?h); (case s => assumption); (case h => walk_at "cy"))
  | ((with_reducible refine' Pls.mono (H := ?H) ?s ?h); (case s => assumption); (case h => walk_at "cy")))
local macro_rules | `(tactic| walk_at "cy") => `(tactic| first
  | assumption
  | ((with_reducible refine' at_mono (H := ?H) ?s ?h); (case s => assumption); (case h => walk_at "cy"))
  | ((with_reducible refine' T2.mono (H := ?H) ?s ?h); (case s => assumption); (case h => walk_at "cy"))
  | ((with_reducible refine' PlAt.mono (H := ?H) ?s ?h); (case s => assumption); (case h => walk_at "cy"))
  | ((with_reducible refine' Pls.mono (H := ?H) ?s ?h); (case s => assumption); (case h => walk_at "cy"))
  | ((with_reducible refine' TbAt.mono (H := ?H) ?s ?h); (case s => assumption); (case h => walk_at "cy"))
  | ((with_reducible refine' Rws.mono (H := ?H) ?s ?h); (case s => assumption); (case h => walk_at "cy")))
local macro_rules | `(tactic| walk_at "rd") => `(tactic| repeat (first
  | walk_at "rd1"
  | (with_reducible refine' rd_chain ?_)
  | (with_reducible refine' rd_dget ?_)
  | (with_reducible refine' rd_tcells (by assumption) ?_)
  | (with_reducible refine' rd_tat (by assumption) ?_)
  | (with_reducible refine' rd_trest (by assumption) ?_)
  | (with_reducible refine' rd_slN ?_)
  | (with_reducible refine' rd_max ?_)
  | (with_reducible refine' rd_int ?_) | (with_reducible refine' rd_intb ?_)))
section
variable {P : Program} {w : World} {K : PySem.W.Frag} {mg : Str → Option Value} {base : Heap} {CP CB CT CE : Addr}
theorem pls_of {H : Hp} {ys : List V} {gs : List Pl} (hl : ys.length = gs.length) (h : ∀ (k : Nat) y, ys[k]? = some y → ∀ g, gs[k]? = some g → ∃ q, y = .ref q ∧ PlAt CP H q g) : Pls CP H ys gs := ⟨hl, fun k g e => by
  have hk : k < ys.length := by rw [hl]; exact (List.getElem?_eq_some_iff.mp e).1
  obtain ⟨q, e1, e2⟩ := h k _ (List.getElem?_eq_getElem hk) g e
  exact ⟨q, by rw [List.getElem?_eq_getElem hk, e1], e2⟩⟩
abbrev s__law_ring_table : Stmt := top 70
def N__law_ring_table : List Str := ["_law_tape", "_law_ring", "_law_told_here", "_law_k", "_law_row_here"]
theorem sc__law_ring_table : FnScope ["_law_tape", "_law_ring", "_law_told_here", "_law_k", "_law_row_here"] ["_law_tape", "_law_ring"] (defScope s__law_ring_table) := ⟨rfl, rfl, rfl, by decide +kernel, rfl, by decide +kernel, by decide +kernel⟩
def spRingT (CP CT : Addr) : Sp := fun vs H Q _ => ∃ (tp : Tp) (n : Int) (m : Nat), vs = [.ref tp.d, .int n] ∧ (n = 2 ∨ n = 3 ∨ n = 4) ∧ TapeAt H tp m ∧ m ≤ 90000 ∧
  ∀ p S H', Sam H H' → TapeAt H' tp (m + 7) → TbAt CP CT H' p S → S.Ok → TbB S → RingT S n → Q (.ref p) H'
theorem ok_law_ring_table (T : Txt K mg CP CB CT CE) : Cal P w K mg base L2.CX0 11 "_law_ring_table" (spRingT CP CT) := by
  have g_law_draw := ok_law_draw (P := P) (w := w) (base := base) T
  have g_law_place := ok_law_place (P := P) (w := w) (base := base) T
  have g_Table := ok_Table (P := P) (w := w) (base := base) T
  refine T.f_law_ring_table.cal sc__law_ring_table (fun vs H Q E ⟨tp, n, m, e, _⟩ => by subst e; rfl) (N := N__law_ring_table) fun f cdv A outer s H vs Q E hr h => ?_
  obtain ⟨tp, n, m, rfl, hn, hT, bm, h⟩ := h
  refine ⟨_, (pss_cons (ps_set (i := 2) sc__law_ring_table.nd rfl (Or.inl rfl) (lstS (pa_cons (tupS (pa_cons (pv 1) (pa_cons pe_int (pa_cons pe_int pa_nil)))) (pa_cons (tupS (pa_cons pe_int (pa_cons (pv 1) (pa_cons pe_int pa_nil)))) (pa_cons (tupS (pa_cons pe_int (pa_cons pe_int (pa_cons (pv 1) pa_nil)))) pa_nil)))))
 (pss_cons (ps_for PassesOwn.never rfl (pi_range1 rfl T.n_range (pa_cons (calS g_law_draw pass0 hr (by decide) (by rfl) (pa_cons (pv 0) (pa_cons pe_int pa_nil))) pa_nil)) (pg_name (i := 3) sc__law_ring_table.nd rfl (Or.inl rfl)) (pss_one (ps_expr (pe_bm PySem.F.plainAttrs_list PySem.F.slot_list_append PySem.F.type_list_append mt_append (pv 2) (pa_cons (tupS (pa_cons (calS g_law_draw pass0 hr (by decide) (by rfl) (pa_cons (pv 0) (pa_cons (pv 1) pa_nil))) (pa_cons (calS g_law_draw pass0 hr (by decide) (by rfl) (pa_cons (pv 0) (pa_cons (pv 1) pa_nil))) (pa_cons (calS g_law_draw pass0 hr (by decide) (by rfl) (pa_cons (pv 0) (pa_cons (pv 1) pa_nil))) pa_nil)))) pa_nil)))))
 (pss_one (ps_ret (mkcS g_Table pass0 hr (by decide) (by rfl) table_new (pa_cons (pe_lc (own := [("_law_row_here", 4)]) (g := gName 4) (tt := tYes) (by rfl) sc__law_ring_table.nd (piL (K := K) rfl (pv 2)) (blkOk_by (own := [("_law_row_here", 4)]) (N := N__law_ring_table) (sc := defScope s__law_ring_table) (by decide +kernel)) (fun _ _ _ _ _ => pg_name (i := 4) sc__law_ring_table.nd rfl (Or.inl rfl)) (fun _ _ _ _ _ => pts_nil) (fun _ _ _ _ _ => by exact (calS g_law_place pass0 hr (by decide) (by rfl) (pa_cons (pv 4) pa_nil)))) pa_nil)))))), ?_⟩
  have f89 : ∀ {m : Int}, m.natAbs < 100 → Fits 8999 m := fun h => Fits.of_lt h (Nat.le_trans (by decide : 100 ≤ 2 ^ 10) (Nat.pow_le_pow_right (by decide) (by decide)))
  have fB : ∀ {x y a : Int}, x.natAbs < 5 → y.natAbs < 5 → a.natAbs < 5 → ToldB ⟨x, y, a⟩ := fun h1 h2 h3 => ⟨Fits.of_lt h1 (by decide), Fits.of_lt h2 (by decide), Fits.of_lt h3 (by decide)⟩
  walk_at "rd"
  refine rd_new fun q1 H1 n1 s1 hq1 => ?_
  walk_at "rd"
  refine rd_new fun q2 H2 n2 s2 hq2 => ?_
  walk_at "rd"
  refine rd_new fun q3 H3 n3 s3 hq3 => ?_
  walk_at "rd"
  refine rd_newL fun lf H4 n4 s4 hlf => ?_
  walk_at "rd"
  have S4 := fun (_ : Unit) => ((s1.trans s2).trans s3).trans s4
  have nlf : H lf = none := by
    cases e : H lf with
    | none => rfl
    | some o => rw [s3 _ _ (s2 _ _ (s1 _ _ e))] at n4; cases n4
  have hT4 := hT.same (S4 ())
  have dT : tp.d ≠ lf ∧ tp.c ≠ lf := by
    obtain ⟨cs, a, r, h1, h2, _⟩ := hT.ex
    exact ⟨fun e => (by rw [e, nlf] at h1; cases h1), fun e => (by rw [e, nlf] at h2; cases h2)⟩
  have w0 : Rws3 H4 [.ref q1, .ref q2, .ref q3] [⟨n, 0, 0⟩, ⟨0, n, 0⟩, ⟨0, 0, n⟩] := ((Rws3.nil.snoc (p := q1) (g := ⟨n, 0, 0⟩) (s4 _ _ (s3 _ _ (s2 _ _ hq1)))).snoc (p := q2) (g := ⟨0, n, 0⟩) (s4 _ _ (s3 _ _ hq2))).snoc (p := q3) (g := ⟨0, 0, n⟩) (s4 _ _ hq3)
  have hlf' : H4 lf = some (.lst [.ref q1, .ref q2, .ref q3]) := hlf
  have sm4 : Sam H H4 := .of (S4 ())
  clear S4 hq1 hq2 hq3 s1 s2 s3 s4 n1 n2 n3 n4 hlf
  refine ⟨tp, 3, m, rfl, hT4, by omega, by decide, f89 (by decide), fun cnt H5 s5 hT5 c0 c1 => ?_⟩
  walk_at "rd"
  refine ⟨_, rfl, by omega, by omega, ?_⟩
  refine rd_rng (fun i σ' H' => ∃ c c' xs more, σ' = [some (.ref tp.d), some (.int n), some (.ref lf), c, c'] ∧ Sam H H' ∧ TapeAt H' tp (m + 1 + 3 * i) ∧ H' lf = some (.lst xs) ∧ Rws3 H' xs ([⟨n, 0, 0⟩, ⟨0, n, 0⟩, ⟨0, 0, n⟩] ++ more) ∧ more.length = i ∧ ∀ g ∈ more, ToldB g)
    ⟨none, none, _, [], rfl, sm4.trans s5, hT5, s5.lst hlf', by rw [List.append_nil]; exact w0.sam s5, rfl, by simp⟩ ?_ ?_
  · rintro i σ' H' hi ⟨c, c', xs, more, rfl, s6, hT6, hl6, hw6, ml, mb⟩
    walk_at "rd"
    refine rd_bmL hl6 ?_
    walk_at "rd"
    refine ⟨tp, n, _, rfl, hT6, by omega, by omega, f89 (by omega), fun x H7 s7 hT7 x0 x1 => ?_⟩
    walk_at "rd"
    refine ⟨tp, n, _, rfl, hT7, by omega, by omega, f89 (by omega), fun y H8 s8 hT8 y0 y1 => ?_⟩
    walk_at "rd"
    refine ⟨tp, n, _, rfl, hT8, by omega, by omega, f89 (by omega), fun a H9 s9 hT9 a0 a1 => ?_⟩
    walk_at "rd"
    refine rd_new fun r HA nA sA hrA => ?_
    walk_at "rd"
    have hlA := sA _ _ (s9.lst (s8.lst (s7.lst hl6)))
    have hwA := (((hw6.sam s7).sam s8).sam s9).mono sA
    have xl : xs.length ≤ 10 := by rw [hw6.1, List.length_append, ml]; show 3 + i ≤ 10; omega
    refine rd_append hlA (by omega) fun HB sB hlB => ?_
    have smA : Sam H HA := ((((s6.trans s7).trans s8).trans s9).trans (.of sA))
    obtain ⟨cs, ta, tr, u1, u2, u3⟩ := (hT9.same sA).ex
    refine ⟨_, _, _, more ++ [⟨x, y, a⟩], rfl, fun b o hu e => sB _ _ (fun z => by rw [z, nlf] at e; cases e) (smA _ _ hu e), ⟨cs, ta, tr, sB _ _ dT.1 u1, sB _ _ dT.2 u2, u3.1, u3.2.1, u3.2.2.1, by omega, u3.2.2.2.2⟩, hlB, ?_, by rw [List.length_append, ml]; rfl, fun g hg => ?_⟩
    · rw [← List.append_assoc]
      exact (hwA.snoc (p := r) (g := ⟨x, y, a⟩) hrA).monoB hlA sB
    · rcases List.mem_append.mp hg with hg | hg
      · exact mb g hg
      · rw [List.mem_singleton.mp hg]; exact fB (by omega) (by omega) (by omega)
  · rintro σ' H' ⟨c, c', xs, more, rfl, s6, hT6, hl6, hw6, ml, mb⟩
    have xl : xs.length ≤ 5 := by rw [hw6.1, List.length_append, ml]; show 3 + _ ≤ 5; omega
    have gl : ([⟨n, 0, 0⟩, ⟨0, n, 0⟩, ⟨0, 0, n⟩] ++ more : List Pl).length ≤ 5 := by rw [← hw6.1]; exact xl
    have gb : ∀ g ∈ ([⟨n, 0, 0⟩, ⟨0, n, 0⟩, ⟨0, 0, n⟩] ++ more : List Pl), ToldB g := fun g hg => by
      rcases List.mem_append.mp hg with hg | hg
      · simp only [List.mem_cons, List.not_mem_nil, or_false] at hg
        rcases hg with rfl | rfl | rfl <;> exact fB (by omega) (by omega) (by omega)
      · exact mb g hg
    have g1 : ∀ g, g ∈ ([⟨n, 0, 0⟩, ⟨0, n, 0⟩, ⟨0, 0, n⟩] : List Pl) → g ∈ ([⟨n, 0, 0⟩, ⟨0, n, 0⟩, ⟨0, 0, n⟩] ++ more : List Pl) := fun g hg => List.mem_append_left _ hg
    obtain ⟨gs, eg⟩ : ∃ gs, gs = ([⟨n, 0, 0⟩, ⟨0, n, 0⟩, ⟨0, 0, n⟩] ++ more : List Pl) := ⟨_, rfl⟩
    rw [← eg] at gl gb g1 hw6
    walk_at "rd"
    refine rd_lcL hl6 (by omega) (fun k y H' => ∀ g, gs[k]? = some g → ∃ q, y = .ref q ∧ PlAt CP H' q g) (fun k y H1 H2 s h g e => let ⟨q, e1, e2⟩ := h g e; ⟨q, e1, e2.mono s⟩) (fun k y H1 D xs ys hD h g e => let ⟨q, e1, e2⟩ := h g e; ⟨q, e1, e2.monoB hD SameB.of⟩) (fun x => rfl) (fun k x H7 hx7 s7 F hF => ?_) (fun D ys H7 n7 s7 hD hy7 hR => ?_)
    · obtain ⟨q, g, rfl, eg, hq⟩ := (hw6.mono s7).get hx7
      walk_at "rd"
      refine ⟨q, g, rfl, hq, fun r H8 n8 s8 hr8 => hF _ H8 s8 fun g' eg' => ?_⟩
      rw [eg] at eg'
      cases eg'
      exact ⟨r, rfl, hr8⟩
    walk_at "rd"
    refine ⟨D, ys, gs, rfl, hD, pls_of (by rw [hy7, hw6.1]) hR, gl, gb, fun p H8 S ta la ra ma xs' ys' ms lines stock n8 s8 ht ok => ?_⟩
    refine h p S H8 (s6.trans (.of (s7.trans s8))) (((hT6.same s7).same s8).up (by omega)) ht.tb ok.ok ok.bd ⟨ok.mem _ (g1 _ ?_), ok.mem _ (g1 _ ?_), ok.mem _ (g1 _ ?_)⟩
    all_goals simp
end
end Wk
namespace Wk
set_option linter.all false
set_option maxRecDepth 100000
set_option maxHeartbeats 2000000
open PySem L2
local macro_rules | `(tactic| walk_at "cy") => `(tactic| first
  | assumption
  | ((with_reducible refine' at_mono (H := ?H) ?s ?h); (case s => assumption); (case h => walk_at "cy"))
  | ((with_reducible refine' PlAt.mono (H := ?H) ?s ?h); (case s => assumption); (case h => walk_at "cy")))
local macro_rules | `(tactic| walk_at "rd1") => `(tactic| first
  | (with_reducible refine' rd_seq ?_) | (with_reducible refine' rd_asg ?_) | (with_reducible refine' rd_par ?_) | (with_reducible refine' rd_ret ?_)
  | (with_reducible refine' rd_ifs ?_) | (with_reducible refine' rd_drop ?_) | (with_reducible refine' rd_next ?_) | (with_reducible refine' rd_asgG ?_)
  | ((with_reducible refine' rd_var (v := ?v) ?e ?h); (case e => exact rfl)) | (with_reducible refine' rd_c ?_) | (with_reducible refine' rd_op ?_) | (with_reducible refine' rd_un ?_)
  | (with_reducible refine' rd_cb ?_) | (with_reducible refine' rd_cons ?_) | (with_reducible refine' rd_nil ?_)
  | (with_reducible refine' rd_I0 ?_) | (with_reducible refine' rd_U ?_) | (with_reducible refine' rd_eqI ?_) | (with_reducible refine' rd_neI ?_)
  | (with_reducible refine' rd_test ?_) | (with_reducible refine' rd_bl ?_) | (with_reducible refine' rd_not ?_) | (with_reducible refine' rd_and ?_) | (with_reducible refine' rd_or ?_)
  | (with_reducible refine' rd_t ?_) | (with_reducible refine' rd_f ?_) | (with_reducible refine' rd_nt ?_) | (with_reducible refine' rd_nf ?_)
  | (with_reducible refine' rd_andV ?_) | (with_reducible refine' rd_orV ?_) | (with_reducible refine' rd_notV ?_) | (with_reducible refine' rd_B ?_) | (with_reducible refine' rd_forR1 ?_) | (with_reducible refine' rd_forR2 ?_) | (with_reducible refine' rd_for ?_) | (with_reducible refine' rd_iT ?_) | (with_reducible refine' rd_iL ?_) | (with_reducible refine' rd_lc ?_)
  | (with_reducible refine' rd_if ?_) | (with_reducible refine' rd_isNr ?_) | (with_reducible refine' rd_isN0 ?_) | (with_reducible refine' rd_notNr ?_) | (with_reducible refine' rd_notN0 ?_) | (with_reducible refine' rd_abs ?_) | ((with_reducible refine' rd_lenL (xs := ?xs) ?f ?h); (case f => walk_at "cy")) | ((with_reducible refine' rd_lenT (xs := ?xs) ?f ?h); (case f => walk_at "cy")) | (with_reducible refine' rd_mt ?_) | (with_reducible refine' rd_bm ?_) | (with_reducible refine' rd_tru ?_) | (with_reducible refine' rd_truInt ?_) | (with_reducible refine' rd_fld ?_)
  | ((with_reducible refine' rd_ixT (xs := ?xs) (v := ?v) ?f ?e ?h); (case f => walk_at "cy"); (case e => exact rfl))
  | ((with_reducible refine' rd_ixL (xs := ?xs) (v := ?v) ?f ?e ?h); (case f => walk_at "cy"); (case e => exact rfl))
  | ((with_reducible refine' rd_gtup (xs := ?xs) ?f ?e ?h); (case f => walk_at "cy"); (case e => exact rfl))
  | (with_reducible refine' rd_gcons ?_) | (with_reducible refine' rd_gnil ?_) | (with_reducible refine' rd_gname ?_))
local macro_rules | `(tactic| walk_at "rd") => `(tactic| repeat walk_at "rd1")
local macro_rules | `(tactic| walk_at "cy") => `(tactic| first
  | assumption
  | ((with_reducible refine' at_mono (H := ?H) ?s ?h); (case s => assumption); (case h => walk_at "cy"))
  | ((with_reducible refine' T2.mono (H := ?H) ?s ?h); (case s => assumption); (case h => walk_at "cy"))
  | ((with_reducible refine' PlAt.mono (H := ?H) ?s ?h); (case s => assumption); (case h => walk_at "cy"))
  | ((with_reducible refine' Pls.mono (H := ?H) ?s ?h); (case s => assumption); (case h => walk_at "cy")))
local macro_rules | `(tactic| walk_at "cy") => `(tactic| first
  | assumption
  | ((with_reducible refine' at_mono (H := ?H) ?s ?h); (case s => assumption); (case h => walk_at "cy"))
  | ((with_reducible refine' T2.mono (H := ?H) ?s ?h); (case s => assumption); (case h => walk_at "cy"))
  | ((with_reducible refine' PlAt.mono (H := ?H) ?s ?h); (case s => assumption); (case h => walk_at "cy"))
  | ((with_reducible refine' Pls.mono (H := ?H) ?s ?h); (case s => assumption); (case h => walk_at "cy"))
  | ((with_reducible refine' TbAt.mono (H := ?H) ?s ?h); (case s => assumption); (case h => walk_at "cy"))
  | ((with_reducible refine' Rws.mono (H := ?H) ?s ?h); (case s => assumption); (case h => walk_at "cy")))
local macro_rules | `(tactic| walk_at "rd") => `(tactic| repeat (first
  | walk_at "rd1"
  | (with_reducible refine' rd_chain ?_)
  | (with_reducible refine' rd_dget ?_)
  | (with_reducible refine' rd_tcells (by assumption) ?_)
  | (with_reducible refine' rd_tat (by assumption) ?_)
  | (with_reducible refine' rd_trest (by assumption) ?_)
  | (with_reducible refine' rd_slN ?_)
  | (with_reducible refine' rd_max ?_)
  | (with_reducible refine' rd_int ?_) | (with_reducible refine' rd_intb ?_)))
section
variable {P : Program} {w : World} {K : PySem.W.Frag} {mg : Str → Option Value} {base : Heap} {CP CB CT CE : Addr}
def lcBodyT (σ : L2.St) (g : TG) (tt : TT) (te : TE) (vs : List Nat) (Q : VK) (J : It) (H1 : Hp) : Prop := ∀ D, H1 D = none → ∃ W : Nat → Nat → Hp → Prop, (∃ m, W 0 m (upd H1 D (.lst []))) ∧ ∀ i m H, W i m H →
  (J.stop i H ∧ Q (.ref D) H) ∨ (J.go i H ∧ ∃ Nx : Hp → Prop, (∀ H', Nx H' → ∃ m', m' < m ∧ W (i + 1) m' H') ∧ ∀ x H', J.yld i H x H' → g x (wipe σ vs) H' fun σ2 H2 => wipe σ2 vs = wipe σ vs ∧ tt σ2 H2 fun b H3 =>
    if b = true then te σ2 H3 fun y H4 => ∃ acc, H4 D = some (.lst acc) ∧ acc.length < sizeLine ∧ Nx (upd H4 D (.lst (acc ++ [y]))) else Nx H3)
theorem rd_lcTT {σ : L2.St} {H : Hp} {Q : VK} {wi : TI} {g : TG} {tt : TT} {te : TE} {vs : List Nat} (h : wi σ H (lcBodyT σ g tt te vs Q)) : tLc wi g tt te vs σ H Q := h
/-- rows of which some are taken -/
theorem rd_lcFR {σ : L2.St} {H : Hp} {tt : TT} {te : TE} {Q : VK} {j : Nat} {vs : List Nat} {p : Addr} {xs : List V} {gs : List Pl} (h : H p = some (.lst xs)) (hw : Rws3 H xs gs) (hn : gs.length ≤ 1000) (c : Pl → Bool) (ww : ∀ x, wipe ((wipe σ vs).set j (some x)) vs = wipe σ vs)
    (turn : ∀ q g H1, Same H H1 → T3 H1 q g → g ∈ gs → ∀ F : Bool → Hp → Prop, (∀ H2, Same H1 H2 → F (c g) H2) → tt ((wipe σ vs).set j (some (.ref q))) H1 F)
    (elt : ∀ q H2 (F : VK), F (.ref q) H2 → te ((wipe σ vs).set j (some (.ref q))) H2 F)
    (k : ∀ D ys H', H D = none → Same H H' → H' D = some (.lst ys) → Rws3 H' ys (gs.filter c) → Q (.ref D) H') : rItL K (lcBodyT σ (gName j) tt te vs Q) (.ref p) H := by
  refine ⟨p, rfl, ⟨xs, SqL.of h⟩, fun D hD => lc_list (Qd := fun H' => Q (.ref D) H') (fun i H' => Same H H' ∧ ∃ ys, H' D = some (.lst ys) ∧ Rws3 H' ys ((gs.take i).filter c)) ⟨same_new hD, [], upd_same, .nil⟩ (fun i H' _ q => SqL.of (q.1 _ _ h)) (fun i x H' hx q => ⟨ww x, ?_⟩) fun H' q => ?_⟩
  · obtain ⟨s1, ys, e1, e2⟩ := q
    obtain ⟨r, g, rfl, eg, hr⟩ := hw.get hx
    have hi : i < gs.length := (List.getElem?_eq_some_iff.mp eg).1
    have et : (gs.take (i + 1)).filter c = (gs.take i).filter c ++ if c g = true then [g] else [] := by
      rw [List.take_succ, eg, List.filter_append]
      show _ ++ List.filter c [g] = _
      rw [List.filter_cons]
      rfl
    refine turn r g H' s1 (hr.mono s1) (List.mem_of_getElem? eg) _ fun H2 s2 => ?_
    rw [et]
    by_cases hc : c g = true
    · rw [if_pos hc, if_pos hc]
      refine elt r H2 _ ⟨ys, s2 _ _ e1, ?_, ?_⟩
      · have z1 := e2.1
        have z2 := List.length_filter_le c (gs.take i)
        rw [List.length_take] at z2
        exact Nat.lt_of_lt_of_le (show ys.length < 100000 by omega) (by decide)
      · have nD : ∀ b o, H b = some o → b ≠ D := fun b o e z => by rw [z, hD] at e; cases e
        refine ⟨fun b o e => by rw [upd_ne (nD b o e)]; exact s2 _ _ (s1 _ _ e), _, upd_same, ?_⟩
        exact ((e2.mono s2).snoc ((hr.mono s1).mono s2)).monoB (s2 _ _ e1) SameB.of
    · rw [if_neg hc, if_neg hc, List.append_nil]
      exact ⟨s1.trans s2, ys, s2 _ _ e1, e2.mono s2⟩
  · obtain ⟨s1, ys, e1, e2⟩ := q
    rw [hw.1, List.take_length] at e2
    exact k D ys H' hD s1 e1 e2
/-- the products of rows, as they are made -/
theorem made_step {inner outer made : List Pl} {i j : Nat} {n : Int} {a b : Pl} (ea : inner[i]? = some a) (eb : outer[j]? = some b)
    (h : ∀ z, z ∈ made ↔ (∃ a b, a ∈ inner.take i ∧ b ∈ outer ∧ z = redn n (a.mul b)) ∨ ∃ b, b ∈ outer.take j ∧ z = redn n (a.mul b)) :
    ∀ z, z ∈ addNew made (redn n (a.mul b)) ↔ (∃ a b, a ∈ inner.take i ∧ b ∈ outer ∧ z = redn n (a.mul b)) ∨ ∃ b, b ∈ outer.take (j + 1) ∧ z = redn n (a.mul b) := fun z => by
  rw [mem_addNew, h z]
  have et : outer.take (j + 1) = outer.take j ++ [b] := by rw [List.take_succ, eb]; rfl
  rw [et]
  constructor
  · rintro ((h | ⟨b', h1, h2⟩) | h)
    · exact .inl h
    · exact .inr ⟨b', List.mem_append_left _ h1, h2⟩
    · exact .inr ⟨b, List.mem_append_right _ (List.mem_singleton.mpr rfl), h⟩
  · rintro (h | ⟨b', h1, h2⟩)
    · exact .inl (.inl h)
    · rcases List.mem_append.mp h1 with h1 | h1
      · exact .inl (.inr ⟨b', h1, h2⟩)
      · rw [List.mem_singleton.mp h1] at h2
        exact .inr h2
theorem made_row {inner outer made : List Pl} {i : Nat} {n : Int} {a : Pl} (ea : inner[i]? = some a)
    (h : ∀ z, z ∈ made ↔ (∃ a b, a ∈ inner.take i ∧ b ∈ outer ∧ z = redn n (a.mul b)) ∨ ∃ b, b ∈ outer.take outer.length ∧ z = redn n (a.mul b)) :
    ∀ z, z ∈ made ↔ ∃ a b, a ∈ inner.take (i + 1) ∧ b ∈ outer ∧ z = redn n (a.mul b) := fun z => by
  have et : inner.take (i + 1) = inner.take i ++ [a] := by rw [List.take_succ, ea]; rfl
  rw [h z, et, List.take_length]
  constructor
  · rintro (⟨a', b', h1, h2, h3⟩ | ⟨b', h1, h2⟩)
    · exact ⟨a', b', List.mem_append_left _ h1, h2, h3⟩
    · exact ⟨a, b', List.mem_append_right _ (List.mem_singleton.mpr rfl), h1, h2⟩
  · rintro ⟨a', b', h1, h2, h3⟩
    rcases List.mem_append.mp h1 with h1 | h1
    · exact .inl ⟨a', b', h1, h2, h3⟩
    · rw [List.mem_singleton.mp h1] at h3
      exact .inr ⟨b', h2, h3⟩
abbrev s__law_ring_right : Stmt := top 72
def N__law_ring_right : List Str := ["_law_tape", "_law_ring", "_law_one", "_law_other", "_law_rows", "_law_inner", "_law_row_here", "_law_outer", "_law_made_here", "_law_first", "_law_second", "_law_both", "_law_far", "_law_rest"]
theorem sc__law_ring_right : FnScope ["_law_tape", "_law_ring", "_law_one", "_law_other", "_law_rows", "_law_inner", "_law_row_here", "_law_outer", "_law_made_here", "_law_first", "_law_second", "_law_both", "_law_far", "_law_rest"] ["_law_tape"] (defScope s__law_ring_right) := ⟨rfl, rfl, rfl, by decide +kernel, rfl, by decide +kernel, by decide +kernel⟩
def spRingR : Sp := fun vs H Q _ => ∃ (tp : Tp) (m : Nat), vs = [.ref tp.d] ∧ TapeAt H tp m ∧ m ≤ 80000 ∧ ∀ H', Sam H H' → Q (.bl true) H'
theorem ok_law_ring_right (T : Txt K mg CP CB CT CE) : Cal P w K mg base L2.CX0 12 "_law_ring_right" spRingR := by
  have g_law_draw := ok_law_draw (P := P) (w := w) (base := base) T
  have g_law_pick := ok_law_pick (P := P) (w := w) (base := base) T
  have g_law_place := ok_law_place (P := P) (w := w) (base := base) T
  have g_law_mul := ok_law_mul (P := P) (w := w) (base := base) T
  have g_law_ring_table := ok_law_ring_table (P := P) (w := w) (base := base) T
  have g_law_all_rows := ok_law_all_rows (P := P) (w := w) (base := base) T
  have g_law_parts_right := ok_law_parts_right (P := P) (w := w) (base := base) T
  have g_in_product := ok_in_product (P := P) (w := w) (base := base) T
  have T_con := ok_contains (P := P) (w := w) (base := base) T
  refine T.f_law_ring_right.cal sc__law_ring_right (fun vs H Q E ⟨tp, m, e, _⟩ => by subst e; rfl) (N := N__law_ring_right) fun f cdv A outer s H vs Q E hr h => ?_
  obtain ⟨tp, m, rfl, hT, bm, h⟩ := h
  refine ⟨_, (pss_cons (ps_set (i := 1) sc__law_ring_right.nd rfl (Or.inl rfl) (calS g_law_pick pass0 hr (by decide) (by rfl) (pa_cons (pv 0) (pa_cons (lstS (pa_cons pe_int (pa_cons pe_int (pa_cons pe_int (pa_cons pe_int pa_nil))))) pa_nil))))
 (pss_cons (ps_asg (tupS (pa_cons (calS g_law_ring_table pass0 hr (by decide) (by rfl) (pa_cons (pv 0) (pa_cons (pv 1) pa_nil))) (pa_cons (calS g_law_ring_table pass0 hr (by decide) (by rfl) (pa_cons (pv 0) (pa_cons (pv 1) pa_nil))) (pa_cons (calS g_law_all_rows pass0 hr (by decide) (by rfl) (pa_cons (pv 1) pa_nil)) pa_nil)))) (pg_tup rfl (pgs_cons (pg_name (i := 2) sc__law_ring_right.nd rfl (Or.inr rfl)) (pgs_cons (pg_name (i := 3) sc__law_ring_right.nd rfl (Or.inr rfl)) (pgs_cons (pg_name (i := 4) sc__law_ring_right.nd rfl (Or.inl rfl)) pgs_nil)))))
 (pss_cons (ps_setLc (i := 5) (own := [("_law_row_here", 6)]) (g := gName 6)  (by rfl) sc__law_ring_right.nd rfl rfl (sw_true rfl rfl rfl (by decide +kernel)) (piL (K := K) rfl (pv 4)) (blkOk_by (own := [("_law_row_here", 6)]) (N := N__law_ring_right) (sc := defScope s__law_ring_right) (by decide +kernel)) (fun _ _ _ _ _ => pg_name (i := 6) sc__law_ring_right.nd rfl (Or.inl rfl)) (fun _ _ _ _ _ => pts_one (by exact (pt_cmpR (op_ownIn T_con pass0 hr (by decide)) (calS g_law_place pass0 hr (by decide) (by rfl) (pa_cons (pv 6) pa_nil)) (pv 2) rfl))) (fun _ _ _ _ _ => by exact (pv 6)))
 (pss_cons (ps_setLc (i := 7) (own := [("_law_row_here", 6)]) (g := gName 6)  (by rfl) sc__law_ring_right.nd rfl rfl (sw_true rfl rfl rfl (by decide +kernel)) (piL (K := K) rfl (pv 4)) (blkOk_by (own := [("_law_row_here", 6)]) (N := N__law_ring_right) (sc := defScope s__law_ring_right) (by decide +kernel)) (fun _ _ _ _ _ => pg_name (i := 6) sc__law_ring_right.nd rfl (Or.inl rfl)) (fun _ _ _ _ _ => pts_one (by exact (pt_cmpR (op_ownIn T_con pass0 hr (by decide)) (calS g_law_place pass0 hr (by decide) (by rfl) (pa_cons (pv 6) pa_nil)) (pv 3) rfl))) (fun _ _ _ _ _ => by exact (pv 6)))
 (pss_cons (ps_set (i := 8) sc__law_ring_right.nd rfl (Or.inl rfl) (lstS pa_nil))
 (pss_cons (ps_for PassesOwn.never rfl (piL (K := K) rfl (pv 5)) (pg_name (i := 9) sc__law_ring_right.nd rfl (Or.inl rfl)) (pss_one (ps_for PassesOwn.never rfl (piL (K := K) rfl (pv 7)) (pg_name (i := 10) sc__law_ring_right.nd rfl (Or.inl rfl)) (pss_cons (ps_set (i := 11) sc__law_ring_right.nd rfl (Or.inl rfl) (calS g_law_mul pass0 hr (by decide) (by rfl) (pa_cons (pv 9) (pa_cons (pv 10) pa_nil))))
 (pss_cons (ps_set (i := 11) sc__law_ring_right.nd rfl (Or.inl rfl) (tupS (pa_cons (pe_op op_modN (pe_callTy call_int1S (by rfl) T.n_int (by decide +kernel) (pa_cons (pe_ix (ixTK (K := K) rfl) (pv 11) pe_int (fun _ _ => rfl)) pa_nil)) (pv 1)) (pa_cons (pe_op op_modN (pe_callTy call_int1S (by rfl) T.n_int (by decide +kernel) (pa_cons (pe_ix (ixTK (K := K) rfl) (pv 11) pe_int (fun _ _ => rfl)) pa_nil)) (pv 1)) (pa_cons (pe_op op_modN (pe_callTy call_int1S (by rfl) T.n_int (by decide +kernel) (pa_cons (pe_ix (ixTK (K := K) rfl) (pv 11) pe_int (fun _ _ => rfl)) pa_nil)) (pv 1)) pa_nil)))))
 (pss_one (ps_if (pt_cmpR (op_notInD (ru65 hr)) (pv 11) (pv 8) rfl) (pss_one (ps_expr (pe_bm PySem.F.plainAttrs_list PySem.F.slot_list_append PySem.F.type_list_append mt_append (pv 8) (pa_cons (pv 11) pa_nil)))) pss_nil)))))))
 (pss_cons (ps_for PassesOwn.never rfl (piL (K := K) rfl (pv 4)) (pg_name (i := 6) sc__law_ring_right.nd rfl (Or.inl rfl)) (pss_cons (ps_set (i := 12) sc__law_ring_right.nd rfl (Or.inl rfl) (tupS (pa_cons (pe_op op_add (pe_ix (ixTK (K := K) rfl) (pv 6) pe_int (fun _ _ => rfl)) (pe_op op_mulX (pv 1) (pe_op op_sub (calS g_law_draw pass0 hr (by decide) (by rfl) (pa_cons (pv 0) (pa_cons pe_int pa_nil))) pe_int))) (pa_cons (pe_op op_add (pe_ix (ixTK (K := K) rfl) (pv 6) pe_int (fun _ _ => rfl)) (pe_op op_mulX (pv 1) (pe_op op_sub (calS g_law_draw pass0 hr (by decide) (by rfl) (pa_cons (pv 0) (pa_cons pe_int pa_nil))) pe_int))) (pa_cons (pe_ix (ixTK (K := K) rfl) (pv 6) pe_int (fun _ _ => rfl)) pa_nil)))))
 (pss_cons (ps_set (i := 13) sc__law_ring_right.nd rfl (Or.inl rfl) (tupS (pa_cons (pe_op op_modN (pe_callTy call_int1S (by rfl) T.n_int (by decide +kernel) (pa_cons (pe_ix (ixTK (K := K) rfl) (pv 12) pe_int (fun _ _ => rfl)) pa_nil)) (pv 1)) (pa_cons (pe_op op_modN (pe_callTy call_int1S (by rfl) T.n_int (by decide +kernel) (pa_cons (pe_ix (ixTK (K := K) rfl) (pv 12) pe_int (fun _ _ => rfl)) pa_nil)) (pv 1)) (pa_cons (pe_op op_modN (pe_callTy call_int1S (by rfl) T.n_int (by decide +kernel) (pa_cons (pe_ix (ixTK (K := K) rfl) (pv 12) pe_int (fun _ _ => rfl)) pa_nil)) (pv 1)) pa_nil)))))
 (pss_one (ps_if (pt_cmpR (op_inD (ru65 hr)) (pv 13) (pv 8) rfl) (pss_one (ps_if (pt_not (pt_val (calS g_law_parts_right pass0 hr (by decide) (by rfl) (pa_cons (pv 2) (pa_cons (pv 3) (pa_cons (pv 12) pa_nil)))))) (pss_one (ps_ret pe_bl)) pss_nil)) (pss_one (ps_if (pt_cmpR op_notNS (calS g_in_product pass0 hr (by decide) (by rfl) (pa_cons (pv 2) (pa_cons (pv 3) (pa_cons (calS g_law_place pass0 hr (by decide) (by rfl) (pa_cons (pv 12) pa_nil)) pa_nil)))) pe_non (nomark _)) (pss_one (ps_ret pe_bl)) pss_nil)))))))
 (pss_one (ps_ret pe_bl))))))))), ?_⟩
  have f89 : ∀ {m : Int}, m.natAbs < 1000 → Fits 8999 m := fun h => Fits.of_lt h (Nat.le_trans (by decide : 1000 ≤ 2 ^ 10) (Nat.pow_le_pow_right (by decide) (by decide)))
  walk_at "rd"
  refine rd_newL (l := by show 4 ≤ sizeLine; decide) fun l0 H1 n1 s1 hl0 => ?_
  walk_at "rd"
  refine ⟨tp, l0, _, m, rfl, hT.same s1, by omega, hl0, by show 0 < 4; decide, by show 4 ≤ 100; decide, fun x H2 hx s2 hT2 => ?_⟩
  obtain ⟨n, rfl, hn⟩ : ∃ n : Int, x = .int n ∧ (n = 2 ∨ n = 3 ∨ n = 4) := by
    simp only [List.mem_cons, List.not_mem_nil, or_false] at hx
    rcases hx with rfl | rfl | rfl | rfl
    · exact ⟨2, rfl, .inl rfl⟩
    · exact ⟨2, rfl, .inl rfl⟩
    · exact ⟨3, rfl, .inr (.inl rfl)⟩
    · exact ⟨4, rfl, .inr (.inr rfl)⟩
  clear hl0
  walk_at "rd"
  refine ⟨tp, n, _, rfl, hn, hT2, by omega, fun p1 S H3 s3 hT3 hS oS bS rS => ?_⟩
  walk_at "rd"
  refine ⟨tp, n, _, rfl, hn, hT3, by omega, fun p2 U H4 s4 hT4 hU oU bU rU => ?_⟩
  walk_at "rd"
  refine ⟨n, rfl, hn, fun lr rs H5 s5 hlr hrs => ?_⟩
  walk_at "rd"
  refine rd_new fun tq H6 n6 s6 htq => ?_
  walk_at "rd"
  have tbSam : ∀ {H H' : Hp} {p : Addr} {S : Tb}, Sam H H' → TbAt CP CT H p S → TbAt CP CT H' p S := fun s ⟨dx, a, b, c, d, xs, h1, h2, h3⟩ => ⟨dx, a, b, c, d, xs, s.ins h1, s.tup h2, h3.1, fun i g e => let ⟨p, e1, dx, e2⟩ := h3.2 i g e; ⟨p, e1, dx, s.ins e2⟩⟩
  have hS6 := ((tbSam s4 hS).mono s5).mono s6
  have hU6 := (hU.mono s5).mono s6
  have hT6 := (hT4.same s5).same s6
  have hlr6 := s6 _ _ hlr
  have hrs6 := hrs.mono s6
  have sm6 : Sam H H6 := ((((Sam.of s1).trans s2).trans s3).trans s4).trans (.of (s5.trans s6))
  clear s1 s2 s3 s4 s5 s6 hT hT2 hT3 hT4 hlr hrs hS hU n1 n6 htq
  have n0 : 0 < n := by omega
  have f63 : ∀ {z : Int}, z.natAbs < 1000 → Fits 63 z := fun h => Fits.of_lt h (by decide)
  have fn : Fits 63 n := f63 (by omega)
  obtain ⟨rows, erows⟩ : ∃ rows, rows = ringRows n (n * n * n).toNat := ⟨_, rfl⟩
  have rin : ∀ g ∈ rows, InR n g := fun g hg => ring_in hn (erows ▸ hg)
  have rfp : ∀ {g}, InR n g → FP 63 g := fun hg => ⟨f63 (by have := hg.x; omega), f63 (by have := hg.y; omega), f63 (by have := hg.a; omega)⟩
  have rl : rows.length ≤ 64 := by
    rw [erows]
    unfold ringRows
    rw [List.length_map, List.length_range]
    rcases hn with rfl | rfl | rfl <;> decide
  rw [← erows] at hrs6
  refine rd_lcTT ?_
  refine rd_iL ?_
  walk_at "rd"
  refine rd_lcFR hlr6 hrs6 (by omega) (memB S) (fun x => rfl) (fun q g H7 s7 hq gm F hF => ?_) (fun q H2 F hF => ?_) (fun li ys1 H7 n7 s7 hli hys1 => ?_)
  · walk_at "rd"
    refine ⟨q, g, rfl, hq, fun r H8 n8 s8 hr8 => ?_⟩
    walk_at "rd"
    obtain ⟨dx, a1, a2, a3, a4, xs', e1, _⟩ := id ((hS6.mono s7).mono s8)
    refine ⟨p1, dx, _, rfl, e1, p1, r, S, g, 63, rfl, (hS6.mono s7).mono s8, oS, bS, hr8, rfp (rin g gm), by omega, fun b H9 s9 hb => ⟨b, rfl, ?_⟩⟩
    walk_at "rd"
    have e : b = memB S g := by
      cases b with
      | true => exact (memB_iff.mpr (hb.mp rfl)).symm
      | false =>
        cases hm : memB S g with
        | false => rfl
        | true => exact (hb.mpr (memB_iff.mp hm))
    rw [e]
    exact hF H9 (s8.trans s9)
  · walk_at "rd"
    exact hF
  walk_at "rd"
  refine rd_lcTT ?_
  refine rd_iL ?_
  walk_at "rd"
  have hU7 := hU6.mono s7
  refine rd_lcFR (s7 _ _ hlr6) (hrs6.mono s7) (by omega) (memB U) (fun x => rfl) (fun q g H8 s8 hq gm F hF => ?_) (fun q H2 F hF => ?_) (fun lo ys2 H8 n8 s8 hlo hys2 => ?_)
  · walk_at "rd"
    refine ⟨q, g, rfl, hq, fun r H9 n9 s9 hr9 => ?_⟩
    walk_at "rd"
    obtain ⟨dx, a1, a2, a3, a4, xs', e1, _⟩ := id ((hU7.mono s8).mono s9)
    refine ⟨p2, dx, _, rfl, e1, p2, r, U, g, 63, rfl, (hU7.mono s8).mono s9, oU, bU, hr9, rfp (rin g gm), by omega, fun b HA sA hb => ⟨b, rfl, ?_⟩⟩
    walk_at "rd"
    have e : b = memB U g := by
      cases b with
      | true => exact (memB_iff.mpr (hb.mp rfl)).symm
      | false =>
        cases hm : memB U g with
        | false => rfl
        | true => exact (hb.mpr (memB_iff.mp hm))
    rw [e]
    exact hF HA (s9.trans sA)
  · walk_at "rd"
    exact hF
  walk_at "rd"
  refine rd_newL fun lm H9 n9 s9 hlm => ?_
  obtain ⟨inner, ei⟩ : ∃ inner, inner = rows.filter (memB S) := ⟨_, rfl⟩
  obtain ⟨outer', eo⟩ : ∃ outer', outer' = rows.filter (memB U) := ⟨_, rfl⟩
  rw [← ei] at hys1
  rw [← eo] at hys2
  have hli9 := s9 _ _ (s8 _ _ hli)
  have hlo9 := s9 _ _ hlo
  have wi9 := (hys1.mono s8).mono s9
  have wo9 := hys2.mono s9
  have hS9 := ((hS6.mono s7).mono s8).mono s9
  have hU9 := (hU7.mono s8).mono s9
  have hT9 := ((hT6.same s7).same s8).same s9
  have hlr9 := s9 _ _ (s8 _ _ (s7 _ _ hlr6))
  have hrs9 := ((hrs6.mono s7).mono s8).mono s9
  have sm9 : Sam H H9 := sm6.trans (.of ((s7.trans s8).trans s9))
  have il : inner.length ≤ 64 := by rw [ei]; exact Nat.le_trans (List.length_filter_le _ _) rl
  have ol : outer'.length ≤ 64 := by rw [eo]; exact Nat.le_trans (List.length_filter_le _ _) rl
  have iin : ∀ g ∈ inner, InR n g := fun g hg => rin g (List.mem_filter.mp (ei ▸ hg)).1
  have oin : ∀ g ∈ outer', InR n g := fun g hg => rin g (List.mem_filter.mp (eo ▸ hg)).1
  have nlm : H6 lm = none := by
    cases e : H6 lm with
    | none => rfl
    | some o => rw [s8 _ _ (s7 _ _ e)] at n9; cases n9
  have qi : li ≠ lm := ne_of_none (s8 _ _ hli) n9
  have qo : lo ≠ lm := ne_of_none hlo n9
  have qr : lr ≠ lm := ne_of_none (s8 _ _ (s7 _ _ hlr6)) n9
  have qt : tp.d ≠ lm ∧ tp.c ≠ lm := by
    obtain ⟨cs, a, r, h1, h2, _⟩ := ((hT6.same s7).same s8).ex
    exact ⟨ne_of_none h1 n9, ne_of_none h2 n9⟩
  have smX : ∀ {H'}, SameB lm H9 H' → Sam H H' := fun s b o hu e => s _ _ (fun z => by rw [z] at e; rw [sm6 _ _ hu e] at nlm; cases nlm) (sm9 _ _ hu e)
  have tbX : ∀ {H'} {p : Addr} {S : Tb}, SameB lm H9 H' → TbAt CP CT H9 p S → TbAt CP CT H' p S := fun s ⟨dx, a, b, c, d, xs, h1, h2, h3⟩ => ⟨dx, a, b, c, d, xs, s _ _ (ne_of h1 hlm (by intro z; cases z)) h1, s _ _ (ne_of h2 hlm (by intro z; cases z)) h2, h3.monoB hlm s⟩
  have hTX : ∀ {H'}, SameB lm H9 H' → TapeAt H' tp (m + 15) := fun s => by
    obtain ⟨cs, a, r, h1, h2, h3⟩ := hT9.ex
    exact ⟨cs, a, r, s _ _ qt.1 h1, s _ _ qt.2 h2, h3.1, h3.2.1, h3.2.2.1, by omega, h3.2.2.2.2⟩
  clear hli hlo hys1 hys2 hS6 hU6 hU7 hT6 hlr6 hrs6 s7 s8 sm6 n7 n8
  walk_at "rd"
  refine rd_forL hli9 (fun i σ' H' => ∃ c9 c10 c11 zs made, σ' = [some (.ref tp.d), some (.int n), some (.ref p1), some (.ref p2), some (.ref lr), some (.ref li), none, some (.ref lo), some (.ref lm), c9, c10, c11, none, none] ∧ SameB lm H9 H' ∧ H' lm = some (.lst zs) ∧ Rws3 H' zs made ∧ made.length ≤ 64 * i ∧
      ∀ z, z ∈ made ↔ ∃ a b, a ∈ inner.take i ∧ b ∈ outer' ∧ z = redn n (a.mul b)) ⟨none, none, none, [], [], rfl, fun _ _ _ e => e, hlm, .nil, Nat.zero_le _, fun z => by simp⟩ (fun i σ' H' _ h => by obtain ⟨_, _, _, _, _, _, s, _⟩ := h; exact s _ _ qi hli9) ?_ ?_
  · rintro i x σ' H' hx ⟨c9, c10, c11, zs, made, rfl, sB, hz, wz, ml, mi⟩
    obtain ⟨q, a, rfl, ea, hq⟩ := wi9.get hx
    have ain := iin a (List.mem_of_getElem? ea)
    refine rd_gname ?_
    walk_at "rd"
    refine rd_forL (sB _ _ qo hlo9) (fun j σ' H' => ∃ c10 c11 zs made, σ' = [some (.ref tp.d), some (.int n), some (.ref p1), some (.ref p2), some (.ref lr), some (.ref li), none, some (.ref lo), some (.ref lm), some (.ref q), c10, c11, none, none] ∧ SameB lm H9 H' ∧ H' lm = some (.lst zs) ∧ Rws3 H' zs made ∧ made.length ≤ 64 * i + j ∧
        ∀ z, z ∈ made ↔ (∃ a b, a ∈ inner.take i ∧ b ∈ outer' ∧ z = redn n (a.mul b)) ∨ ∃ b, b ∈ outer'.take j ∧ z = redn n (a.mul b)) ⟨c10, c11, zs, made, rfl, sB, hz, wz, ml, fun z => by rw [mi z]; simp⟩ (fun j σ' H' _ h => by obtain ⟨_, _, _, _, _, s, _⟩ := h; exact s _ _ qo hlo9) ?_ ?_
    · clear mi ml wz hz sB
      rintro j y σ' H' hy ⟨c10, c11, zs, made, rfl, sB, hz, wz, ml, mi⟩
      obtain ⟨q', b, rfl, eb, hq'⟩ := wo9.get hy
      have bin := oin b (List.mem_of_getElem? eb)
      have jl : j < 64 := Nat.lt_of_lt_of_le (List.getElem?_eq_some_iff.mp eb).1 ol
      have il' : i < 64 := Nat.lt_of_lt_of_le (List.getElem?_eq_some_iff.mp ea).1 il
      have hqH : T3 H' q a := sB _ _ (ne_of (show H9 q = _ from hq) hlm (by intro z; cases z)) hq
      have hqH' : T3 H' q' b := sB _ _ (ne_of (show H9 q' = _ from hq') hlm (by intro z; cases z)) hq'
      refine rd_gname ?_
      walk_at "rd"
      refine ⟨q, q', a, b, 63, rfl, hqH, hqH', (rfp ain).1, (rfp bin).2.1, by omega, fun r HA nA sA hrA => ?_⟩
      have hrA' : HA r = some (.tup [.int (a.mul b).x, .int (a.mul b).y, .int (a.mul b).a]) := hrA
      walk_at "rd"
      refine rd_I (by omega) ?_
      walk_at "rd"
      refine rd_I (by omega) ?_
      walk_at "rd"
      refine rd_I (by omega) ?_
      walk_at "rd"
      refine rd_new fun r2 HB nB sC hr2 => ?_
      have hr2' : T3 HB r2 (redn n (a.mul b)) := hr2
      walk_at "rd"
      have hzB := sC _ _ (sA _ _ hz)
      have wzB := (wz.mono sA).mono sC
      have zl : zs.length ≤ 5000 := by rw [wz.1]; omega
      have nl9 : ∀ {b o}, b ≠ lm → H9 b = some o → HB b = some o := fun h e => sC _ _ (sA _ _ (sB _ _ h e))
      refine ⟨rowD1 (redn n (a.mul b)), made.map rowD1, row_dp hr2', rows_dp hzB wzB, row_shaped _, rows_shaped made, ?_⟩
      rw [rows_any]
      walk_at "rd"
      refine rd_ndec (fun hm => ?_) (fun hm => ?_)
      · walk_at "rd"
        refine rd_bmL hzB ?_
        walk_at "rd"
        refine rd_append hzB (by omega) fun HC sD hzC => ?_
        refine ⟨_, _, _, addNew made (redn n (a.mul b)), rfl, fun b o h1 e => sD _ _ h1 (nl9 h1 e), hzC, ?_, ?_, made_step ea eb mi⟩
        · unfold addNew
          rw [if_neg hm]
          exact (wzB.snoc hr2').monoB hzB sD
        · unfold addNew
          rw [if_neg hm, List.length_append]
          show made.length + 1 ≤ _
          omega
      · refine rd_next ?_
        refine ⟨_, _, _, addNew made (redn n (a.mul b)), rfl, fun b o h1 e => nl9 h1 e, hzB, ?_, ?_, made_step ea eb mi⟩
        · unfold addNew
          rw [if_pos hm]
          exact wzB
        · unfold addNew
          rw [if_pos hm]
          omega
    · rintro σ' H' ⟨c10, c11, zs, made, rfl, sB, hz, wz, ml, mi⟩
      refine ⟨_, _, _, zs, made, rfl, sB, hz, wz, ?_, made_row ea ?_⟩
      · rw [wo9.1] at ml
        omega
      · rw [wo9.1] at mi
        exact mi
  rintro σ' HF ⟨c9, c10, c11, zs, made, rfl, sB, hz, wz, ml, mi⟩
  rw [wi9.1, List.take_length] at mi
  rw [ei, eo, erows] at mi
  have key := fun far => ring_prod hn oS oU rS rU mi (far := far)
  have hSF := tbX sB hS9
  have hUF := tbX sB hU9
  have hTF := hTX sB
  have smF := smX sB
  have hlrF := sB _ _ qr hlr9
  have hrsF : Rws3 HF rs rows := hrs9.monoB hlm sB
  clear tbX hTX smX sB hS9 hU9 hT9 hlr9 hrs9 sm9 hli9 hlo9 wi9 wo9 mi hlm
  walk_at "rd"
  refine rd_forL hlrF (fun i σ' H' => ∃ c6 c12 c13, σ' = [some (.ref tp.d), some (.int n), some (.ref p1), some (.ref p2), some (.ref lr), some (.ref li), c6, some (.ref lo), some (.ref lm), c9, c10, c11, c12, c13] ∧ Sam HF H' ∧ TapeAt H' tp (m + 15 + 2 * i)) ⟨none, none, none, rfl, Sam.refl _, hTF⟩ (fun i σ' H' _ h => by obtain ⟨_, _, _, _, s, _⟩ := h; exact s.lst hlrF) ?_ ?_
  · rintro i x σ' H' hx ⟨c6, c12, c13, rfl, s1, hT1⟩
    obtain ⟨q, g, rfl, eg, hq⟩ := hrsF.get hx
    have gin := rin g (List.mem_of_getElem? eg)
    have ir : i < 64 := Nat.lt_of_lt_of_le (List.getElem?_eq_some_iff.mp eg).1 rl
    have hq1 : H' q = some (.tup [.int g.x, .int g.y, .int g.a]) := s1.tup hq
    refine rd_gname ?_
    walk_at "rd"
    refine ⟨tp, 99, _, rfl, hT1, by omega, by decide, f89 (by decide), fun v H2 s2 hT2 v0 v1 => ?_⟩
    have hq2 : H2 q = some (.tup [.int g.x, .int g.y, .int g.a]) := s2.tup hq1
    walk_at "rd"
    refine rd_I (mul_okL fn) ?_
    walk_at "rd"
    refine ⟨tp, 99, _, rfl, hT2, by omega, by decide, f89 (by decide), fun u H3 s3 hT3 u0 u1 => ?_⟩
    have hq3 : H3 q = some (.tup [.int g.x, .int g.y, .int g.a]) := s3.tup hq2
    walk_at "rd"
    refine rd_I (mul_okL fn) ?_
    walk_at "rd"
    refine rd_new fun r H4 n4 s4 hr => ?_
    obtain ⟨far, ef⟩ : ∃ far : Pl, far = ⟨g.x + n * (v - 50), g.y + n * (u - 50), g.a⟩ := ⟨_, rfl⟩
    have hr4 : T3 H4 r far := by rw [ef]; exact hr
    have hr4' : H4 r = some (.tup [.int far.x, .int far.y, .int far.a]) := hr4
    have fv : Fits 100 (n * (v - 50)) := ⟨by rcases hn with rfl | rfl | rfl <;> exact Nat.lt_of_lt_of_le (show _ < 1000 by omega) (by decide)⟩
    have fu : Fits 100 (n * (u - 50)) := ⟨by rcases hn with rfl | rfl | rfl <;> exact Nat.lt_of_lt_of_le (show _ < 1000 by omega) (by decide)⟩
    have ffar : FitsP 168 (far.x, far.y) := by
      rw [ef]
      exact ⟨((rfp gin).1.mono (by omega : 63 ≤ 100)).add fv (by omega) (by omega), ((rfp gin).2.1.mono (by omega : 63 ≤ 100)).add fu (by omega) (by omega)⟩
    have ffa : Fits 3060 far.a := by rw [ef]; exact (rfp gin).2.2.mono (by omega)
    clear hr ef fv fu
    walk_at "rd"
    refine rd_I (by omega) ?_
    walk_at "rd"
    refine rd_I (by omega) ?_
    walk_at "rd"
    refine rd_I (by omega) ?_
    walk_at "rd"
    refine rd_new fun r2 H5 n5 s5 hr2 => ?_
    have hr2' : T3 H5 r2 (redn n far) := hr2
    have sm5 : Sam HF H5 := (((s1.trans s2).trans s3).trans (.of s4)).trans (.of s5)
    have hz5 := sm5.lst hz
    have wz5 := wz.sam sm5
    have hT5 := (hT3.same s4).same s5
    have hS5 := tbSam sm5 hSF
    have hU5 := tbSam sm5 hUF
    have hr5 := hr4.mono s5
    clear hr2 hq1 hq2 hq3 hr4' s1 s2 s3 s4 s5 hT1 hT2 hT3 hr4 n4 n5
    walk_at "rd"
    refine ⟨rowD1 (redn n far), made.map rowD1, row_dp hr2', rows_dp hz5 wz5, row_shaped _, rows_shaped made, ?_⟩
    rw [rows_any]
    walk_at "rd"
    refine rd_dec (fun hm => ?_) (fun hm => ?_)
    · walk_at "rd"
      refine ⟨p1, p2, r, S, U, far, rfl, hS5, hU5, bS, bU, oS, oU, hr5, ffar, ffa, (key far).mp hm, fun H6 s6 => ?_⟩
      walk_at "rd"
      exact ⟨_, _, _, rfl, sm5.trans (.of s6), (hT5.same s6).up (by omega)⟩
    · walk_at "rd"
      refine ⟨r, far, rfl, hr5, fun pl H6 n6 s6 hpl => ?_⟩
      walk_at "rd"
      refine ⟨p1, p2, pl, S, U, far, rfl, hS5.mono s6, hU5.mono s6, bS, bU, oS, oU, hpl, ffar, ffa, fun H7 s7 _ => ?_, fun fq q1 q2 a b H7 s7 _ _ _ ma mb hab _ _ => absurd ((key far).mpr ⟨a, b, ma, mb, hab⟩) hm⟩
      walk_at "rd"
      exact ⟨_, _, _, rfl, sm5.trans (.of (s6.trans s7)), ((hT5.same s6).same s7).up (by omega)⟩
  · rintro σ' H' ⟨c6, c12, c13, rfl, s1, hT1⟩
    walk_at "rd"
    exact h H' (smF.trans s1)
end
end Wk
namespace Wk
set_option linter.all false
set_option maxRecDepth 100000
set_option maxHeartbeats 1000000
open PySem L2
open PySem.W (subIn findIn typeIn mroIn nsIn codeIn keepIn clsIn ks_superIn ksFn)
abbrev s_bp : Stmt := inClass (top 19) 0
/-- what the top says of BadPlace and of its __init__ -/
structure BPx (P : Program) (K : PySem.W.Frag) (mg : Str → Option Value) (C fI : Addr) : Prop where
  T : OexC K C
  iC : findIn K (.ref C) "__init__" = some (some (.ref fI))
  tI : typeIn K (.ref fI) = some (.type "function")
  gC : mg "BadPlace" = some (.ref C)
  fn : ∃ (oc : Value) (od : Option Addr) (doc pm : Value) (an : Option Addr) (cda : Addr) (ct : Value) (osl : Array (Option Value)) (cc : Addr) (ccl : Value) (cdd : Option Addr) (vs : Array Value) (ccs : Array (Option Value)) (file : Str) (tf : Tok) (cl : Value) (cld : Option Addr) (csl : Array (Option Value)),
    K.lookup fI = some ⟨oc, od, .func (ksFn "__init__" "BadPlace.__init__" (defArgs s_bp) (defBody s_bp) (defScope s_bp) .none .none doc pm an (.ref cda) ct cc), osl⟩ ∧ codeIn K (.ref cda) "BadPlace.__init__" = true ∧
    K.lookup cda = some ⟨ccl, cdd, .fields vs, ccs⟩ ∧ vs[2]? = some (.str file tf) ∧ ((P.main.file : Str) == file) = true ∧ K.lookup cc = some ⟨cl, cld, .cell (some (.ref C)), csl⟩
  sup : ks_superIn K C C "__init__" = some (some (.builtin "ValueError.__init__"))
  hB : subIn K (.ref C) (.type "ValueError") = some true
  mr : mroIn K C (.ref C) = some true
  no : findIn K (.ref C) "value" = some none
  nsu : mg "super" = none
  opq : nsIn K cStatics "thirdparty.any" = some none
  tp : (P.main.scope.names.lookup ("super" : Str)).isSome = false
def spBP (C : Addr) : Sp := fun vs H Q _ => ∃ (a : Addr) (y : V), vs = [.ref a, y] ∧ H a = some (exo a C none) ∧ ∀ dx, H dx = none → dx ≠ a → Q .non (upd (upd H dx (exd dx [("value", y)])) a (exo a C (some dx)))
theorem lookup_cons {β : Type} {y x : Str} {c : β} {l : List (Str × β)} : List.lookup y ((x, c) :: l) = if y = x then some c else List.lookup y l := by
  by_cases h : y = x
  · subst h; simp [List.lookup]
  · have e : (y == x) = false := by simpa using h
    rw [if_neg h]; simp [List.lookup, e]
section
variable {P : Program} {w : World} {K : PySem.W.Frag} {mg : Str → Option Value} {base : Heap} {C fI : Addr}
open PySem.Calls PyProof.Rows in
/-- the bound __init__ of ValueError, called -/
theorem mw_call {prog : Program} {w : World} {A : Around} {E : Value → Shared → Prop} {h : Heap} {g : Array GenState} {d : Drawn} {t : Nat} {os : OsState} {nm q : Str} {C N u e t0 : Addr} {bs bm : List Value} {hdct : Bool} {sn : List Str} {sub : List Value} {ab : Bool} {col : Option Bool} {dd : Option Addr} {k0 k1 k2 k3 k5 : Option Value} {rest : List Value} {Q : Value → Shared → Prop}
    (hC : h.get? C = some (excClassObj nm q C N bs bm hdct sn sub ab col dd k0 k1 k2 k3 k5 "ValueError.__new__")) (he : h.get? e = some ({ cls := .ref C, dict := none, data := .fields #[.ref t0, .none, .none, .none, .bool false, .none] } : Obj)) (hu : h.get? u = some (PySem.W.kxs_mw "ValueError.__init__" e)) (hrest : rest.length ≤ sizeLine)
    (hq : ∀ (h' : Heap) (t1 : Addr), (∀ b o, b ≠ e → h.get? b = some o → h'.get? b = some o) → h'.get? e = some ({ cls := .ref C, dict := none, data := .fields #[.ref t1, .none, .none, .none, .bool false, .none] } : Obj) → Q .none ⟨h', g, d, t, os⟩) :
    wpAny (model prog w) A (call (.ref u) rest) Q E ⟨h, g, d, t, os⟩ := by
  refine wpAny_call (codeAny_of_tree (show wpAny _ A.in1 (callAny (.ref u) ⟨rest, []⟩) _ _ _ from ?_))
  simp only [callAny]
  refine wpAny_bind (wpAny_load hu ?_)
  have c1 : (Value.type "method-wrapper" == Value.type "method" || Value.type "method-wrapper" == Value.type "builtin_function_or_method" || Value.type "method-wrapper" == Value.type "method-wrapper") = true := by decide
  simp only [PySem.W.kxs_mw, c1, if_true]
  refine PySem.W.KFB.if_so (by decide) (wpAny_bind (PySem.W.check_bound_init F.excBase_ValueError.toExcCallFacts hC he rfl (wpAny_bind (wpAny_pure (wpAny_pure ?_)))))
  refine ⟨plainId_quiet F.excBase_ValueError.init.plain _, codeAny_builtin F.excBase_ValueError.initEntry ?_⟩
  exact PySem.W.exc_init_tree (cls := .ref C) (t0 := t0) (dv := none) (c2 := .none) (c3 := .none) (b4 := .bool false) he hrest fun h' k e1 _ => hq h' _ k e1
theorem bp_scope : NdefX.NScope ["self", "value", "__class__"] ["self", "value"] ["__class__"] (defScope s_bp) := NdefX.nscope_by (by decide +kernel)
theorem bp_init (B : BPx P K mg C fI) : ∃ fd, FnOk P w K mg base L2.CX0 1 fI fd ["self", "value"] (spBP C) ∧ Binds K fd ["self", "value"] [] := by
  obtain ⟨oc, od, doc, pm, an, cda, ct, osl, cc, ccl, cdd, vs, ccs, file, tf, cl, cld, csl, lk, hcd, lc, hvs, hfile, lcell⟩ := B.fn
  refine ⟨ksFn "__init__" "BadPlace.__init__" (defArgs s_bp) (defBody s_bp) (defScope s_bp) .none .none doc pm an (.ref cda) ct cc, ⟨fun vs H Q E ⟨a, y, e, _⟩ => by subst e; rfl, fun A outer s H args us ws Q E hr e0 hb r ⟨a, y, e, ea, hq⟩ => ?_⟩, .all fun us hl => ?_⟩
  · subst e
    have KX : K.In s.heap := e0.mod.kin.keeps fun b o e => (e0.bs b o e).1
    have hlim : s.heap.NoLimit := e0.mod.nolimit.keeps fun b o e => (e0.bs b o e).1
    obtain ⟨u, rfl, ru⟩ : ∃ u, us = [.ref a, u] ∧ L2.RelV y u := by
      cases r with
      | cons r1 r2 =>
        cases r2 with
        | cons r3 r4 =>
          cases r4
          obtain rfl := (show _ = Value.ref a from r1)
          exact ⟨_, rfl, r3⟩
    refine PySem.ks_codeAny_call_defAt (body := defBody s_bp) (binds := [("self", .ref a), ("value", u)]) hr.depth (KX _ _ lk) rfl hlim (PySem.W.codeRec_of KX hcd) rfl hb (show ∀ x ∈ (defScope s_bp).names, x.2 ≠ .cell by decide +kernel) (fun x hx => ?_) (fun h₀ hns kp => ?_) rfl rfl rfl
    · simp only [List.mem_cons, List.not_mem_nil, or_false] at hx
      rcases hx with rfl | rfl
      · exact (show (defScope s_bp).names.lookup ("self" : Str) = some .local by decide +kernel)
      · exact (show (defScope s_bp).names.lookup ("value" : Str) = some .local by decide +kernel)
    have hcc : s.heap.get? cc = some ⟨cl, cld, .cell (some (.ref C)), csl⟩ := KX _ _ lcell
    have ncc : H cc = none := (e0.bs _ _ (e0.mod.kin _ _ lcell)).2
    have CA : NdefX.CellsAt [("__class__", cc)] ["__class__"] [some (.ref C)] s.heap H := by
      have one : ∀ {y : Str} {c : Addr}, List.lookup y [(("__class__" : Str), cc)] = some c → y = "__class__" ∧ c = cc := fun {y c} e => by
        rw [lookup_cons] at e
        split at e
        · rename_i hy
          exact ⟨hy, (Option.some.inj e).symm⟩
        · cases e
      refine ⟨rfl, fun y c e => ?_, fun x y c h1 h2 => (one h1).1.trans (one h2).1.symm, fun i y e => ?_⟩
      · obtain ⟨_, rfl⟩ := one e
        exact ⟨ncc, _, _, hcc, rfl⟩
      · cases i with
        | zero =>
          cases Option.some.inj e
          refine ⟨cc, by rw [lookup_cons, if_pos rfl], fun v ev => ?_⟩
          cases Option.some.inj (Option.some.inj ev)
          exact ⟨_, rfl, _, hcc, rfl⟩
        | succ i => simp at e
    have I : Inv (NdefX.ncx L2.CX0 P w K mg base ["self", "value", "__class__"] ⟨"__init__", "BadPlace.__init__", defArgs s_bp, defBody s_bp, defScope s_bp, [("__class__", cc)], cda⟩ fI A outer s H E) [] (NdefX.startF ["self", "value", "__class__"] [.ref a, y] [some (.ref C)]) H { s with heap := h₀, toks := s.toks + 2 } :=
      NdefX.inv_startN (ps := ["self", "value"]) bp_scope hr.hd e0 rfl (.cons rfl (.cons ru .nil)) CA hns kp
    obtain ⟨F, eF⟩ : ∃ F : NdefX.NF, F = ⟨"__init__", "BadPlace.__init__", defArgs s_bp, defBody s_bp, defScope s_bp, [("__class__", cc)], cda⟩ := ⟨_, rfl⟩
    obtain ⟨t1, ho⟩ := exo_at I.hok ea
    obtain ⟨nm, q, N, bs, bm, sn, sub, ab, col, dd, k0, k1, k2, k3, k5, hC, hbm⟩ := B.T.cls
    have X0 : K.In h₀ := KX.keeps kp
    have hcl : clsIn K C = some { name := nm, bases := bs, mro := .ref C :: bm, ns := N, qualname := q, hasDict := true, slotNames := sn, subclasses := sub, abstract := ab, collection := col, hasDel := false } := by unfold PySem.W.clsIn; rw [hC] <;> rfl
    obtain ⟨mb, hb1, hb2⟩ := I.mod.blt
    have kq1 : (defScope s_bp).names.lookup ("super" : Str) = some .globalImplicit := by decide +kernel
    have kq2 : (defScope s_bp).names.lookup ("__class__" : Str) = some .free := by decide +kernel
    have kq3 : (defScope s_bp).names.lookup ("self" : Str) = some .local := by decide +kernel
    show wpAt _ _ _ (execs [.Expr (.Call (.Attribute (.Call (.Name "super" ⟨87, 8, 87, 13⟩) [] [] ⟨87, 8, 87, 15⟩) "__init__" ⟨87, 8, 87, 24⟩) [.Name "value" ⟨87, 25, 87, 30⟩] [] ⟨87, 8, 87, 31⟩) ⟨87, 8, 87, 31⟩,
      .Assign [.Attribute (.Name "self" ⟨88, 8, 88, 12⟩) "value" ⟨88, 8, 88, 18⟩] (.Name "value" ⟨88, 21, 88, 26⟩) ⟨88, 8, 88, 26⟩] (NdefX.envF ⟨"__init__", "BadPlace.__init__", defArgs s_bp, defBody s_bp, defScope s_bp, [("__class__", cc)], cda⟩ fI s.heap.objs.size)) _ _ _
    refine PySem.ks_wpAt_execs_cons ?_
    refine PySem.ks_wpAt_Expr_any ?_
    refine PySem.ks_wpAt_MethodCall ?_
    refine PySem.ks_wpAt_super_base (f := fI) (cc := cda) kq1 kq2 rfl rfl (X0 _ _ lk) rfl rfl rfl (X0 _ _ lc) rfl hvs hfile B.tp ?_
    refine PySem.W.ks_loadName_global rfl kq1 (Calls.loadGlobal_builtin (I.mod.glob.keeps I.bk) B.nsu (hb1.keeps I.bk) ((hb2 _ (by decide +kernel)).trans (by rfl)) ⟨rfl, ?_⟩)
    refine wpAny_loadName_free rfl kq2 rfl ⟨_, X0 _ _ lcell, rfl⟩ ?_
    refine wpAny_loadName_local rfl kq3 hns rfl ?_
    have hCx : h₀.get? C = some (excClassObj nm q C N bs bm true sn sub ab col dd k0 k1 k2 k3 k5 "ValueError.__new__") := X0 _ _ hC
    refine PySem.ks_wpAny_isType_cls hCx rfl ⟨rfl, ?_⟩
    refine PySem.ks_wpAny_call_super hCx rfl ho rfl (fun c z => by cases z) (PySem.W.looks_mroIn X0 B.mr) (fun h1 e1 p1 => ?_)
    have X1 : K.In h1 := X0.keeps p1
    have ho1 := p1 _ _ ho
    have IA : PySem.W.InstAt h1 a _ C none := ⟨ho1, rfl, rfl, trivial⟩
    have hsup : PySem.W.alongIn K "__init__" (((Value.ref C :: bm).dropWhile (· != .ref C)).drop 1) = some (some (.builtin "ValueError.__init__")) := by
      have z := B.sup
      unfold PySem.W.ks_superIn at z
      rw [hcl] at z
      exact z
    have kq4 : (defScope s_bp).names.lookup ("value" : Str) = some .local := by decide +kernel
    refine PySem.W.kxs_getMethod PySem.W.kxs_ValueError e1 (PySem.W.looks_opaque X1 B.opq) (l₀ := .ref C :: bm) (fun A Q E s k q => wpAny_bind ((PySem.W.looks_clsIn X1 hcl) A _ E s k (wpAny_pure q))) rfl X1 hsup (IA.type.andThen (PySem.W.looks_subIn X1 B.hB)) (PySem.W.ks_ne X1 IA hcl) rfl ?_
    have p2 : ∀ (b : Addr) (o : Obj), h1.get? b = some o → (h1.push (PySem.W.kxs_mw "ValueError.__init__" a)).get? b = some o := fun b o e => Heap.get?_push_of_some _ e
    have hns2 := hns.keeps (fun b o e => p2 b o (p1 b o e))
    have hu : (h1.push (PySem.W.kxs_mw "ValueError.__init__" a)).get? h1.objs.size = some (PySem.W.kxs_mw "ValueError.__init__" a) := Heap.get?_push_at rfl rfl
    have hCx' := p2 _ _ (p1 _ _ hCx)
    have ho2 := p2 _ _ ho1
    refine PySem.W.kxs_callWith (i := "ValueError.__init__") (x := a) rfl (Calls.evalArgs_plain ?_)
    refine Calls.spliced_cons (wpAny_Name (wpAny_loadName_local rfl kq4 hns2 rfl ?_) rfl)
    refine Calls.spliced_nil ⟨hu, ?_⟩
    refine mw_call hCx' ho2 hu (by rw [sizeLine_eq]; exact (by decide : 1 ≤ 16777216)) fun h3 t3 k3 hx3 => ?_
    have I1 : Inv (NdefX.ncx L2.CX0 P w K mg base ["self", "value", "__class__"] ⟨"__init__", "BadPlace.__init__", defArgs s_bp, defBody s_bp, defScope s_bp, [("__class__", cc)], cda⟩ fI A outer s H E) [] (NdefX.startF ["self", "value", "__class__"] [.ref a, y] [some (.ref C)]) H { s with heap := h1.push (PySem.W.kxs_mw "ValueError.__init__" a), toks := s.toks + 2 + 1 } :=
      I.kept (t' := s.toks + 2 + 1) fun b o e => p2 b o (p1 b o e)
    have J := I1.write (t' := s.toks + 2 + 1) (x := a) (e := a) (o := exo a C none) (by rw [ea]; exact True.intro) (.inl rfl) k3 ⟨_, hx3⟩ (exo_ok hx3)
    have eu : upd H a (exo a C none) = H := by
      funext b
      by_cases hb : b = a
      · rw [hb, upd_same, ea]
      · rw [upd_ne hb]
    rw [eu] at J
    refine wpAt_of_wpAny ?_
    have PS2 : PSs (NdefX.ncx L2.CX0 P w K mg base ["self", "value", "__class__"] ⟨"__init__", "BadPlace.__init__", defArgs s_bp, defBody s_bp, defScope s_bp, [("__class__", cc)], cda⟩ fI A outer s H E)
        [.Assign [.Attribute (.Name "self" ⟨88, 8, 88, 12⟩) "value" ⟨88, 8, 88, 18⟩] (.Name "value" ⟨88, 21, 88, 26⟩) ⟨88, 8, 88, 26⟩] (tOst K "value" (tVar 0) (tVar 1)) := pss_one (ps_ost (pe_var (i := 0) rfl (.inl kq3)) (pe_var (i := 1) rfl (.inl kq4)))
    refine wpAny_mono (PS2.run [] _ _ H { nx := fun _ H' => Q .non H', rt := Q } J ⟨y, rfl, .ref a, rfl, a, C, rfl, B.T, B.no, .inl ⟨ea, hq⟩⟩) (fun fl s' hs => ?_) fun e s' hs => hs
    cases fl with
    | ret u =>
      obtain ⟨v, σ', H', J, rv, q⟩ := hs
      exact ⟨v, H', J.os, J.bare, J.base, J.hok, rv, q⟩
    | next =>
      obtain ⟨σ', H', J, q⟩ := hs
      exact ⟨.non, H', J.os, J.bare, J.base, J.hok, rfl, q⟩
    | brk =>
      obtain ⟨_, _, _, q⟩ := hs
      exact False.elim q
    | cont =>
      obtain ⟨_, _, _, q⟩ := hs
      exact False.elim q
  · match us, hl with
    | [_, _], _ => rfl
end
end Wk
namespace Wk
set_option linter.all false
set_option maxRecDepth 100000
set_option maxHeartbeats 1000000
open PySem L2
local macro_rules | `(tactic| walk_at "cy") => `(tactic| first
  | assumption
  | ((with_reducible refine' at_mono (H := ?H) ?s ?h); (case s => assumption); (case h => walk_at "cy"))
  | ((with_reducible refine' PlAt.mono (H := ?H) ?s ?h); (case s => assumption); (case h => walk_at "cy")))
local macro_rules | `(tactic| walk_at "rd1") => `(tactic| first
  | (with_reducible refine' rd_seq ?_) | (with_reducible refine' rd_asg ?_) | (with_reducible refine' rd_par ?_) | (with_reducible refine' rd_ret ?_)
  | (with_reducible refine' rd_ifs ?_) | (with_reducible refine' rd_drop ?_) | (with_reducible refine' rd_next ?_) | (with_reducible refine' rd_asgG ?_)
  | ((with_reducible refine' rd_var (v := ?v) ?e ?h); (case e => exact rfl)) | (with_reducible refine' rd_c ?_) | (with_reducible refine' rd_op ?_) | (with_reducible refine' rd_un ?_)
  | (with_reducible refine' rd_cb ?_) | (with_reducible refine' rd_cons ?_) | (with_reducible refine' rd_nil ?_)
  | (with_reducible refine' rd_I0 ?_) | (with_reducible refine' rd_U ?_) | (with_reducible refine' rd_eqI ?_) | (with_reducible refine' rd_neI ?_)
  | (with_reducible refine' rd_test ?_) | (with_reducible refine' rd_bl ?_) | (with_reducible refine' rd_not ?_) | (with_reducible refine' rd_and ?_) | (with_reducible refine' rd_or ?_)
  | (with_reducible refine' rd_t ?_) | (with_reducible refine' rd_f ?_) | (with_reducible refine' rd_nt ?_) | (with_reducible refine' rd_nf ?_)
  | (with_reducible refine' rd_andV ?_) | (with_reducible refine' rd_orV ?_) | (with_reducible refine' rd_notV ?_) | (with_reducible refine' rd_B ?_) | (with_reducible refine' rd_forR1 ?_) | (with_reducible refine' rd_forR2 ?_) | (with_reducible refine' rd_for ?_) | (with_reducible refine' rd_iT ?_) | (with_reducible refine' rd_iL ?_) | (with_reducible refine' rd_lc ?_)
  | (with_reducible refine' rd_if ?_) | (with_reducible refine' rd_isNr ?_) | (with_reducible refine' rd_isN0 ?_) | (with_reducible refine' rd_notNr ?_) | (with_reducible refine' rd_notN0 ?_) | (with_reducible refine' rd_abs ?_) | ((with_reducible refine' rd_lenL (xs := ?xs) ?f ?h); (case f => walk_at "cy")) | ((with_reducible refine' rd_lenT (xs := ?xs) ?f ?h); (case f => walk_at "cy")) | (with_reducible refine' rd_mt ?_) | (with_reducible refine' rd_bm ?_) | (with_reducible refine' rd_tru ?_) | (with_reducible refine' rd_truInt ?_) | (with_reducible refine' rd_fld ?_)
  | ((with_reducible refine' rd_ixT (xs := ?xs) (v := ?v) ?f ?e ?h); (case f => walk_at "cy"); (case e => exact rfl))
  | ((with_reducible refine' rd_ixL (xs := ?xs) (v := ?v) ?f ?e ?h); (case f => walk_at "cy"); (case e => exact rfl))
  | ((with_reducible refine' rd_gtup (xs := ?xs) ?f ?e ?h); (case f => walk_at "cy"); (case e => exact rfl))
  | (with_reducible refine' rd_gcons ?_) | (with_reducible refine' rd_gnil ?_) | (with_reducible refine' rd_gname ?_))
local macro_rules | `(tactic| walk_at "rd") => `(tactic| repeat walk_at "rd1")
local macro_rules | `(tactic| walk_at "cy") => `(tactic| first
  | assumption
  | ((with_reducible refine' at_mono (H := ?H) ?s ?h); (case s => assumption); (case h => walk_at "cy"))
  | ((with_reducible refine' T2.mono (H := ?H) ?s ?h); (case s => assumption); (case h => walk_at "cy"))
  | ((with_reducible refine' PlAt.mono (H := ?H) ?s ?h); (case s => assumption); (case h => walk_at "cy"))
  | ((with_reducible refine' Pls.mono (H := ?H) ?s ?h); (case s => assumption); (case h => walk_at "cy")))
local macro_rules | `(tactic| walk_at "cy") => `(tactic| first
  | assumption
  | ((with_reducible refine' at_mono (H := ?H) ?s ?h); (case s => assumption); (case h => walk_at "cy"))
  | ((with_reducible refine' T2.mono (H := ?H) ?s ?h); (case s => assumption); (case h => walk_at "cy"))
  | ((with_reducible refine' PlAt.mono (H := ?H) ?s ?h); (case s => assumption); (case h => walk_at "cy"))
  | ((with_reducible refine' Pls.mono (H := ?H) ?s ?h); (case s => assumption); (case h => walk_at "cy"))
  | ((with_reducible refine' TbAt.mono (H := ?H) ?s ?h); (case s => assumption); (case h => walk_at "cy"))
  | ((with_reducible refine' Rws.mono (H := ?H) ?s ?h); (case s => assumption); (case h => walk_at "cy")))
local macro_rules | `(tactic| walk_at "rd") => `(tactic| repeat (first
  | walk_at "rd1"
  | (with_reducible refine' rd_chain ?_)
  | (with_reducible refine' rd_dget ?_)
  | (with_reducible refine' rd_tcells (by assumption) ?_)
  | (with_reducible refine' rd_tat (by assumption) ?_)
  | (with_reducible refine' rd_trest (by assumption) ?_)
  | (with_reducible refine' rd_slN ?_)
  | (with_reducible refine' rd_max ?_)
  | (with_reducible refine' rd_int ?_) | (with_reducible refine' rd_intb ?_)))
section
variable {P : Program} {w : World} {K : PySem.W.Frag} {mg : Str → Option Value} {base : Heap} {CP CB CT CE : Addr}
def BodyOkX (P : Program) (w : World) (K : PySem.W.Frag) (mg : Str → Option Value) (base : Heap) (N : List Str) (qual : Str) (st : Stmt) (k : Nat) (sp : Sp) : Prop :=
  ∀ (f : Addr) (cdv : Value) (A : Around) (outer : List Env) (s : Shared) (H : Hp) (vs : List V) (Q : VK) (E : XK), Room k (A.deeper (PyProof.Rows.envOfC qual (defScope st) s.heap.objs.size f cdv)) → sp vs H Q E →
    ∃ t, PSs (cxOf (L2.CX P w) P w K mg base N qual (defScope st) f cdv A outer s H E) (defBody st) t ∧ t ⟨fun _ H' => Q .non H', Q, fun _ _ => False, fun _ _ => False⟩ (L2.start N vs) H
theorem DefAt.calX {x : Str} {st : Stmt} {ps N : List Str} {k : Nat} {sp : Sp} (D : DefAt K mg x st ps) (S : FnScope N ps (defScope st)) (len : ∀ vs H Q E, sp vs H Q E → vs.length = ps.length) (body : BodyOkX P w K mg base N x st k sp) :
    Cal P w K mg base (L2.CX P w) (k + 1) x sp := by
  obtain ⟨f, fd, F, hm, b⟩ := D
  exact ⟨f, fd, ps, F.okX S len fun cdv A outer s H vs Q E hr h => body f cdv A outer s H vs Q E hr h, hm, F.kp, b⟩
/-- the values that are no instance of C -/
def NotC (K : PySem.W.Frag) (C : Addr) (H : Hp) (x : V) : Prop := ∃ t, TyX K H x t ∧ PySem.W.kitOne K t (.ref C) = some false
theorem rd_isNot {C : Addr} {H : Hp} {x : V} {Q : VK} (h : NotC K C H x) (k : Q (.bl false) H) : rIsi K [x, .ref C] H Q := let ⟨t, a, b⟩ := h; ⟨x, .ref C, t, .ref C, false, rfl, .own C, a, b, k⟩
theorem NotC.mono {C : Addr} {H H' : Hp} {x : V} (s : Same H H') (h : NotC K C H x) : NotC K C H' x := by
  obtain ⟨t, a, b⟩ := h
  refine ⟨t, ?_, b⟩
  cases a with
  | base a =>
    refine .base ?_
    cases a with
    | non => exact .non
    | bl x => exact .bl x
    | int x => exact .int x
    | str x => exact .str x
    | flt x => exact .flt x
    | lst e => exact .lst (s _ _ e)
    | frz e => exact .frz (s _ _ e)
    | tup e => exact .tup (s _ _ e)
    | dK e => exact .dK (s _ _ e)
    | dT e => exact .dT (s _ _ e)
    | ins e cl ha hn htk hm => exact .ins (s _ _ e) cl ha hn htk hm
  | byt y => exact .byt y
  | set e => exact .set (s _ _ e)
  | kList e c => exact .kList e c
  | kTuple e c => exact .kTuple e c
  | kDict e c => exact .kDict e c
  | fTuple e => exact .fTuple (s _ _ e)
  | fDict e => exact .fDict (s _ _ e)
/-- BadPlace(value) is made -/
def tMkBP (C : Addr) (te : TE) : L2.St → Hp → XK → Prop := fun σ H Q => te σ H fun y H1 => ∀ d, H1 d = none → Q (.ref C) (some d) (upd H1 d (.xd [("value", y)]))
theorem pmk_bp {X : Cx} {fI C : Addr} {e : Expr} {te : TE} {p pos : Pos} (B : BPx X.prog X.K X.mg C fI) (hr : Room 2 X.A) (he : PE X e te) (hg : Gl X "BadPlace" := by rfl)
    (h1 : starEach [e] X.env = (false, eval e X.env) :: starEach [] X.env := by rfl) (h2 : (backTo pos (starEach [] X.env)).any (·.1) = false := by rfl) : PMk X (.Call (.Name "BadPlace" p) [e] [] pos) (tMkBP C te) := by
  obtain ⟨fd, F, b⟩ := bp_init (w := X.w) (base := X.base) B
  intro pins s σ H Q I h
  have he' : PE X e (fun σ H Q => ∃ R : VK, te σ H R ∧ ∀ y H1, R y H1 → Q y H1) := ⟨fun pins s σ H Q I ⟨R, h, m⟩ => thn (he.run pins s σ H R I h) fun u s1 ⟨x, H1, I1, r, q⟩ => ⟨x, H1, I1, r, m _ _ q⟩⟩
  have M := pmk_oex (pos := pos) (p := p) (dvs := []) (ds := []) B.T B.iC B.tI F hr b .nil pass0 hg B.gC (pa_cons he' pa_nil h1) (he := h1) (hpl := h2)
  refine M pins s σ H Q I ⟨_, h, fun y H1 hy => ?_⟩
  refine ⟨by show 1 ≤ 1000; decide, fun a na => ⟨a, y, rfl, upd_same, fun dx hd hda => ⟨rfl, dx, _, upd_same, (upd_ne hda).trans upd_same, ?_, ?_⟩⟩⟩
  · rwa [upd_ne hda] at hd
  · have hd1 : H1 dx = none := by rwa [upd_ne hda] at hd
    have e : upd (L2.del (upd (upd (upd H1 a (exo a C none)) dx (exd dx [("value", y)])) a (exo a C (some dx))) a) dx (.xd [("value", y)]) = upd H1 dx (.xd [("value", y)]) := by
      funext b
      by_cases hb : b = dx
      · rw [hb, upd_same, upd_same]
      · rw [upd_ne hb, upd_ne hb]
        by_cases hba : b = a
        · rw [hba, del_same, na]
        · rw [del_ne hba, upd_ne hba, upd_ne hb, upd_ne hba]
    rw [e]
    exact hy dx hd1
def spNeedTX (K : PySem.W.Frag) (CP CT CE : Addr) : Sp := fun vs H Q E => ∃ y : V, vs = [y] ∧ ((∃ p S, y = .ref p ∧ TbAt CP CT H p S ∧ Q .non H) ∨ (NotC K CT H y ∧ ∀ d, H d = none → E (.ref CE) (some d) (upd H d (.xd [("value", y)]))))
theorem rd_ifT {σ : L2.St} {H : Hp} {D : Ends} {tt : TT} {t u : TS} (h : tt σ H fun b H1 => if b = true then t D σ H1 else u D σ H1) : tIfS tt t u D σ H := h
theorem x_need_table {fI : Addr} (T : Txt K mg CP CB CT CE) (B : BPx P K mg CE fI) : Cal P w K mg base (L2.CX P w) 4 "need_table" (spNeedTX K CP CT CE) := by
  refine T.f_need_table.calX sc_need_table (fun vs H Q E ⟨y, e, _⟩ => by subst e; rfl) (N := N_need_table) fun f cdv A outer s H vs Q E hr h => ?_
  obtain ⟨y, rfl, h⟩ := h
  refine ⟨_, (pss_one (ps_if (pt_not (pt_val (pe_callB (isiK (K := K) rfl) (by rfl) T.n_isinstance (by decide +kernel) (pa_cons (pv 0) (pa_cons (pe_glob (v := .ref CT) rfl T.g_Table rfl) pa_nil))))) (pss_one (ps_raise rfl (takes_of rfl rfl rfl rfl) (pmk_bp B (hr.mono (by decide)) (pv 0)))) pss_nil)), ?_⟩
  rcases h with ⟨p, S, rfl, hS, h⟩ | ⟨hn, h⟩
  · walk_at "rd"
    refine rd_isTab T hS ?_
    walk_at "rd"
    exact h
  · walk_at "rd"
    refine rd_isNot hn ?_
    walk_at "rd"
    exact ⟨y, rfl, h⟩
def spNeedPX (K : PySem.W.Frag) (CP CE : Addr) : Sp := fun vs H Q E => ∃ y : V, vs = [y] ∧ ((∃ p g, y = .ref p ∧ PlAt CP H p g ∧ Q .non H) ∨ (NotC K CP H y ∧ ∀ d, H d = none → E (.ref CE) (some d) (upd H d (.xd [("value", y)]))))
theorem x_need_place {fI : Addr} (T : Txt K mg CP CB CT CE) (B : BPx P K mg CE fI) : Cal P w K mg base (L2.CX P w) 4 "need_place" (spNeedPX K CP CE) := by
  refine T.f_need_place.calX sc_need_place (fun vs H Q E ⟨y, e, _⟩ => by subst e; rfl) (N := N_need_place) fun f cdv A outer s H vs Q E hr h => ?_
  obtain ⟨y, rfl, h⟩ := h
  refine ⟨_, (pss_one (ps_if (pt_not (pt_val (pe_callB (isiK (K := K) rfl) (by rfl) T.n_isinstance (by decide +kernel) (pa_cons (pv 0) (pa_cons (pe_glob (v := .ref CP) rfl T.g_Place rfl) pa_nil))))) (pss_one (ps_raise rfl (takes_of rfl rfl rfl rfl) (pmk_bp B (hr.mono (by decide)) (pv 0)))) pss_nil)), ?_⟩
  rcases h with ⟨p, g, rfl, hg, h⟩ | ⟨hn, h⟩
  · walk_at "rd"
    refine rd_isP T hg ?_
    walk_at "rd"
    exact h
  · walk_at "rd"
    refine rd_isNot hn ?_
    walk_at "rd"
    exact ⟨y, rfl, h⟩
/-- in_product of values of which one is wrong -/
def spProdX (K : PySem.W.Frag) (CP CT CE : Addr) : Sp := fun vs H _ E => ∃ x y z v : V, vs = [x, y, z] ∧ (∀ d, H d = none → E (.ref CE) (some d) (upd H d (.xd [("value", v)]))) ∧
  ((v = x ∧ NotC K CT H x) ∨ (∃ p S, x = .ref p ∧ TbAt CP CT H p S ∧ v = y ∧ NotC K CT H y) ∨ ∃ p S q U, x = .ref p ∧ TbAt CP CT H p S ∧ y = .ref q ∧ TbAt CP CT H q U ∧ v = z ∧ NotC K CP H z)
theorem x_in_product {fI : Addr} (T : Txt K mg CP CB CT CE) (B : BPx P K mg CE fI) : Cal P w K mg base (L2.CX P w) 9 "in_product" (spProdX K CP CT CE) := by
  have x_need_table := x_need_table (w := w) (base := base) T B
  have x_need_place := x_need_place (w := w) (base := base) T B
  have g_ends := ok_ends (P := P) (w := w) (base := base) T
  have g_forms_of := ok_forms_of (P := P) (w := w) (base := base) T
  have g_form_at := ok_form_at (P := P) (w := w) (base := base) T
  have g_steered := ok_steered (P := P) (w := w) (base := base) T
  have g_row_sum := ok_row_sum (P := P) (w := w) (base := base) T
  have g_divisor_of := ok_divisor_of (P := P) (w := w) (base := base) T
  have g_both_areas := ok_both_areas (P := P) (w := w) (base := base) T
  have g_parted := ok_parted (P := P) (w := w) (base := base) T
  refine T.f_in_product.calX sc_in_product (fun vs H Q E ⟨x, y, z, v, e, _⟩ => by subst e; rfl) (N := N_in_product) fun f cdv A outer s H vs Q E hr h => ?_
  obtain ⟨x, y, z, v, rfl, h, c⟩ := h
  refine ⟨_, (pss_cons (ps_expr (calS x_need_table (passes_call (takes_of rfl rfl rfl rfl) (fun _ _ _ _ h => h)) hr (by decide) (by rfl) (pa_cons (pv 0) pa_nil)))
 (pss_cons (ps_expr (calS x_need_table (passes_call (takes_of rfl rfl rfl rfl) (fun _ _ _ _ h => h)) hr (by decide) (by rfl) (pa_cons (pv 1) pa_nil)))
 (pss_cons (ps_expr (calS x_need_place (passes_call (takes_of rfl rfl rfl rfl) (fun _ _ _ _ h => h)) hr (by decide) (by rfl) (pa_cons (pv 2) pa_nil)))
 (pss_cons (ps_set (i := 3) sc_in_product.nd rfl (Or.inr rfl) (tupS (pa_cons (fldK (K := K) rfl (pv 2) rfl) (pa_cons (fldK (K := K) rfl (pv 2) rfl) pa_nil))))
 (pss_cons (ps_set (i := 4) sc_in_product.nd rfl (Or.inr rfl) (tupS (pa_cons (tupS (pa_cons pe_int (pa_cons pe_int pa_nil))) (pa_cons (mth0S g_ends pass0 hr (by decide) (pv 0)) pa_nil))))
 (pss_cons (ps_for (passes_of rfl) rfl (piL (K := K) rfl (calS g_forms_of pass0 hr (by decide) (by rfl) (pa_cons (mth0S g_ends pass0 hr (by decide) (pv 1)) pa_nil))) (pg_tup rfl (pgs_cons (pg_name (i := 5) sc_in_product.nd rfl (Or.inr rfl)) (pgs_cons (pg_name (i := 6) sc_in_product.nd rfl (Or.inl rfl)) pgs_nil))) (pss_cons (ps_set (i := 7) sc_in_product.nd rfl (Or.inl rfl) (pe_op op_sub (calS g_form_at pass0 hr (by decide) (by rfl) (pa_cons (pv 5) (pa_cons (pv 3) pa_nil))) (calS g_form_at pass0 hr (by decide) (by rfl) (pa_cons (pv 5) (pa_cons (pe_ix (ixTK (K := K) rfl) (pv 4) pe_int (fun _ _ => rfl)) pa_nil)))))
 (pss_cons (ps_set (i := 4) sc_in_product.nd rfl (Or.inr rfl) (calS g_steered pass0 hr (by decide) (by rfl) (pa_cons (pe_ix (ixTK (K := K) rfl) (pv 4) pe_int (fun _ _ => rfl)) (pa_cons (pe_ix (ixTK (K := K) rfl) (pv 4) pe_int (fun _ _ => rfl)) (pa_cons (pe_lc (own := [("row", 8)]) (g := gName 8) (tt := tYes) (by rfl) sc_in_product.nd (piL (K := K) rfl (pe_ix (ixTK (K := K) rfl) (pv 4) pe_int (fun _ _ => rfl))) (blkOk_by (own := [("row", 8)]) (N := N_in_product) (sc := defScope s_in_product) (by decide +kernel)) (fun _ _ _ _ _ => pg_name (i := 8) sc_in_product.nd rfl (Or.inl rfl)) (fun _ _ _ _ _ => pts_nil) (fun _ _ _ _ _ => by exact (calS g_form_at pass0 hr (by decide) (by rfl) (pa_cons (pv 5) (pa_cons (pv 8) pa_nil))))) (pa_cons (pv 7) (pa_cons (pv 6) pa_nil)))))))
 (pss_one (ps_if (pt_cmpR op_isNS (pv 4) pe_non (nomark _)) (pss_one (ps_ret pe_non)) pss_nil)))))
 (pss_cons (ps_set (i := 9) sc_in_product.nd rfl (Or.inr rfl) (calS g_both_areas pass0 hr (by decide) (by rfl) (pa_cons (pv 0) (pa_cons (pv 1) (pa_cons (pv 3) (pa_cons (pe_ix (ixTK (K := K) rfl) (pv 4) pe_int (fun _ _ => rfl)) pa_nil))))))
 (pss_cons (ps_setLc (i := 10) (own := [("row", 8)]) (g := gName 8) (tt := tYes) (by rfl) sc_in_product.nd rfl rfl (sw_true rfl rfl rfl (by decide +kernel)) (piL (K := K) rfl (pe_ix (ixTK (K := K) rfl) (pv 4) pe_int (fun _ _ => rfl))) (blkOk_by (own := [("row", 8)]) (N := N_in_product) (sc := defScope s_in_product) (by decide +kernel)) (fun _ _ _ _ _ => pg_name (i := 8) sc_in_product.nd rfl (Or.inl rfl)) (fun _ _ _ _ _ => pts_nil) (fun _ _ _ _ _ => by exact (pe_op op_sub (calS g_both_areas pass0 hr (by decide) (by rfl) (pa_cons (pv 0) (pa_cons (pv 1) (pa_cons (pv 3) (pa_cons (calS g_row_sum pass0 hr (by decide) (by rfl) (pa_cons (pe_ix (ixTK (K := K) rfl) (pv 4) pe_int (fun _ _ => rfl)) (pa_cons (pv 8) pa_nil))) pa_nil))))) (pv 9))))
 (pss_cons (ps_set (i := 4) sc_in_product.nd rfl (Or.inr rfl) (calS g_steered pass0 hr (by decide) (by rfl) (pa_cons (pe_ix (ixTK (K := K) rfl) (pv 4) pe_int (fun _ _ => rfl)) (pa_cons (pe_ix (ixTK (K := K) rfl) (pv 4) pe_int (fun _ _ => rfl)) (pa_cons (pv 10) (pa_cons (pe_op op_sub (fldK (K := K) rfl (pv 2) rfl) (pv 9)) (pa_cons (calS g_divisor_of pass0 hr (by decide) (by rfl) (pa_cons (fldK (K := K) rfl (pv 0) rfl) (pa_cons (fldK (K := K) rfl (pv 1) rfl) pa_nil))) pa_nil)))))))
 (pss_cons (ps_if (pt_cmpR op_isNS (pv 4) pe_non (nomark _)) (pss_one (ps_ret pe_non)) pss_nil)
 (pss_one (ps_ret (calS g_parted pass0 hr (by decide) (by rfl) (pa_cons (pv 0) (pa_cons (pv 1) (pa_cons (pv 2) (pa_cons (pe_ix (ixTK (K := K) rfl) (pv 4) pe_int (fun _ _ => rfl)) pa_nil))))))))))))))))), ?_⟩
  rcases c with ⟨rfl, hx⟩ | ⟨p, S, rfl, hS, rfl, hy⟩ | ⟨p, S, q, U, rfl, hS, rfl, hU, rfl, hz⟩
  · walk_at "rd"
    exact ⟨_, rfl, .inr ⟨hx, h⟩⟩
  · walk_at "rd"
    refine ⟨_, rfl, .inl ⟨p, S, rfl, hS, ?_⟩⟩
    walk_at "rd"
    exact ⟨_, rfl, .inr ⟨hy, h⟩⟩
  · walk_at "rd"
    refine ⟨_, rfl, .inl ⟨p, S, rfl, hS, ?_⟩⟩
    walk_at "rd"
    refine ⟨_, rfl, .inl ⟨q, U, rfl, hU, ?_⟩⟩
    walk_at "rd"
    exact ⟨_, rfl, .inr ⟨hz, h⟩⟩
end
end Wk
namespace Wk
set_option linter.all false
set_option maxRecDepth 100000
set_option maxHeartbeats 1000000
open PySem L2 L2H
local macro_rules | `(tactic| walk_at "cy") => `(tactic| first
  | assumption
  | ((with_reducible refine' at_mono (H := ?H) ?s ?h); (case s => assumption); (case h => walk_at "cy"))
  | ((with_reducible refine' PlAt.mono (H := ?H) ?s ?h); (case s => assumption); (case h => walk_at "cy")))
local macro_rules | `(tactic| walk_at "rd1") => `(tactic| first
  | (with_reducible refine' rd_seq ?_) | (with_reducible refine' rd_asg ?_) | (with_reducible refine' rd_par ?_) | (with_reducible refine' rd_ret ?_)
  | (with_reducible refine' rd_ifs ?_) | (with_reducible refine' rd_drop ?_) | (with_reducible refine' rd_next ?_) | (with_reducible refine' rd_asgG ?_)
  | ((with_reducible refine' rd_var (v := ?v) ?e ?h); (case e => exact rfl)) | (with_reducible refine' rd_c ?_) | (with_reducible refine' rd_op ?_) | (with_reducible refine' rd_un ?_)
  | (with_reducible refine' rd_cb ?_) | (with_reducible refine' rd_cons ?_) | (with_reducible refine' rd_nil ?_)
  | (with_reducible refine' rd_I0 ?_) | (with_reducible refine' rd_U ?_) | (with_reducible refine' rd_eqI ?_) | (with_reducible refine' rd_neI ?_)
  | (with_reducible refine' rd_test ?_) | (with_reducible refine' rd_bl ?_) | (with_reducible refine' rd_not ?_) | (with_reducible refine' rd_and ?_) | (with_reducible refine' rd_or ?_)
  | (with_reducible refine' rd_t ?_) | (with_reducible refine' rd_f ?_) | (with_reducible refine' rd_nt ?_) | (with_reducible refine' rd_nf ?_)
  | (with_reducible refine' rd_andV ?_) | (with_reducible refine' rd_orV ?_) | (with_reducible refine' rd_notV ?_) | (with_reducible refine' rd_B ?_) | (with_reducible refine' rd_forR1 ?_) | (with_reducible refine' rd_forR2 ?_) | (with_reducible refine' rd_for ?_) | (with_reducible refine' rd_iT ?_) | (with_reducible refine' rd_iL ?_) | (with_reducible refine' rd_lc ?_)
  | (with_reducible refine' rd_if ?_) | (with_reducible refine' rd_isNr ?_) | (with_reducible refine' rd_isN0 ?_) | (with_reducible refine' rd_notNr ?_) | (with_reducible refine' rd_notN0 ?_) | (with_reducible refine' rd_abs ?_) | ((with_reducible refine' rd_lenL (xs := ?xs) ?f ?h); (case f => walk_at "cy")) | ((with_reducible refine' rd_lenT (xs := ?xs) ?f ?h); (case f => walk_at "cy")) | (with_reducible refine' rd_mt ?_) | (with_reducible refine' rd_bm ?_) | (with_reducible refine' rd_tru ?_) | (with_reducible refine' rd_truInt ?_) | (with_reducible refine' rd_fld ?_)
  | ((with_reducible refine' rd_ixT (xs := ?xs) (v := ?v) ?f ?e ?h); (case f => walk_at "cy"); (case e => exact rfl))
  | ((with_reducible refine' rd_ixL (xs := ?xs) (v := ?v) ?f ?e ?h); (case f => walk_at "cy"); (case e => exact rfl))
  | ((with_reducible refine' rd_gtup (xs := ?xs) ?f ?e ?h); (case f => walk_at "cy"); (case e => exact rfl))
  | (with_reducible refine' rd_gcons ?_) | (with_reducible refine' rd_gnil ?_) | (with_reducible refine' rd_gname ?_))
local macro_rules | `(tactic| walk_at "rd") => `(tactic| repeat walk_at "rd1")
local macro_rules | `(tactic| walk_at "cy") => `(tactic| first
  | assumption
  | ((with_reducible refine' at_mono (H := ?H) ?s ?h); (case s => assumption); (case h => walk_at "cy"))
  | ((with_reducible refine' T2.mono (H := ?H) ?s ?h); (case s => assumption); (case h => walk_at "cy"))
  | ((with_reducible refine' PlAt.mono (H := ?H) ?s ?h); (case s => assumption); (case h => walk_at "cy"))
  | ((with_reducible refine' Pls.mono (H := ?H) ?s ?h); (case s => assumption); (case h => walk_at "cy")))
local macro_rules | `(tactic| walk_at "cy") => `(tactic| first
  | assumption
  | ((with_reducible refine' at_mono (H := ?H) ?s ?h); (case s => assumption); (case h => walk_at "cy"))
  | ((with_reducible refine' T2.mono (H := ?H) ?s ?h); (case s => assumption); (case h => walk_at "cy"))
  | ((with_reducible refine' PlAt.mono (H := ?H) ?s ?h); (case s => assumption); (case h => walk_at "cy"))
  | ((with_reducible refine' Pls.mono (H := ?H) ?s ?h); (case s => assumption); (case h => walk_at "cy"))
  | ((with_reducible refine' TbAt.mono (H := ?H) ?s ?h); (case s => assumption); (case h => walk_at "cy"))
  | ((with_reducible refine' Rws.mono (H := ?H) ?s ?h); (case s => assumption); (case h => walk_at "cy")))
local macro_rules | `(tactic| walk_at "rd") => `(tactic| repeat (first
  | walk_at "rd1"
  | (with_reducible refine' rd_chain ?_)
  | (with_reducible refine' rd_dget ?_)
  | (with_reducible refine' rd_tcells (by assumption) ?_)
  | (with_reducible refine' rd_tat (by assumption) ?_)
  | (with_reducible refine' rd_trest (by assumption) ?_)
  | (with_reducible refine' rd_slN ?_)
  | (with_reducible refine' rd_max ?_)
  | (with_reducible refine' rd_int ?_) | (with_reducible refine' rd_intb ?_)))
section
variable {P : Program} {w : World} {K : PySem.W.Frag} {mg : Str → Option Value} {base : Heap} {CP CB CT CE : Addr}
/-- a def called within an except suite, told of the very state -/
theorem runH_at {CX : CXT} {k : Nat} {f : Addr} {name qual : Str} {params : Arguments} {body : List Stmt} {scope : Scope} {dV kV doc pm cdv ct oc : Value} {an od : Option Addr} {osl : Array (Option Value)} {N ps : List Str}
    (lk : K.lookup f = some ⟨oc, od, .func (PySem.W.fnOf name qual params body scope dV kV doc pm an cdv ct), osl⟩) (hcd : PySem.W.codeIn K cdv qual = true) (S : FnScope N ps scope) {A : Around} {outer : List Env} {s : Shared} {H : Hp} {args : Args} {us : List Value} {vs : List V} {Q : VK} {E : XK} {p : Addr × Obj}
    (hr : RoomH (k + 1) A) (pin : PinOk outer H s p) (e0 : Env0 P w K mg base A outer s H) (hb : BindsTo s (PySem.W.fnOf name qual params body scope dV kV doc pm an cdv ct) args (ps.zip us)) (r : Vals vs us) (hl : vs.length = ps.length)
    (hbody : RoomH k (A.deeper (PyProof.Rows.envOfC qual scope s.heap.objs.size f cdv)) → ∃ t, PSs (cxH CX P w K mg base N qual scope f cdv A outer s H E p) body t ∧ t { nx := fun _ H' => Q .non H', rt := Q } (L2.start N vs) H) :
    codeAny (model P w) A (.call (.ref f) args) (CR CX outer P w H s Q E) s := by
  have bk := fun (b : Addr) (o : Obj) (e : base.get? b = some o) => (e0.bs b o e).1
  have kx : K.In s.heap := e0.mod.kin.keeps bk
  refine codeAny_call_function hr.depth (kx _ _ lk) rfl S.co S.gen rfl (PySem.W.codeRec_of kx hcd) (hb _ _ _ _ (wpAny_newFunctionEnv_cells S.kind (fun ⟨n, v⟩ hy => ?_) fun env he s1 x => ?_))
  · refine (S.par n (List.of_mem_zip hy).1).imp (fun z => z) fun z => ?_
    exact ⟨z, PySem.W.cellsFrom_some _ _ _ (.inl z)⟩
  · subst he
    obtain ⟨t, ht, hq⟩ := hbody (hr.deeper _)
    refine ⟨(e0.mod.nolimit.keeps bk).keeps x.toInCall.keep, codeAny_func (wpAny_mono (ht.run [] s1 (L2.start N vs) H _ (inv_startH S pin e0 hl r x) hq) (fun fl s' z => ?_) fun _ _ z => z)⟩
    match fl, z with
    | .ret u, ⟨v, _, H', J, rv, q⟩ => exact ⟨v, H', J.os, J.bare, J.base, J.hok, rv, q⟩
    | .next, ⟨_, H', J, q⟩ => exact ⟨.non, H', J.os, J.bare, J.base, J.hok, rfl, q⟩
    | .brk, ⟨_, _, _, q⟩ => exact False.elim q
    | .cont, ⟨_, _, _, q⟩ => exact False.elim q
/-- what a def promises within an except suite -/
structure FnQ (P : Program) (w : World) (K : PySem.W.Frag) (mg : Str → Option Value) (base : Heap) (k : Nat) (f : Addr) (fd : FuncData) (ps : List Str) (sp : Sp) : Prop where
  len : ∀ vs H Q E, sp vs H Q E → vs.length = ps.length
  run : ∀ (A : Around) (outer : List Env) (s : Shared) (H : Hp) (args : Args) (us : List Value) (vs : List V) (Q : VK) (E : XK) (p : Addr × Obj), RoomH k A → PinOk outer H s p → Env0 P w K mg base A outer s H → BindsTo s fd args (ps.zip us) → Vals vs us → sp vs H Q E → codeAny (model P w) A (.call (.ref f) args) (CR L2.CX0 outer P w H s Q E) s
/-- a def that may be called within an except suite -/
structure CalH (P : Program) (w : World) (K : PySem.W.Frag) (mg : Str → Option Value) (base : Heap) (k : Nat) (x : Str) (sp : Sp) : Prop where
  ex : ∃ (f : Addr) (fd : FuncData) (ps : List Str), FnQ P w K mg base k f fd ps sp ∧ mg x = some (.ref f) ∧ PySem.W.keepIn K (.ref f) = true ∧ Binds K fd ps []
structure MthH (P : Program) (w : World) (K : PySem.W.Frag) (mg : Str → Option Value) (base : Heap) (k : Nat) (C : Addr) (m : Str) (sp : Sp) : Prop where
  ex : ∃ (f : Addr) (fd : FuncData) (ps : List Str), Cls K C ∧ Meth K C m f ∧ FnQ P w K mg base k f fd ps sp ∧ Binds K fd ps []
def BodyOkH (P : Program) (w : World) (K : PySem.W.Frag) (mg : Str → Option Value) (base : Heap) (N : List Str) (qual : Str) (st : Stmt) (k : Nat) (sp : Sp) : Prop :=
  ∀ (f : Addr) (cdv : Value) (A : Around) (outer : List Env) (s : Shared) (H : Hp) (vs : List V) (Q : VK) (E : XK) (p : Addr × Obj), RoomH k (A.deeper (PyProof.Rows.envOfC qual (defScope st) s.heap.objs.size f cdv)) → sp vs H Q E →
    ∃ t, PSs (cxH L2.CX0 P w K mg base N qual (defScope st) f cdv A outer s H E p) (defBody st) t ∧ t ⟨fun _ H' => Q .non H', Q, fun _ _ => False, fun _ _ => False⟩ (L2.start N vs) H
theorem DefAt.calH {x : Str} {st : Stmt} {ps N : List Str} {k : Nat} {sp : Sp} (D : DefAt K mg x st ps) (S : FnScope N ps (defScope st)) (len : ∀ vs H Q E, sp vs H Q E → vs.length = ps.length) (body : BodyOkH P w K mg base N x st k sp) :
    CalH P w K mg base (k + 1) x sp := by
  obtain ⟨f, fd, F, hm, b⟩ := D
  have kp := F.kp
  obtain ⟨oc, od, kV, doc, pm, an, cdv, ct, osl, rfl, lk, hcd⟩ := F.ex
  exact ⟨f, _, ps, ⟨len, fun A outer s H args us vs Q E p hr pin e0 hb r h => runH_at lk hcd S hr pin e0 hb r (len _ _ _ _ h) fun hr' => body f cdv A outer s H vs Q E p hr' h⟩, hm, kp, b⟩
theorem MthAt.mthH {C : Addr} {m qual : Str} {st : Stmt} {ps N : List Str} {k : Nat} {sp : Sp} (D : MthAt K C m qual st ps) (S : FnScope N ps (defScope st)) (len : ∀ vs H Q E, sp vs H Q E → vs.length = ps.length) (body : BodyOkH P w K mg base N qual st k sp) :
    MthH P w K mg base (k + 1) C m sp := by
  obtain ⟨f, fd, F, me, c, b⟩ := D
  obtain ⟨oc, od, kV, doc, pm, an, cdv, ct, osl, rfl, lk, hcd⟩ := F.ex
  exact ⟨f, _, ps, c, me, ⟨len, fun A outer s H args us vs Q E p hr pin e0 hb r h => runH_at lk hcd S hr pin e0 hb r (len _ _ _ _ h) fun hr' => body f cdv A outer s H vs Q E p hr' h⟩, b⟩
/-- the context has a pin -/
def PinC (X : Cx) : Prop := ∃ p : Addr × Obj, p ∈ X.pn
theorem pinc_of {CX : CXT} {N : List Str} {qual : Str} {scope : Scope} {f : Addr} {cd : Value} {A : Around} {outer : List Env} {s : Shared} {H : Hp} {E : XK} {p : Addr × Obj} : PinC (cxH CX P w K mg base N qual scope f cd A outer s H E p) := ⟨p, List.mem_singleton.mpr rfl⟩
theorem PinC.ok {X : Cx} {pins : List (Addr × Obj)} {σ : L2.St} {H : Hp} {s : Shared} (c : PinC X) (I : Inv X pins σ H s) : ∃ p, PinOk X.stack H s p := by
  obtain ⟨p, hp⟩ := c
  obtain ⟨p1, p2, p3, p4, p5⟩ := I.pin p (List.mem_append_left _ hp)
  exact ⟨p, p1, p2, fun hm => (List.mem_cons.mp (I.stkSub p.1 hm)).elim p3 p4, p5⟩
/-- the end of such a call, where nothing is let out -/
theorem call_endQ {X : Cx} {pins : List (Addr × Obj)} {σ : L2.St} {H : Hp} {s : Shared} {Q : VK} {E : XK} {f : Addr} {us : List Value} (I : Inv X pins σ H s) (h : codeAny (model X.prog X.w) X.A (.call (.ref f) ⟨us, []⟩) (CR L2.CX0 X.stack X.prog X.w H s Q E) s) : wpAny (model X.prog X.w) X.A (call (.ref f) us) (EP X pins σ Q) X.xe s := by
  refine wpAny_call (codeAny_mono h fun r s' z => ?_)
  match r, z with
  | .error e, z => exact False.elim z
  | .ok (.ret u), z => exact I.after z
  | .ok .next, z => exact False.elim z
  | .ok .brk, z => exact False.elim z
  | .ok .cont, z => exact False.elim z
theorem run_fnQ {X : Cx} {pins : List (Addr × Obj)} {σ : L2.St} {H : Hp} {s : Shared} {Q : VK} {us : List Value} {vs : List V} {k : Nat} {f : Addr} {fd : FuncData} {ps : List Str} {sp : Sp} {E : XK} (F : FnQ X.prog X.w X.K X.mg X.base k f fd ps sp) (hr : RoomH k X.A) (hc : PinC X) (hb : Binds X.K fd ps []) (I : Inv X pins σ H s) (r : Vals vs us) (h : sp vs H Q E) : wpAny (model X.prog X.w) X.A (call (.ref f) us) (EP X pins σ Q) X.xe s := by
  obtain ⟨p, hp⟩ := hc.ok I
  have b := hb s us I.kIn (by rw [List.append_nil, ← r.length]; exact F.len _ _ _ _ h)
  rw [List.append_nil] at b
  exact call_endQ I (F.run X.A X.stack s H ⟨us, []⟩ us vs Q E p hr hp I.env0 b r h)
theorem calHS {X : Cx} {x : Str} {sp : Sp} {k : Nat} {e : Expr} {es : List Expr} {t : TA} {p pos : Pos} (c : CalH X.prog X.w X.K X.mg X.base k x sp) (hr : RoomH k X.A) (hc : PinC X) (hg : Gl X x) (ha : PA X (e :: es) t) (hd : (x == ("__debug__" : Str)) = false := by decide)
    (h1 : starEach (e :: es) X.env = (false, eval e X.env) :: starEach es X.env := by rfl) (h2 : (backTo pos (starEach es X.env)).any (·.1) = false := by rfl) :
    PE X (.Call (.Name x p) (e :: es) [] pos) (tCB (fun vs H Q => sp vs H Q E0) t) where
  run := fun pins s σ H Q I h => by
    obtain ⟨f, fd, ps, F, hm, kp, b⟩ := c.ex
    exact wpAny_Call_Name_kw (ld_glob I hg hm (PySem.W.callWith_K (h₀ := X.base) I.ok.mod.kin kp (thn (ha.run pos pins s σ H _ I h) fun us s1 ⟨vs, H1, I1, r, q⟩ => ⟨I1.kIn, run_fnQ F hr hc b I1 r q⟩) h1 h2) hd)
theorem ruH {k : Nat} {A : Around} (r : RoomH k A) : A.units < cLine := by have := r.un; omega
theorem ruH20 {k : Nat} {A : Around} (r : RoomH k A) : A.units + 100 < cLine := by have := r.un; omega
theorem op_ownEqH {X : Cx} {C : Addr} {sp : Sp} {k : Nat} (c : MthH X.prog X.w X.K X.mg X.base k C "__eq__" sp) (hr : RoomH k X.A) (hc : PinC X) (hu : X.A.units < cLine) : OpR X (compareOp .Eq) (rOwn2 C sp E0) := fun pins s σ H x y v u Q I rx ry h => by
  obtain ⟨f, fd, ps, cl, me, F, b⟩ := c.ex
  obtain ⟨a1, dx, fs, a2, dy, gs, rfl, rfl, i1, i2, q⟩ := h
  cases (show v = Value.ref a1 from rx)
  cases (show u = Value.ref a2 from ry)
  obtain ⟨ox, od, J⟩ := inst_of I i1
  obtain ⟨oy, od', J'⟩ := inst_of I i2
  obtain ⟨m, hF⟩ := I.fr
  refine PySem.W.cmp_K (op := .Eq) (tb := .ref C) hu hF I.ok.mod.kin J J'.type (by simp [PySem.W.notFirst]) me.at_ me.fn ?_
  exact wpAny_mono (run_fnQ (us := [.ref a1, .ref a2]) (vs := [.ref a1, .ref a2]) F hr hc b I (.cons rfl (.cons rfl .nil)) q) (fun _ _ z => cmpBack_of z) fun _ _ z => z
/-- a tuple == itself -/
def rSameT : R2 := fun x y H Q => ∃ p xs, x = .ref p ∧ y = .ref p ∧ H p = some (.tup xs) ∧ Q (.bl true) H
theorem op_sameT {X : Cx} (hu : X.A.units < cLine) : OpR X (compareOp .Eq) rSameT := fun pins s σ H x y v u Q I rx ry h => by
  obtain ⟨p, xs, rfl, rfl, hp, q⟩ := h
  cases (show v = Value.ref p from rx)
  cases (show u = Value.ref p from ry)
  obtain ⟨its, r, e, z⟩ := I.tuple (SqT.of hp)
  refine GQ.rc_tupG (items := its.toArray) (items2 := its.toArray) rfl hu (fun _ s' => s'.os = s.os ∧ Inv X pins σ H s') e e (fun i h1 h2 s' l => ?_) (fun s' l => ⟨.bl true, H, l.2, rfl, q⟩) ⟨rfl, I⟩
  exact SeqAt.EqAt.same (A := X.A.in1) (s := s') its.toArray[i] X.prog X.w _ _ ⟨rfl, l⟩
/-- repr of plain data -/
def rRepr (K : PySem.W.Frag) : List V → Hp → VK → Prop := fun xs H Q => ∃ x d, xs = [x] ∧ Dp K H x d ∧ d.showable = true ∧ d.hasDict = false ∧ d.depth ≤ 50 ∧ d.shown.length ≤ 1000 ∧ (∀ i, x = .int i → i.natAbs.log2 < 1920) ∧ Q (.str d.shown) H
theorem call_reprD {X : Cx} (hg : X.A.guards = some []) (hu : X.A.units + 100 < cLine) : CallR X (.builtin "repr") (rRepr X.K) := fun pins s σ H xs us Q I r h => by
  obtain ⟨x, d, rfl, hd, hs, hn, hz, hl, hi, q⟩ := h
  have hl' : d.shown.length ≤ sizeLine := Nat.le_trans hl (by decide)
  obtain ⟨u, rfl, ru⟩ : ∃ u, us = [u] ∧ L2.RelV x u := by
    cases r with
    | cons r1 r2 => cases r2; exact ⟨_, rfl, r1⟩
  obtain ⟨as, rd⟩ := Dp.reads I d x u hd ru
  have ref : ∀ {a : Addr}, u = .ref a → wpAny (model X.prog X.w) X.A (call (.builtin "repr") [u]) (EP X pins σ Q) X.xe s := fun {a} e => by
    subst e
    exact repr_of_reads' rd hs (PyData.noDict_hsm hn) hg (by omega) (fun _ _ e => e) (fun h' t tk hk => ⟨.str d.shown, H, I.kept (t' := tk) hk, ⟨_, rfl⟩, q⟩) hl'
  cases hd with
  | non => cases (show u = Value.none from ru); exact PySem.P.repr_of_none ⟨.str _, H, I.tok _, ⟨_, rfl⟩, q⟩
  | bl b => cases (show u = Value.bool b from ru); exact PySem.P.repr_of_bool ⟨.str _, H, I.tok _, ⟨_, rfl⟩, q⟩
  | int i => obtain ⟨t, rfl⟩ := (show ∃ t, u = Value.int i t from ru); exact PySem.P.repr_of_int (hi i rfl) ⟨.str _, H, I.tok _, ⟨_, rfl⟩, q⟩
  | str y => obtain ⟨t, rfl⟩ := (show ∃ t, u = Value.str y t from ru); exact PySem.P.repr_of_str ⟨.str _, H, I.tok _, ⟨_, rfl⟩, q⟩ hl'
  | lst _ _ => exact ref ru
  | tup _ _ => exact ref ru
theorem reprK {X : Cx} {K : PySem.W.Frag} (hK : X.K = K) (hg : X.A.guards = some []) (hu : X.A.units + 100 < cLine) : CallR X (.builtin "repr") (rRepr K) := by subst hK; exact call_reprD hg hu
theorem h_whole (T : Txt K mg CP CB CT CE) : CalH P w K mg base 1 "_law_whole_is" spWhole := by
  refine T.f_law_whole_is.calH sc__law_whole_is (fun vs H Q E ⟨a, b, e, _⟩ => by subst e; rfl) (N := N__law_whole_is) fun f cdv A outer s H vs Q E p hr h => ?_
  obtain ⟨a, b, rfl, h⟩ := h
  refine ⟨_, (pss_one (ps_ret (pe_and (pe_callB (isiK (K := K) rfl) (by rfl) T.n_isinstance (by decide +kernel) (pa_cons (pv 0) (pa_cons (pe_bltn (v := .ty "int") (by rfl) T.n_int (by decide +kernel) rfl) pa_nil))) (pe_and (pe_not (pe_callB (isiK (K := K) rfl) (by rfl) T.n_isinstance (by decide +kernel) (pa_cons (pv 0) (pa_cons (pe_bltn (v := .ty "bool") (by rfl) T.n_bool (by decide +kernel) rfl) pa_nil)))) (pe_one (pe_cmpR op_eq (pv 0) (pv 1) (nomark _))))))), ?_⟩
  walk_at "rd"
  refine rd_isInt ?_
  walk_at "rd"
  refine rd_isBool ?_
  walk_at "rd"
  exact h
theorem h_row (T : Txt K mg CP CB CT CE) : CalH P w K mg base 1 "_law_row" (spLRow CP) := by
  refine T.f_law_row.calH sc__law_row (fun vs H Q E ⟨p, g, e, _⟩ => by subst e; rfl) (N := N__law_row) fun f cdv A outer s H vs Q E pn hr h => ?_
  obtain ⟨p, g, rfl, hg, h⟩ := h
  refine ⟨_, (pss_one (ps_ret (tupS (pa_cons (fldK (K := K) rfl (pv 0) rfl) (pa_cons (fldK (K := K) rfl (pv 0) rfl) (pa_cons (fldK (K := K) rfl (pv 0) rfl) pa_nil)))))), ?_⟩
  walk_at "rd"
  refine rd_px T hg ?_
  walk_at "rd"
  refine rd_py T hg ?_
  walk_at "rd"
  refine rd_pa T hg ?_
  walk_at "rd"
  exact rd_new fun r H1 n1 s1 hr1 => h r H1 n1 s1 hr1
abbrev s__law_at : Stmt := top 58
def N__law_at : List Str := ["_law_place_here", "_law_row_here"]
theorem sc__law_at : FnScope ["_law_place_here", "_law_row_here"] ["_law_place_here", "_law_row_here"] (defScope s__law_at) := ⟨rfl, rfl, rfl, by decide +kernel, rfl, by decide +kernel, by decide +kernel⟩
def spAtH (CP : Addr) : Sp := fun vs H Q _ => ∃ (p r : Addr) (g : Pl), vs = [.ref p, .ref r] ∧ PlAt CP H p g ∧ T3 H r g ∧ Q (.bl true) H
theorem h_at (T : Txt K mg CP CB CT CE) : CalH P w K mg base 3 "_law_at" (spAtH CP) := by
  have h_law_whole_is := h_whole (P := P) (w := w) (base := base) T
  refine T.f_law_at.calH sc__law_at (fun vs H Q E ⟨p, r, g, e, _⟩ => by subst e; rfl) (N := N__law_at) fun f cdv A outer s H vs Q E pn hr h => ?_
  obtain ⟨p, r, g, rfl, hg, hr3, h⟩ := h
  have hr3' : H r = some (.tup [.int g.x, .int g.y, .int g.a]) := hr3
  refine ⟨_, (pss_cons (ps_if (pt_not (pt_val (pe_callB (isiK (K := K) rfl) (by rfl) T.n_isinstance (by decide +kernel) (pa_cons (pv 0) (pa_cons (pe_glob (v := .ref CP) rfl T.g_Place rfl) pa_nil))))) (pss_one (ps_ret pe_bl)) pss_nil)
 (pss_one (ps_ret (pe_and (calHS h_law_whole_is (hr.mono (by decide)) pinc_of (by rfl) (pa_cons (fldK (K := K) rfl (pv 0) rfl) (pa_cons (pe_ix (ixTK (K := K) rfl) (pv 1) pe_int (fun _ _ => rfl)) pa_nil))) (pe_and (calHS h_law_whole_is (hr.mono (by decide)) pinc_of (by rfl) (pa_cons (fldK (K := K) rfl (pv 0) rfl) (pa_cons (pe_ix (ixTK (K := K) rfl) (pv 1) pe_int (fun _ _ => rfl)) pa_nil))) (pe_one (calHS h_law_whole_is (hr.mono (by decide)) pinc_of (by rfl) (pa_cons (fldK (K := K) rfl (pv 0) rfl) (pa_cons (pe_ix (ixTK (K := K) rfl) (pv 1) pe_int (fun _ _ => rfl)) pa_nil))))))))), ?_⟩
  walk_at "rd"
  refine rd_isP T hg ?_
  walk_at "rd"
  refine rd_px T hg ?_
  walk_at "rd"
  refine ⟨_, _, rfl, ?_⟩
  walk_at "rd"
  refine rd_dec (fun _ => ?_) (fun z => absurd rfl z)
  walk_at "rd"
  refine rd_py T hg ?_
  walk_at "rd"
  refine ⟨_, _, rfl, ?_⟩
  walk_at "rd"
  refine rd_dec (fun _ => ?_) (fun z => absurd rfl z)
  walk_at "rd"
  refine rd_pa T hg ?_
  walk_at "rd"
  refine ⟨_, _, rfl, ?_⟩
  rw [decide_eq_true rfl]
  exact h
abbrev s_Table_eq : Stmt := inClass (top 35) 1
def N_Table_eq : List Str := ["self", "other"]
theorem sc_Table_eq : FnScope ["self", "other"] ["self", "other"] (defScope s_Table_eq) := ⟨rfl, rfl, rfl, by decide +kernel, rfl, by decide +kernel, by decide +kernel⟩
def spEqH (CP CT : Addr) : Sp := fun vs H Q _ => ∃ (p : Addr) (S : Tb), vs = [.ref p, .ref p] ∧ TbAt CP CT H p S ∧ Q (.bl true) H
theorem h_eq (T : Txt K mg CP CB CT CE) : MthH P w K mg base 1 CT "__eq__" (spEqH CP CT) := by
  refine T.m_Table_eq.mthH sc_Table_eq (fun vs H Q E ⟨p, S, e, _⟩ => by subst e; rfl) (N := N_Table_eq) fun f cdv A outer s H vs Q E pn hr h => ?_
  obtain ⟨p, S, rfl, hS, h⟩ := h
  refine ⟨_, (pss_one (ps_ret (pe_and (pe_callB (isiK (K := K) rfl) (by rfl) T.n_isinstance (by decide +kernel) (pa_cons (pv 1) (pa_cons (pe_glob (v := .ref CT) rfl T.g_Table rfl) pa_nil))) (pe_and (pe_cmpR (op_sameT (ruH hr)) (fldK (K := K) rfl (pv 0) rfl) (fldK (K := K) rfl (pv 1) rfl) (nomark _)) (pe_one (pe_cmpR op_eq (fldK (K := K) rfl (pv 0) rfl) (fldK (K := K) rfl (pv 1) rfl) (nomark _))))))), ?_⟩
  walk_at "rd"
  refine rd_isTab T hS ?_
  walk_at "rd"
  obtain ⟨dx, ta, la, ra, ma, xs, e1, e2, e3⟩ := id hS
  have rL : ∀ {Q : VK}, Q (.ref la) H → rFld K "ledge" (.ref p) H Q := fun k => ⟨p, CT, dx, _, _, rfl, e1, T.cl_Table, T.a_CT_ledge, tbF_ledge, k⟩
  refine rL ?_
  walk_at "rd"
  refine rL ?_
  refine ⟨la, xs, rfl, rfl, e2, ?_⟩
  walk_at "rd"
  refine rd_home T hS ?_
  walk_at "rd"
  refine rd_home T hS ?_
  walk_at "rd"
  rw [decide_eq_true rfl]
  exact h
abbrev s__law_kept_value : Stmt := top 67
def N__law_kept_value : List Str := ["_law_value", "_law_odd"]
theorem sc__law_kept_value : FnScope ["_law_value", "_law_odd"] ["_law_value", "_law_odd"] (defScope s__law_kept_value) := ⟨rfl, rfl, rfl, by decide +kernel, rfl, by decide +kernel, by decide +kernel⟩
/-- what a caught error may hold -/
def OddV (K : PySem.W.Frag) (CP CT : Addr) (H : Hp) (y : V) : Prop := (∃ p g, y = .ref p ∧ PlAt CP H p g) ∨ (∃ p S, y = .ref p ∧ TbAt CP CT H p S) ∨
  (NotC K CP H y ∧ NotC K CT H y ∧ ∃ d, Dp K H y d ∧ d.showable = true ∧ d.hasDict = false ∧ d.depth ≤ 50 ∧ d.shown.length ≤ 1000 ∧ ∀ i, y = .int i → i.natAbs.log2 < 1920)
def spKept (K : PySem.W.Frag) (CP CT : Addr) : Sp := fun vs H Q _ => ∃ y : V, vs = [y, y] ∧ OddV K CP CT H y ∧ ∀ H', Same H H' → Q (.bl true) H'
theorem tab_notP (T : Txt K mg CP CB CT CE) {H : Hp} {p : Addr} {S : Tb} (h : TbAt CP CT H p S) : NotC K CP H (.ref p) := let ⟨_, _, _, _, _, _, e, _⟩ := h; ⟨_, .base (.ins e T.isT.cl T.isT.ha T.isT.hn T.isT.htk T.isT.hm), T.kTP⟩
theorem pl_notT (T : Txt K mg CP CB CT CE) {H : Hp} {p : Addr} {g : Pl} (h : PlAt CP H p g) : NotC K CT H (.ref p) := let ⟨_, e⟩ := h; ⟨_, .base (.ins e T.isP.cl T.isP.ha T.isP.hn T.isP.htk T.isP.hm), T.kPT⟩
theorem h_kept (T : Txt K mg CP CB CT CE) {f : Addr} {cdv : Value} {A : Around} {outer : List Env} {s : Shared} {H : Hp} {vs : List V} {Q : VK} {E : XK} {pn : Addr × Obj}
    (hr : RoomH 4 (A.deeper (PyProof.Rows.envOfC "_law_kept_value" (defScope s__law_kept_value) s.heap.objs.size f cdv))) (gd : A.guards = some []) (h : spKept K CP CT vs H Q E) :
    ∃ t, PSs (cxH L2.CX0 P w K mg base N__law_kept_value "_law_kept_value" (defScope s__law_kept_value) f cdv A outer s H E pn) (defBody s__law_kept_value) t ∧ t { nx := fun _ H' => Q .non H', rt := Q } (L2.start N__law_kept_value vs) H := by
  have h_law_at := h_at (P := P) (w := w) (base := base) T
  have h_law_row := h_row (P := P) (w := w) (base := base) T
  have h_eq := h_eq (P := P) (w := w) (base := base) T
  obtain ⟨y, rfl, hy, h⟩ := h
  refine ⟨_, (pss_cons (ps_if (pt_val (pe_callB (isiK (K := K) rfl) (by rfl) T.n_isinstance (by decide +kernel) (pa_cons (pv 1) (pa_cons (pe_glob (v := .ref CP) rfl T.g_Place rfl) pa_nil)))) (pss_one (ps_ret (calHS h_law_at (hr.mono (by decide)) pinc_of (by rfl) (pa_cons (pv 0) (pa_cons (calHS h_law_row (hr.mono (by decide)) pinc_of (by rfl) (pa_cons (pv 1) pa_nil)) pa_nil))))) pss_nil)
 (pss_cons (ps_if (pt_val (pe_callB (isiK (K := K) rfl) (by rfl) T.n_isinstance (by decide +kernel) (pa_cons (pv 1) (pa_cons (pe_glob (v := .ref CT) rfl T.g_Table rfl) pa_nil)))) (pss_one (ps_ret (pe_and (pe_callB (isiK (K := K) rfl) (by rfl) T.n_isinstance (by decide +kernel) (pa_cons (pv 0) (pa_cons (pe_glob (v := .ref CT) rfl T.g_Table rfl) pa_nil))) (pe_one (pe_cmpR (op_ownEqH h_eq (hr.mono (by decide)) pinc_of (ruH hr)) (pv 0) (pv 1) (nomark _)))))) pss_nil)
 (pss_one (ps_ret (pe_cmpR op_eq (pe_callB (reprK (K := K) rfl gd (ruH20 hr)) (by rfl) T.n_repr (by decide +kernel) (pa_cons (pv 0) pa_nil)) (pe_callB (reprK (K := K) rfl gd (ruH20 hr)) (by rfl) T.n_repr (by decide +kernel) (pa_cons (pv 1) pa_nil)) (nomark _)))))), ?_⟩
  rcases hy with ⟨p, g, rfl, hg⟩ | ⟨p, S, rfl, hS⟩ | ⟨nP, nT, d, hd, h1, h2, h3, h4, h5⟩
  · walk_at "rd"
    refine rd_isP T hg ?_
    walk_at "rd"
    refine ⟨p, g, rfl, hg, fun r H1 n1 s1 hr1 => ?_⟩
    walk_at "rd"
    exact ⟨p, r, g, rfl, hg.mono s1, hr1, h H1 s1⟩
  · walk_at "rd"
    refine rd_isNot (tab_notP T hS) ?_
    walk_at "rd"
    refine rd_isTab T hS ?_
    walk_at "rd"
    refine rd_isTab T hS ?_
    walk_at "rd"
    obtain ⟨dx, ta, la, ra, ma, xs, e1, e2, e3⟩ := id hS
    refine ⟨p, dx, _, p, dx, _, rfl, rfl, e1, e1, p, S, rfl, hS, ?_⟩
    exact h H (Same.refl _)
  · walk_at "rd"
    refine rd_isNot nP ?_
    walk_at "rd"
    refine rd_isNot nT ?_
    walk_at "rd"
    refine ⟨y, d, rfl, hd, h1, h2, h3, h4, h5, ?_⟩
    walk_at "rd"
    refine ⟨y, d, rfl, hd, h1, h2, h3, h4, h5, ?_⟩
    walk_at "rd"
    refine rd_eq rfl ?_
    rw [decide_eq_true rfl]
    exact h H (Same.refl _)
end
end Wk
namespace Wk
set_option linter.all false
set_option maxRecDepth 100000
set_option maxHeartbeats 1000000
open PySem L2 L2H LamX
open PySem.W (kla_obj kla_fn)
/-- a lambda's words, the cells that it captured, its code object -/
structure LF where
  qual : Str
  params : Arguments
  body : Expr
  scope : Scope
  cl : List (Str × Addr)
  c : Addr
/-- the object at f is the lambda F -/
def LmO (f : Addr) (F : LF) : HO := .ext fun h => ∃ pm ctv : Value, h.get? f = some (kla_obj "<lambda>" F.qual F.params F.body F.scope F.cl pm F.c ctv)
theorem lmO_at {P : Program} {w : World} {H : Hp} {h : Heap} {f : Addr} {F : LF} (hok : HOk P w H h) (e : H f = some (LmO f F)) : ∃ pm ctv : Value, h.get? f = some (kla_obj "<lambda>" F.qual F.params F.body F.scope F.cl pm F.c ctv) := (hok f _ e).1
theorem code_at {P : Program} {w : World} {H : Hp} {h : Heap} {c : Addr} {q : Str} (hok : HOk P w H h) (e : H c = some (CodeO c q)) : ∃ (oc : Obj) (vs : Array Value) (t : Tok), h.get? c = some oc ∧ oc.data = .fields vs ∧ vs[1]? = some (.str q t) := (hok c _ e).1
section
variable {X : Cx} {pins : List (Addr × Obj)} {σ : L2.St} {H : Hp} {s : Shared}
theorem inv_lam {F : LF} {pm ctv : Value} {t' : Nat} (I : Inv X pins σ H s) : Inv X pins σ (upd H s.heap.objs.size (LmO s.heap.objs.size F)) { s with heap := s.heap.push (kla_obj "<lambda>" F.qual F.params F.body F.scope F.cl pm F.c ctv), toks := t' } :=
  have e : (s.heap.push (kla_obj "<lambda>" F.qual F.params F.body F.scope F.cl pm F.c ctv)).get? s.heap.objs.size = some (kla_obj "<lambda>" F.qual F.params F.body F.scope F.cl pm F.c ctv) := Heap.get?_push_size _ rfl
  I.laid (a := s.heap.objs.size) (fun b u e => Heap.get?_push_of_some _ e) (Nat.le_refl _) ⟨⟨pm, ctv, e⟩, ⟨_, e⟩, fun h1 h2 ⟨p, t, z⟩ st => ⟨p, t, st _ z⟩⟩
/-- what the making of a lambda leaves -/
structure LamMade (T : List (Addr × Str)) (H H1 : Hp) (f : Addr) (F : LF) : Prop where
  ext : ExtN H H1
  back : ∀ b, H1 b = none → H b = none
  tabs : Tabs T H1
  new : H f = none
  fn : H1 f = some (LmO f F)
  code : H1 F.c = some (CodeO F.c F.qual)
theorem upd_back {H : Hp} {a b : Addr} {o : HO} (e : upd H a o b = none) : H b = none := by
  by_cases h : b = a
  · rw [h, upd_same] at e; cases e
  · rwa [upd_ne h] at e
theorem made_of {T : List (Addr × Str)} {H H1 : Hp} {f : Addr} {F : LF} (e : ExtN H H1) (b : ∀ b, H1 b = none → H b = none) (t : Tabs T H1) (n : H1 f = none) (c : H1 F.c = some (CodeO F.c F.qual)) : LamMade T H (upd H1 f (LmO f F)) f F :=
  have k : ∀ b o, H1 b = some o → upd H1 f (LmO f F) b = some o := fun b o e => (upd_ne (ne_of_none e n)).trans e
  ⟨fun b o z nz => k _ _ (e b o z nz), fun b z => b |> fun _ => ‹∀ b, H1 b = none → H b = none› b (upd_back z), t.ext k, b f n, upd_same, k _ _ c⟩
theorem lam_make {T : List (Addr × Str)} {c P : Addr} {params : Arguments} {body : Expr} {scope : Scope} {pos : Pos} {E : Value → Shared → Prop} {Q : Value → Shared → Prop} (I : Inv X pins σ H s) (TB : TabB X.base X.mg c P) (hcode : X.env.code = .ref c)
    (hm : (P, X.env.qual ++ "<lambda>") ∈ T) (hu : ∀ p ∈ T, p.1 = P → p.2 = X.env.qual ++ "<lambda>") (hT : Tabs T H) (hdef : defaultsOf params X.env = ([], [])) (hfree : ∀ y ∈ scope.names, y.2 = .free → ∃ c, X.env.cells.lookup y.1 = some c)
    (h : ∀ (f c' : Addr) (H1 : Hp) (s' : Shared), Inv X pins σ H1 s' → LamMade T H H1 f ⟨X.env.qual ++ "<lambda>", params, body, scope, cloFrom X.env.cells scope.names [], c'⟩ → Q (.ref f) s') :
    wpAny (model X.prog X.w) X.A (eval (.Lambda params body scope pos) X.env) Q E s := by
  obtain ⟨ps, hP, ht, ha⟩ := hT _ hm
  have hb : s.heap.BuiltinsAt X.mg P := TB.bm.keeps I.bk
  have hPs : s.heap.get? P = some { cls := .none, data := .fields ps } := I.hok P _ hP
  refine PySem.W.kla_eval hdef ?_
  cases hc : codeAmong pos ps.toList with
  | some cv =>
    obtain ⟨c', rfl, hco⟩ := ha pos cv hc
    refine PySem.W.kla_makeFunctionHit (mg := X.mg) (c := c) (P := P) (ps := ps) (closure_ok hfree) I.ok.glob (I.mod.glob.keeps I.bk) hcode (TB.code.keeps I.bk) hPs ht hc hb fun ctv h' tk hx hsz => ?_
    have I1 : Inv X pins σ H { s with heap := h', toks := tk } := I.kept hx
    exact h h'.objs.size c' _ _ (inv_lam (t' := tk) (pm := (X.mg "__name__").getD .none) (ctv := ctv) I1) (made_of (ExtN.refl H) (fun _ e => e) hT (I1.hok.fresh (Nat.le_refl _)) hco)
  | none =>
    refine PySem.W.kla_makeFunction (mg := X.mg) (c := c) (P := P) (ps := ps) (closure_ok hfree) I.ok.glob (I.mod.glob.keeps I.bk) hcode (TB.code.keeps I.bk) hPs ht hc TB.gP hb fun c' ctv h' tk hx hge hlt hrec htb => ?_
    obtain ⟨c2, oc, vs, t, e2, hoc, hd, hv⟩ := hrec
    cases e2
    have nC : H c' = none := I.hok.fresh hge
    have I1 := inv_table (q := X.env.qual ++ "<lambda>") (t' := tk) (more := #[rawInt pos.line, rawInt pos.col, .ref c']) (h' := h') I hP (fun b o hb e => hx b o hb e) htb hge ⟨oc, vs, t, hoc, hd, hv⟩
    have eL : (ps ++ #[rawInt pos.line, rawInt pos.col, .ref c']).toList = ps.toList ++ [rawInt pos.line, rawInt pos.col, .ref c'] := by simp
    generalize hps : ps ++ #[rawInt pos.line, rawInt pos.col, .ref c'] = ps2 at I1 eL
    have hE : ExtN H (upd (upd H P (.tbl ps2)) c' (CodeO c' (X.env.qual ++ "<lambda>"))) := fun b o e n => by
      have nb : b ≠ P := fun z => n ps (Option.some.inj (e.symm.trans (z ▸ hP)))
      rw [upd_ne (ne_of_none e nC), upd_ne nb, e]
    have T1 : Tabs T (upd (upd H P (.tbl ps2)) c' (CodeO c' (X.env.qual ++ "<lambda>"))) := fun p hp => by
      by_cases hb : p.1 = P
      · rw [hu p hp hb, hb]
        refine ⟨ps2, (upd_ne (ne_of_none hP nC)).trans upd_same, eL ▸ PySem.TriplesOk_snoc _ _ _ _ ht, fun p' cv hcv => ?_⟩
        rw [eL] at hcv
        rcases among_app _ ht hcv with z | z
        · obtain ⟨c0, z1, z2⟩ := ha p' cv z
          exact ⟨c0, z1, hE _ _ z2 codeO_ne⟩
        · exact ⟨c', z, upd_same⟩
      · obtain ⟨qs, a1, a2, a3⟩ := hT p hp
        refine ⟨qs, (upd_ne (ne_of_none a1 nC)).trans ((upd_ne hb).trans a1), a2, fun p' cv hcv => ?_⟩
        obtain ⟨c0, z1, z2⟩ := a3 p' cv hcv
        exact ⟨c0, z1, hE _ _ z2 codeO_ne⟩
    exact h h'.objs.size c' _ _ (inv_lam (t' := tk) (pm := (X.mg "__name__").getD .none) (ctv := ctv) I1) (made_of hE (fun b e => upd_back (upd_back e)) T1 (I1.hok.fresh (Nat.le_refl _)) upd_same)
/-- the reading of a lambda: its object is new -/
def tLamb (T : List (Addr × Str)) (mk : Addr → LF) : TE := fun _ H Q => Tabs T H ∧ ∀ f c' H1, LamMade T H H1 f (mk c') → Q (.ref f) H1
theorem pe_lamb {T : List (Addr × Str)} {c P : Addr} {params : Arguments} {body : Expr} {scope : Scope} {pos : Pos} (TB : TabB X.base X.mg c P) (hcode : X.env.code = .ref c) (hm : (P, X.env.qual ++ "<lambda>") ∈ T) (hu : ∀ p ∈ T, p.1 = P → p.2 = X.env.qual ++ "<lambda>")
    (L : LamS X.env.scope scope) (hdef : defaultsOf params X.env = ([], [])) : PE X (.Lambda params body scope pos) (tLamb T fun c' => ⟨X.env.qual ++ "<lambda>", params, body, scope, cloFrom X.env.cells scope.names [], c'⟩) :=
  ⟨fun pins s σ H Q I ⟨hT, h⟩ => lam_make I TB hcode hm hu hT hdef (L.has I.ok) fun f c' H1 s' I1 m => ⟨.ref f, H1, I1, rfl, h f c' H1 m⟩⟩
end
end Wk
namespace Wk
set_option linter.all false
set_option maxRecDepth 100000
set_option maxHeartbeats 1000000
open PySem L2 L2H LamX
open PySem.W (kla_obj kla_fn)
/-! ### isinstance of the caught error, which has a dict -/
def rIsX (K : PySem.W.Frag) (D a : Addr) (cls : Value) (d : Option Addr) : List V → Hp → VK → Prop := fun xs H Q => ∃ (dd : Addr) (c : V) (cv : Value) (b : Bool) (fs : List (Str × V)), cls = .ref D ∧ d = some dd ∧ xs = [.ref a, c] ∧ (∀ u, RelV c u → u = cv) ∧ PySem.W.kitOne K (.ref D) cv = some b ∧ H dd = some (.xd fs) ∧ Q (.bl b) H
theorem call_isX {X : Cx} {a D : Addr} {cls : Value} {d : Option Addr} {oe : Obj} {pn : List (Addr × Obj)} (C : ExcC X.K D) (hz : Zc cls d oe) (hf : ∃ vs, oe.data = .fields vs) : CallR (X.suite a ((a, oe) :: pn)) (.builtin "isinstance") (rIsX X.K D a cls d) := by
  intro pins s σ H xs us Q I r ⟨dd, c, cv, b, fs, ec, ed, e1, hcv, e, hx, q⟩
  subst ec
  subst ed
  subst e1
  obtain ⟨u, rfl, ru⟩ : ∃ u, us = [.ref a, u] ∧ RelV c u := by
    cases r with
    | cons r1 r2 =>
      cases r2 with
      | cons r3 r4 =>
        cases r4
        obtain rfl := (show _ = Value.ref a from r1)
        exact ⟨_, rfl, r3⟩
  obtain rfl := hcv _ ru
  have hget := (I.pin (a, oe) (List.mem_append_left _ List.mem_cons_self)).1
  obtain ⟨vs, hv⟩ := hf
  obtain ⟨mA, hns, _⟩ := (show ObjOk X.prog X.w H s.heap dd (.xd fs) from I.hok dd _ hx)
  obtain ⟨od, ho, _⟩ := lookIn_ns hns
  have J : PySem.W.InstAt s.heap a oe D (some od) := ⟨hget, hz.1, by unfold PySem.W.notCls; rw [hv] <;> rfl, by rw [hz.2]; exact ho⟩
  obtain ⟨cdD, hcD, _⟩ := PySem.W.any_some C.hd
  exact PySem.W.kia_one (PySem.W.kitx_exc (by rw [hcD]; rfl) C.hg C.hk C.hs C.ha C.hn C.ht C.hm) I.kIn J e (fun z => nomatch z) fun tk => ⟨.bl b, H, I.kept (t' := tk) fun _ _ z => z, rfl, q⟩
/-! ### what a lambda is worth -/
/-- the same words as a nested def has, for the frame -/
def LF.nf (F : LF) : NdefX.NF := ⟨"<lambda>", F.qual, F.params, [], F.scope, F.cl, F.c⟩
structure LOk (P : Program) (w : World) (K : PySem.W.Frag) (mg : Str → Option Value) (base : Heap) (CX : CXT) (k : Nat) (f : Addr) (F : LF) (fr : List Str) (sp : List (Option V) → Hp → VK → XK → Prop) : Prop where
  run : ∀ (A : Around) (outer : List Env) (s : Shared) (H : Hp) (ws : List (Option V)) (Q : VK) (E : XK), Room k A → Env0 P w K mg base A outer s H → H f = some (LmO f F) → H F.c = some (CodeO F.c F.qual) → NdefX.CellsAt F.cl fr ws s.heap H → sp ws H Q E →
    codeAny (model P w) A (.call (.ref f) ⟨[], []⟩) (CR CX outer P w H s Q E) s
section
variable {CX : CXT} {P : Program} {w : World} {K : PySem.W.Frag} {mg : Str → Option Value} {base : Heap} {N fr : List Str} {F : LF} {f : Addr} {k : Nat} {sp : List (Option V) → Hp → VK → XK → Prop}
theorem lok_of (S : NdefX.NScope N [] fr F.scope) (hb : ∀ pm cv ctv : Value, bindArgs (kla_fn "<lambda>" F.qual F.params F.body F.scope F.cl pm cv ctv) ⟨[], []⟩ = pure [])
    (hbody : ∀ (A : Around) (outer : List Env) (s : Shared) (H : Hp) (ws : List (Option V)) (Q : VK) (E : XK), Room k (A.deeper (NdefX.envF F.nf f s.heap.objs.size)) → ws.length = fr.length → sp ws H Q E →
      ∃ t, PE (NdefX.ncx CX P w K mg base N F.nf f A outer s H E) F.body t ∧ t (NdefX.startF N [] ws) H Q) : LOk P w K mg base CX (k + 1) f F fr sp := by
  refine ⟨fun A outer s H ws Q E hr e0 hf hc C hsp => ?_⟩
  have lim : s.heap.NoLimit := e0.mod.nolimit.keeps fun b o e => (e0.bs b o e).1
  obtain ⟨pm, ctv, ho⟩ := lmO_at e0.hok hf
  obtain ⟨oc, vs, t, hoc, hdc, hvc⟩ := code_at e0.hok hc
  refine PySem.W.kla_callFunE hr.depth ho rfl S.co S.gen rfl ⟨F.c, oc, vs, t, rfl, hoc, hdc, hvc⟩ ?_
  rw [hb]
  refine wpAny_pure (wpAny_newFunctionEnv S.nocell (fun y hy => absurd hy (by simp)) (fun h₁ hns hsb => ⟨lim.fresh _ hsb, ?_⟩) S.kind)
  show codeAny _ _ (.expr F.body (NdefX.envF F.nf f s.heap.objs.size)) _ _
  have kp : ∀ b o, s.heap.get? b = some o → h₁.get? b = some o := fun b o e => hsb.extBut b o (Nat.ne_of_lt (Heap.lt_size e)) (Heap.get?_push_of_some _ e)
  obtain ⟨t, ht, hq⟩ := hbody A outer s H ws Q E (hr.deeper _) C.len hsp
  have I : Inv (NdefX.ncx CX P w K mg base N F.nf f A outer s H E) [] (NdefX.startF N [] ws) H { s with heap := h₁, toks := s.toks + ([] : List (Str × Value)).length } := NdefX.inv_startN (ps := []) (us := []) S hr.hd e0 rfl .nil C hns kp
  exact PySem.W.kla_codeExpr (wpAny_mono (ht.run [] _ _ H Q I hq) (fun v s' ⟨w', H', J, rv, q⟩ => ⟨w', H', J.os, J.bare, J.base, J.hok, rv, q⟩) fun _ _ z => z)
end
/-- the call of a lambda that a local name holds: C tells what its cells held when the running frame began -/
theorem pe_lcall {X : Cx} {f : Addr} {F : LF} {fr : List Str} {ws : List (Option V)} {i k : Nat} {x : Str} {sp : List (Option V) → Hp → VK → XK → Prop} {E : L2.St → XK} {CX : CXT} {p pos : Pos} (lok : LOk X.prog X.w X.K X.mg X.base CX k f F fr sp)
    (C : NdefX.CellsAt F.cl fr ws X.s_0.heap X.H_0) (nf : ∀ y c, F.cl.lookup y = some c → c ∉ X.fs) (hx0 : X.ex = []) (hr : Room k X.A) (hx : ∀ σ, PassesAt CX X σ (E σ)) (hN : X.N[i]? = some x) (hv : Vis X.env.scope x)
    (hd : (x == ("__debug__" : Str)) = false := by decide) (hcd : (x == ("__classdict__" : Str)) = false := by decide) :
    PE X (.Call (.Name x p) [] [] pos) (fun σ H Q => σ[i]? = some (some (.ref f)) ∧ H f = some (LmO f F) ∧ H F.c = some (CodeO F.c F.qual) ∧ sp ws H Q (E σ)) := by
  refine ⟨fun pins s σ H Q I ⟨hs, hf, hc, hq⟩ => ?_⟩
  refine wpAny_Call_Name_kw (thn ((pe_var (pos := p) hN hv hd hcd).run pins s σ H (fun v H1 => v = .ref f ∧ H1 = H) I ⟨.ref f, hs, rfl, rfl⟩) fun u s1 ⟨v, H1, I1, r1, e1, e2⟩ => ?_)
  subst e1
  subst e2
  obtain rfl := (show u = Value.ref f from r1)
  obtain ⟨pm, ctv, ho⟩ := lmO_at I1.hok hf
  refine PySem.W.callWith_F0 (first := []) ⟨_, _, _, _, ho⟩ (show wpAny _ _ (call (.ref f) []) _ _ _ from ?_)
  have C1 := C.later nf (fun y c _ z => by rw [hx0] at z; exact absurd z (by simp)) I1
  refine wpAny_call (codeAny_mono (lok.run X.A X.stack s1 H1 ws Q (E σ) hr I1.env0 hf hc C1 hq) fun r s' z => ?_)
  match r, z with
  | .error e, z => exact hx σ pins H1 s1 e s' I1 z
  | .ok (.ret u), z => exact I1.after z
  | .ok .next, z => exact False.elim z
  | .ok .brk, z => exact False.elim z
  | .ok .cont, z => exact False.elim z
end Wk
namespace Wk
set_option linter.all false
set_option maxRecDepth 100000
set_option maxHeartbeats 1000000
open PySem L2 L2H LamX
local macro_rules | `(tactic| walk_at "cy") => `(tactic| first
  | assumption
  | ((with_reducible refine' at_mono (H := ?H) ?s ?h); (case s => assumption); (case h => walk_at "cy"))
  | ((with_reducible refine' PlAt.mono (H := ?H) ?s ?h); (case s => assumption); (case h => walk_at "cy")))
local macro_rules | `(tactic| walk_at "rd1") => `(tactic| first
  | (with_reducible refine' rd_seq ?_) | (with_reducible refine' rd_asg ?_) | (with_reducible refine' rd_par ?_) | (with_reducible refine' rd_ret ?_)
  | (with_reducible refine' rd_ifs ?_) | (with_reducible refine' rd_drop ?_) | (with_reducible refine' rd_next ?_) | (with_reducible refine' rd_asgG ?_)
  | ((with_reducible refine' rd_var (v := ?v) ?e ?h); (case e => exact rfl)) | (with_reducible refine' rd_c ?_) | (with_reducible refine' rd_op ?_) | (with_reducible refine' rd_un ?_)
  | (with_reducible refine' rd_cb ?_) | (with_reducible refine' rd_cons ?_) | (with_reducible refine' rd_nil ?_)
  | (with_reducible refine' rd_I0 ?_) | (with_reducible refine' rd_U ?_) | (with_reducible refine' rd_eqI ?_) | (with_reducible refine' rd_neI ?_)
  | (with_reducible refine' rd_test ?_) | (with_reducible refine' rd_bl ?_) | (with_reducible refine' rd_not ?_) | (with_reducible refine' rd_and ?_) | (with_reducible refine' rd_or ?_)
  | (with_reducible refine' rd_t ?_) | (with_reducible refine' rd_f ?_) | (with_reducible refine' rd_nt ?_) | (with_reducible refine' rd_nf ?_)
  | (with_reducible refine' rd_andV ?_) | (with_reducible refine' rd_orV ?_) | (with_reducible refine' rd_notV ?_) | (with_reducible refine' rd_B ?_) | (with_reducible refine' rd_forR1 ?_) | (with_reducible refine' rd_forR2 ?_) | (with_reducible refine' rd_for ?_) | (with_reducible refine' rd_iT ?_) | (with_reducible refine' rd_iL ?_) | (with_reducible refine' rd_lc ?_)
  | (with_reducible refine' rd_if ?_) | (with_reducible refine' rd_isNr ?_) | (with_reducible refine' rd_isN0 ?_) | (with_reducible refine' rd_notNr ?_) | (with_reducible refine' rd_notN0 ?_) | (with_reducible refine' rd_abs ?_) | ((with_reducible refine' rd_lenL (xs := ?xs) ?f ?h); (case f => walk_at "cy")) | ((with_reducible refine' rd_lenT (xs := ?xs) ?f ?h); (case f => walk_at "cy")) | (with_reducible refine' rd_mt ?_) | (with_reducible refine' rd_bm ?_) | (with_reducible refine' rd_tru ?_) | (with_reducible refine' rd_truInt ?_) | (with_reducible refine' rd_fld ?_)
  | ((with_reducible refine' rd_ixT (xs := ?xs) (v := ?v) ?f ?e ?h); (case f => walk_at "cy"); (case e => exact rfl))
  | ((with_reducible refine' rd_ixL (xs := ?xs) (v := ?v) ?f ?e ?h); (case f => walk_at "cy"); (case e => exact rfl))
  | ((with_reducible refine' rd_gtup (xs := ?xs) ?f ?e ?h); (case f => walk_at "cy"); (case e => exact rfl))
  | (with_reducible refine' rd_gcons ?_) | (with_reducible refine' rd_gnil ?_) | (with_reducible refine' rd_gname ?_))
local macro_rules | `(tactic| walk_at "rd") => `(tactic| repeat walk_at "rd1")
local macro_rules | `(tactic| walk_at "cy") => `(tactic| first
  | assumption
  | ((with_reducible refine' at_mono (H := ?H) ?s ?h); (case s => assumption); (case h => walk_at "cy"))
  | ((with_reducible refine' T2.mono (H := ?H) ?s ?h); (case s => assumption); (case h => walk_at "cy"))
  | ((with_reducible refine' PlAt.mono (H := ?H) ?s ?h); (case s => assumption); (case h => walk_at "cy"))
  | ((with_reducible refine' Pls.mono (H := ?H) ?s ?h); (case s => assumption); (case h => walk_at "cy")))
local macro_rules | `(tactic| walk_at "cy") => `(tactic| first
  | assumption
  | ((with_reducible refine' at_mono (H := ?H) ?s ?h); (case s => assumption); (case h => walk_at "cy"))
  | ((with_reducible refine' T2.mono (H := ?H) ?s ?h); (case s => assumption); (case h => walk_at "cy"))
  | ((with_reducible refine' PlAt.mono (H := ?H) ?s ?h); (case s => assumption); (case h => walk_at "cy"))
  | ((with_reducible refine' Pls.mono (H := ?H) ?s ?h); (case s => assumption); (case h => walk_at "cy"))
  | ((with_reducible refine' TbAt.mono (H := ?H) ?s ?h); (case s => assumption); (case h => walk_at "cy"))
  | ((with_reducible refine' Rws.mono (H := ?H) ?s ?h); (case s => assumption); (case h => walk_at "cy")))
local macro_rules | `(tactic| walk_at "rd") => `(tactic| repeat (first
  | walk_at "rd1"
  | (with_reducible refine' rd_chain ?_)
  | (with_reducible refine' rd_dget ?_)
  | (with_reducible refine' rd_tcells (by assumption) ?_)
  | (with_reducible refine' rd_tat (by assumption) ?_)
  | (with_reducible refine' rd_trest (by assumption) ?_)
  | (with_reducible refine' rd_slN ?_)
  | (with_reducible refine' rd_max ?_)
  | (with_reducible refine' rd_int ?_) | (with_reducible refine' rd_intb ?_)))
section
variable {P : Program} {w : World} {K : PySem.W.Frag} {mg : Str → Option Value} {base : Heap} {CP CB CT CE fI : Addr}
/-- what the suite that catches BadPlace asks of the text -/
structure BPs (K : PySem.W.Frag) (CE : Addr) : Prop where
  ex : ExcC K CE
  xf : XfC K CE
  te : PySem.W.exmOne K (.ref CE) (.ref CE) = some true
  ve : PySem.W.kitOne K (.ref CE) (.type "ValueError") = some true
  no : PySem.W.findIn K (.ref CE) "value" = some none
theorem roomH_mk {k : Nat} {A : Around} {h : Option Value} (r : Room k A) : RoomH k (A.mark h) := ⟨r.dp, r.un⟩
theorem pe_keptH {Y : Cx} {e : Expr} {es : List Expr} {t : TA} {q pos : Pos} (T : Txt Y.K Y.mg CP CB CT CE) (hr : RoomH 5 Y.A) (hc : PinC Y) (gd : Y.A.guards = some []) (hg : Gl Y "_law_kept_value") (ha : PA Y (e :: es) t)
    (h1 : starEach (e :: es) Y.env = (false, eval e Y.env) :: starEach es Y.env := by rfl) (h2 : (backTo pos (starEach es Y.env)).any (·.1) = false := by rfl) :
    PE Y (.Call (.Name "_law_kept_value" q) (e :: es) [] pos) (tCB (fun vs H Q => spKept Y.K CP CT vs H Q E0) t) where
  run := fun pins s σ H Q I h => by
    obtain ⟨f, fd, F, hm, b⟩ := T.f_law_kept_value
    have kp := F.kp
    obtain ⟨oc, od, kV, doc, pm, an, cdv, ct, osl, rfl, lk, hcd⟩ := F.ex
    refine wpAny_Call_Name_kw (ld_glob I hg hm (PySem.W.callWith_K (h₀ := Y.base) I.ok.mod.kin kp (thn (ha.run pos pins s σ H _ I h) fun us s1 ⟨vs, H1, I1, r, q⟩ => ⟨I1.kIn, ?_⟩) h1 h2) (by decide))
    obtain ⟨p, hp⟩ := hc.ok I1
    have hl : vs.length = 2 := by obtain ⟨y, rfl, _⟩ := q; rfl
    have b1 := b s1 us I1.kIn (by rw [List.append_nil, ← r.length]; exact hl)
    rw [List.append_nil] at b1
    exact call_endQ (E := E0) I1 (runH_at lk hcd sc__law_kept_value hr hp I1.env0 b1 r hl fun hr' => h_kept T hr' gd q)
abbrev s__law_place_refused : Stmt := top 68
def N__law_place_refused : List Str := ["_law_call", "_law_odd", "_law_found", "e"]
theorem sc__law_place_refused : FnScope ["_law_call", "_law_odd", "_law_found", "e"] ["_law_call", "_law_odd"] (defScope s__law_place_refused) := ⟨rfl, rfl, rfl, by decide +kernel, rfl, by decide +kernel, by decide +kernel⟩
/-- the reading of the error's suite -/
def t_suite (K : PySem.W.Frag) (CP CT CE : Addr) : Addr → Value → Option Addr → TS := fun a cls d =>
  tAsg (tAndV (tCB (rIsX K CE a cls d) (tCons (tVar 3) (tCons (tC (.ty "ValueError")) tNil))) (tCB (fun vs H Q => spKept K CP CT vs H Q E0) (tCons (tXf a cls d CE "value" (tVar 3)) (tCons (tVar 1) tNil)))) (gName 2)
theorem refused_body (T : Txt K mg CP CB CT CE) (B : BPx P K mg CE fI) (B' : BPs K CE) {f g : Addr} {F : LF} {fr : List Str} {ws : List (Option V)} {sp : List (Option V) → Hp → VK → XK → Prop} {cdv : Value} {A : Around} {outer : List Env} {s : Shared} {H : Hp} {y : V} {Q : VK} {E : XK}
    (lok : LOk P w K mg base (L2.CX P w) 10 f F fr sp) (C : NdefX.CellsAt F.cl fr ws s.heap H) (nf : ∀ y c, F.cl.lookup y = some c → c ∉ frs outer) (gd : A.guards = some [])
    (hr : Room 10 (A.deeper (PyProof.Rows.envOfC "_law_place_refused" (defScope s__law_place_refused) s.heap.objs.size g cdv))) (hf : H f = some (LmO f F)) (hc : H F.c = some (CodeO F.c F.qual))
    (hsp : ∀ Q E, (∀ d, H d = none → E (.ref CE) (some d) (upd H d (.xd [("value", y)]))) → sp ws H Q E) (hy : ∀ H', Same H H' → OddV K CP CT H' y) (h : ∀ H', Same H H' → Q (.bl true) H') :
    ∃ t, PSs (cxOf L2.CX0 P w K mg base N__law_place_refused "_law_place_refused" (defScope s__law_place_refused) g cdv A outer s H E).nox (defBody s__law_place_refused) t ∧ t { nx := fun _ H' => Q .non H', rt := Q } (L2.start N__law_place_refused [.ref f, y]) H := by
  refine ⟨_, pss_cons (ps_set (i := 2) sc__law_place_refused.nd rfl (.inl rfl) pe_bl) (pss_cons (ps_try_as (i := 3) (c := .ref CE) (ts := t_suite K CP CT CE) (tb := fun W D σ H1 => σ[0]? = some (some (.ref f)) ∧ H1 f = some (LmO f F) ∧ H1 F.c = some (CodeO F.c F.qual) ∧ sp ws H1 (fun _ H2 => D.nx σ H2) (WE W σ)) rfl rfl sc__law_place_refused.nd rfl rfl ⟨rfl, by decide, .inl B.gC⟩ L2.takes0 (fun W pn xe tk _ => ?_) (fun a oe cls d pn hz hfl => ?_)) (pss_one (ps_ret (pv 2)))), ?_⟩
  · exact pss_one (ps_expr (pe_lcall (i := 0) (E := fun σ => WE W σ) lok C nf rfl hr (fun σ => passAt tk σ) rfl (.inl rfl)))
  · refine pss_one (ps_set (i := 2) sc__law_place_refused.nd rfl (.inl rfl) (pe_and (pe_callB (call_isX B'.ex hz hfl) (by rfl) T.n_isinstance (by decide +kernel) (pa_cons (pv 3) (pa_cons (pe_bltn (v := .ty "ValueError") (by rfl) T.n_ValueError (by decide +kernel) rfl) pa_nil)))
      (pe_one (pe_keptH T ?_ ⟨_, List.mem_cons_self⟩ gd rfl (pa_cons (pe_xf B'.xf B'.no hz hfl (pv 3)) (pa_cons (pv 1) pa_nil))))))
    exact roomH_mk (hr.mono (by decide))
  · refine ⟨rfl, hf, hc, hsp _ _ fun d nd => ?_⟩
    have s1 : Same H (upd H d (.xd [("value", y)])) := same_new nd
    refine ⟨true, B'.te, fun _ a na => ?_, fun z => nomatch z⟩
    show t_suite K CP CT CE a (.ref CE) (some d) _ [some (.ref f), some y, some (.bl false), some (.ref a)] _
    refine rd_asg ?_
    walk_at "rd"
    refine ⟨d, .ty "ValueError", .type "ValueError", true, _, rfl, rfl, rfl, fun u r => r, B'.ve, upd_same, ?_⟩
    walk_at "rd"
    refine ⟨_, rfl, rfl, rfl, d, _, y, rfl, upd_same, lk_hit, ?_⟩
    walk_at "rd"
    refine ⟨y, rfl, hy _ s1, fun H' s2 => ?_⟩
    show tRet (tVar 2) _ [some (.ref f), some y, some (.bl true), none] H'
    walk_at "rd"
    exact h H' (s1.trans s2)
/-- the reading of a call of _law_place_refused -/
def tRefd (P : Program) (w : World) (K : PySem.W.Frag) (mg : Str → Option Value) (base : Heap) (CP CT CE : Addr) (mk : L2.St → LF → List Str → List (Option V) → Prop) (t : TA) : TE := fun σ H Q => t σ H fun vs H1 => ∃ (f : Addr) (F : LF) (fr : List Str) (ws : List (Option V)) (y : V) (sp : List (Option V) → Hp → VK → XK → Prop), vs = [.ref f, y] ∧ mk σ F fr ws ∧ LOk P w K mg base (L2.CX P w) 10 f F fr sp ∧ H1 f = some (LmO f F) ∧ H1 F.c = some (CodeO F.c F.qual) ∧
  (∀ Q E, (∀ d, H1 d = none → E (.ref CE) (some d) (upd H1 d (.xd [("value", y)]))) → sp ws H1 Q E) ∧ (∀ H', Same H1 H' → OddV K CP CT H' y) ∧ ∀ H', Same H1 H' → Q (.bl true) H'
theorem pe_refd {Y : Cx} {mk : L2.St → LF → List Str → List (Option V) → Prop} {e : Expr} {es : List Expr} {t : TA} {q pos : Pos} (T : Txt Y.K Y.mg CP CB CT CE) (B : BPx Y.prog Y.K Y.mg CE fI) (B' : BPs Y.K CE) (hr : Room 11 Y.A) (gd : Y.A.guards = some []) (hg : Gl Y "_law_place_refused")
    (hC : ∀ (pins : List (Addr × Obj)) (σ : L2.St) (H : Hp) (s : Shared) (H0 : Hp) (s0 : Shared) (F : LF) (fr : List Str) (ws : List (Option V)), Inv Y pins σ H0 s0 → Inv Y pins σ H s → mk σ F fr ws → NdefX.CellsAt F.cl fr ws s.heap H ∧ ∀ y c, F.cl.lookup y = some c → c ∉ frs Y.stack) (ha : PA Y (e :: es) t)
    (h1 : starEach (e :: es) Y.env = (false, eval e Y.env) :: starEach es Y.env := by rfl) (h2 : (backTo pos (starEach es Y.env)).any (·.1) = false := by rfl) :
    PE Y (.Call (.Name "_law_place_refused" q) (e :: es) [] pos) (tRefd Y.prog Y.w Y.K Y.mg Y.base CP CT CE mk t) where
  run := fun pins s σ H Q I h => by
    obtain ⟨g, fd, F1, hm, b⟩ := T.f_law_place_refused
    have kp := F1.kp
    obtain ⟨oc, od, kV, doc, pm, an, cdv, ct, osl, rfl, lk, hcd⟩ := F1.ex
    refine wpAny_Call_Name_kw (ld_glob I hg hm (PySem.W.callWith_K (h₀ := Y.base) I.ok.mod.kin kp (thn (ha.run pos pins s σ H _ I h) fun us s1 ⟨vs, H1, I1, r, f, F, fr, ws, y, sp, ev, hmk, lok, hf, hc, hsp, hy, hq⟩ => ⟨I1.kIn, ?_⟩) h1 h2) (by decide))
    subst ev
    obtain ⟨C, nf⟩ := hC _ _ _ _ _ _ _ _ _ I I1 hmk
    have b1 := b s1 us I1.kIn (by rw [List.append_nil, ← r.length]; rfl)
    rw [List.append_nil] at b1
    refine call_endQ (E := E0) I1 (run_ofS lk hcd sc__law_place_refused hr I1.env0 b1 r rfl fun hr' => ?_)
    obtain ⟨t', ht', hq'⟩ := refused_body (w := Y.w) (base := Y.base) (Q := Q) (E := E0) T B B' lok C nf gd hr' hf hc hsp hy hq
    exact ⟨t', ht'.nox, hq'⟩
end
end Wk
namespace Wk
set_option linter.all false
set_option maxRecDepth 100000
set_option maxHeartbeats 1000000
open PySem PySem.Spec PyProof.Rows L2 L2H LamX
section
variable {X : Cx}
/-- [elt for target in iter] where the element's rule may use what is known of the state at the block's start -/
theorem pe_lcI {elt tg iter : Expr} {scope : Scope} {own : List (Str × Nat)} {pos : Pos} {wi : TI} {g : TG} {te : L2.St → TE} (calm : X.calm = true) (nd : X.N.Nodup) (hi : PI X tg iter wi) (ok : BlkOk X.N X.env.scope scope own)
    (hg : ∀ (z : Shared) (J : Hp) (C : Addr) (cl : List (Str × Addr)) (fp : List Addr), PG (X.blk z J scope (compEnvC scope cl C X.env) fp) tg g)
    (he : ∀ (pins : List (Addr × Obj)) (σ : L2.St) (z : Shared) (J : Hp) (C : Addr) (cl : List (Str × Addr)) (fp : List Addr), Inv X pins σ J z → (∀ b ∈ fp, FpOk X pins J b) → PE (X.blk z J scope (compEnvC scope cl C X.env) fp) elt (te σ))
    (hs : ∀ x, foldedSetIterable iter X.env x = pure x := by intro _; rfl) :
    PE X (.ListComp elt [⟨tg, iter, [], 0⟩] scope pos) (fun σ H Q => tLc wi g tYes (te σ) (own.map (·.2)) σ H Q) := by
  refine ⟨fun pins s σ H Q I h => ?_⟩
  rw [eval_ListComp]
  have free : ∀ y ∈ scope.names, y.2 = .free → ∃ c, X.env.cells.lookup y.1 = some c := fun y hy e => (ok.free y hy e).elim (fun k => I.ok.has _ (.inl k)) fun k => I.ok.has _ (.inr k)
  refine wpAny_comprehension_free (use := none) rfl hs (closure_ok free) ok.kind (fun y hy e => by rw [ok.uniq y hy, e]) (thn (hi.run pins s σ H _ I h) fun xv r1 hx => thn hx fun itv r2 ⟨it, fp, tn, J, H2, eit, I2, T, t2, f2, q⟩ => ?_)
  subst eit
  refine wpAny_newObj_type (newEnv_comp ?_) (show 0 ≤ sizeLine by decide)
  obtain ⟨D, hD⟩ : ∃ D, D = r2.heap.objs.size := ⟨_, rfl⟩
  rw [← hD]
  obtain ⟨W, ⟨m0, w0⟩, turn⟩ := q D (I2.hok.fresh (Nat.le_of_eq hD.symm))
  obtain ⟨r3, e3⟩ : ∃ r3 : Shared, r3 = { r2 with heap := r2.heap.push { cls := .type "list", data := .seq ([] : List Value).toArray } } := ⟨_, rfl⟩
  have hp3 : r3.heap = r2.heap.push { cls := .type "list", data := .seq ([] : List Value).toArray } := by rw [e3]
  have I3 : Inv X pins σ (upd H2 D (.lst [])) r3 := by
    subst e3
    exact I2.laid (t' := r2.toks) (fun b o e => Heap.get?_push_of_some _ e) (Nat.le_of_eq hD.symm) ⟨Nat.zero_le _, [], 0, .nil, by rw [hD]; exact Heap.get?_push_size _ rfl⟩
  have f3 : ∀ b ∈ fp, FpOk X pins (upd H2 D (.lst [])) b ∧ b < r3.heap.objs.size := fun b hb => by
    obtain ⟨o, e, _⟩ := T.obj _ _ t2 b hb
    have lt := Heap.lt_size e
    exact ⟨⟨by rw [upd_ne (by rw [hD]; exact Nat.ne_of_lt lt)]; exact (f2 b hb).1, (f2 b hb).2⟩, by rw [hp3, Heap.size_push]; exact Nat.lt_succ_of_lt lt⟩
  have t3 : tn 0 r3.heap := T.keep _ _ _ t2 fun b _ o e => hp3 ▸ Heap.get?_push_of_some _ e
  have I4 := block_start I3 ok nd f3
  obtain ⟨cl, ecl⟩ : ∃ cl, cl = cellsFrom (r3.heap.objs.size + 1) scope.names (cloFrom X.env.cells scope.names []) := ⟨_, rfl⟩
  rw [← ecl] at I4
  have pg := hg r3 (upd H2 D (.lst [])) r3.heap.objs.size cl fp
  have pe := he pins σ r3 (upd H2 D (.lst [])) r3.heap.objs.size cl fp I3 fun b hb => (f3 b hb).1
  have nfp : ∀ b ∈ fp, (upd H2 D (.lst [])) b = none := fun b hb => (f3 b hb).1.1
  obtain ⟨ce, ece⟩ : ∃ ce, ce = compEnvC scope cl r3.heap.objs.size X.env := ⟨_, rfl⟩
  have cL : ce.locals = r3.heap.objs.size := by rw [ece]; rfl
  rw [← ece] at I4 pg pe
  obtain ⟨H3, eH3⟩ : ∃ H3, H3 = upd H2 D (.lst []) := ⟨_, rfl⟩
  rw [← eH3] at I3 I4 pg pe w0 nfp f3
  obtain ⟨r4, e4⟩ : ∃ r4 : Shared, r4 = { r3 with heap := pushCells (r3.heap.push { cls := .type "dict", data := .dict #[] }) scope.names } := ⟨_, rfl⟩
  have t4 : tn 0 r4.heap := T.keep _ _ _ t3 fun b _ o e => by rw [e4]; exact pushCells_keeps _ _ _ _ (Heap.get?_push_of_some _ e)
  rw [← e4] at I4
  obtain ⟨Z, eZ⟩ : ∃ Z, Z = X.blk r3 H3 scope ce fp := ⟨_, rfl⟩
  rw [← eZ] at I4 pg pe
  have still : ∀ {σ' : L2.St} {H' : Hp} {z : Shared}, Inv Z [] σ' H' z → (∀ b ∈ fp, H' b = none) → ∀ b ∈ fp, FpOk Z [] H' b := fun {σ' H' z} I' hn b hb => by
    subst eZ
    exact ⟨hn b hb, (I'.ok.exf b hb).1, I'.ok.exfs b hb, .inl hb, fun x c e => (I'.ok.exf b hb).2 x c e, fun p hp => absurd (show p ∈ ([] : List (Addr × Obj)) ++ [] from hp) (by simp)⟩
  have zprog : Z.prog = X.prog ∧ Z.w = X.w ∧ Z.K = X.K ∧ Z.calm = true := by rw [eZ]; exact ⟨rfl, rfl, rfl, calm⟩
  suffices hh : codeAny (model X.prog X.w) X.A (.compStart (.ListComp elt [⟨tg, iter, [], 0⟩] scope pos) 0 (.ref it) (.ref D) ce) (compPost (model X.prog X.w) X.A X.xe none (EP X pins σ Q) (.ref D) r3.heap.objs.size) r4 by
    subst ece
    subst e4
    subst ecl
    subst e3
    exact hh
  have loop : codeAny (model X.prog X.w) X.A (.compLoop (.ListComp elt [⟨tg, iter, [], 0⟩] scope pos) 0 (.ref it) (.ref D) ce) (compPost (model X.prog X.w) X.A X.xe none (EP X pins σ Q) (.ref D) r3.heap.objs.size) r4 := by
    refine compLoop_any (fun n z => ∃ i H', Inv Z [] (wipe σ (own.map (·.2))) H' z ∧ tn i z.heap ∧ (∀ b ∈ fp, H' b = none) ∧ W i n H') ?_ m0 ⟨0, H3, I4, t4, nfp, w0⟩
    rintro n z5 ⟨i, H5, I5, t5, n5, w5⟩
    have zA : Z.A = X.A ∧ Z.env = ce ∧ Z.xe = fun _ _ => False := by rw [eZ]; exact ⟨rfl, rfl, rfl⟩
    rcases turn i n H5 w5 with ⟨stop, done⟩ | ⟨go, Nx, hNx, step⟩
    · have td := T.done Z zprog.1 zprog.2.1 zprog.2.2.1 zprog.2.2.2 i [] z5 _ H5 (fun _ _ => False) I5 (still I5 n5) t5 stop
      rw [zA.1] at td
      refine thnF td fun r z6 ⟨hr, I6⟩ => ?_
      subst hr
      -- behind the last turn the def's own context stands again
      subst eZ
      have I7 : Inv X pins σ H5 z6 := I3.call' (ch := fp) I6.os I6.base I6.hok I6.bare fun b hb => let f := (f3 b hb).1; ⟨f.2.2.2.1, f.2.1, f.2.2.2.2.1, f.2.2.2.2.2⟩
      obtain ⟨mm, hn, _⟩ := I6.loc
      have nC := I6.free
      rw [show (X.blk r3 H3 scope ce fp).env.locals = r3.heap.objs.size from cL] at hn nC
      obtain ⟨g0, g1, g2, g3, g4, g5⟩ := I3.fpOk (Nat.le_refl _) nC
      exact ⟨mm, hn, fun h'' sb => ⟨.ref D, H5, I7.turned (t' := z6.toks) (fun b o hb e => (sb.2 b hb).trans e) g0 g1 g3 g4 g5, rfl, done⟩⟩
    · have ti := T.item Z zprog.1 zprog.2.1 zprog.2.2.1 zprog.2.2.2 i [] z5 _ H5 (fun _ _ => False) I5 (still I5 n5) t5 go
      rw [zA.1] at ti
      refine thnF ti fun r z6 ⟨u, hr, h6⟩ => ?_
      subst hr
      refine thnF h6 fun _ z7 ⟨x, H7, I7, r7, y7, t7, n7⟩ => ?_
      have I7' := I7.pinned (still I7 n7) (T.obj _ _ t7)
      subst eZ
      refine thnF (pg.run _ z7 _ H7 x u _ I7' r7 (step x H7 y7)) fun _ z8 ⟨σ8, H8, I8, hw8, q8⟩ => ?_
      refine wpAny_tests_nil ?_
      simp only [if_true]
      refine thnF (pe.run _ z8 σ8 H8 _ I8 q8) fun z zz ⟨yv, HA, IA, rA, acc, hDA, hzA, nx⟩ => ?_
      refine app_ok (X := X.blk r3 H3 scope ce fp) IA hDA hzA rA fun zz2 IB => ?_
      obtain ⟨m', hm, w'⟩ := hNx _ nx
      have pin' : ∀ b ∈ fp, ∀ o, z7.heap.get? b = some o → zz2.heap.get? b = some o ∧ upd HA D (.lst (acc ++ [yv])) b = none := fun b hb o e =>
        let k := IB.pin (b, o) (List.mem_append_right _ (List.mem_append_right _ (mem_pinsAt hb e)))
        ⟨k.1, k.2.1⟩
      refine ⟨m', hm, i + 1, _, (IB.unpinned (pins := [])).weak (by rw [← hw8, wipe_length]) (fun j v e => ?_), T.keep _ _ _ t7 fun b hb o e => (pin' b hb o e).1, fun b hb => ?_, w'⟩
      · rw [← hw8] at e
        exact (wipe_some e).1
      · obtain ⟨o, e, _⟩ := T.obj _ _ t7 b hb
        exact (pin' b hb o e).2
  exact codeAny_compStart_list loop (T.self X.A 0 _ _ _ t4 loop)
end
end Wk
namespace Wk
set_option linter.all false
set_option maxRecDepth 100000
set_option maxHeartbeats 1000000
open PySem L2 L2H LamX
local macro_rules | `(tactic| walk_at "cy") => `(tactic| first
  | assumption
  | ((with_reducible refine' at_mono (H := ?H) ?s ?h); (case s => assumption); (case h => walk_at "cy"))
  | ((with_reducible refine' PlAt.mono (H := ?H) ?s ?h); (case s => assumption); (case h => walk_at "cy")))
local macro_rules | `(tactic| walk_at "rd1") => `(tactic| first
  | (with_reducible refine' rd_seq ?_) | (with_reducible refine' rd_asg ?_) | (with_reducible refine' rd_par ?_) | (with_reducible refine' rd_ret ?_)
  | (with_reducible refine' rd_ifs ?_) | (with_reducible refine' rd_drop ?_) | (with_reducible refine' rd_next ?_) | (with_reducible refine' rd_asgG ?_)
  | ((with_reducible refine' rd_var (v := ?v) ?e ?h); (case e => exact rfl)) | (with_reducible refine' rd_c ?_) | (with_reducible refine' rd_op ?_) | (with_reducible refine' rd_un ?_)
  | (with_reducible refine' rd_cb ?_) | (with_reducible refine' rd_cons ?_) | (with_reducible refine' rd_nil ?_)
  | (with_reducible refine' rd_I0 ?_) | (with_reducible refine' rd_U ?_) | (with_reducible refine' rd_eqI ?_) | (with_reducible refine' rd_neI ?_)
  | (with_reducible refine' rd_test ?_) | (with_reducible refine' rd_bl ?_) | (with_reducible refine' rd_not ?_) | (with_reducible refine' rd_and ?_) | (with_reducible refine' rd_or ?_)
  | (with_reducible refine' rd_t ?_) | (with_reducible refine' rd_f ?_) | (with_reducible refine' rd_nt ?_) | (with_reducible refine' rd_nf ?_)
  | (with_reducible refine' rd_andV ?_) | (with_reducible refine' rd_orV ?_) | (with_reducible refine' rd_notV ?_) | (with_reducible refine' rd_B ?_) | (with_reducible refine' rd_forR1 ?_) | (with_reducible refine' rd_forR2 ?_) | (with_reducible refine' rd_for ?_) | (with_reducible refine' rd_iT ?_) | (with_reducible refine' rd_iL ?_) | (with_reducible refine' rd_lc ?_)
  | (with_reducible refine' rd_if ?_) | (with_reducible refine' rd_isNr ?_) | (with_reducible refine' rd_isN0 ?_) | (with_reducible refine' rd_notNr ?_) | (with_reducible refine' rd_notN0 ?_) | (with_reducible refine' rd_abs ?_) | ((with_reducible refine' rd_lenL (xs := ?xs) ?f ?h); (case f => walk_at "cy")) | ((with_reducible refine' rd_lenT (xs := ?xs) ?f ?h); (case f => walk_at "cy")) | (with_reducible refine' rd_mt ?_) | (with_reducible refine' rd_bm ?_) | (with_reducible refine' rd_tru ?_) | (with_reducible refine' rd_truInt ?_) | (with_reducible refine' rd_fld ?_)
  | ((with_reducible refine' rd_ixT (xs := ?xs) (v := ?v) ?f ?e ?h); (case f => walk_at "cy"); (case e => exact rfl))
  | ((with_reducible refine' rd_ixL (xs := ?xs) (v := ?v) ?f ?e ?h); (case f => walk_at "cy"); (case e => exact rfl))
  | ((with_reducible refine' rd_gtup (xs := ?xs) ?f ?e ?h); (case f => walk_at "cy"); (case e => exact rfl))
  | (with_reducible refine' rd_gcons ?_) | (with_reducible refine' rd_gnil ?_) | (with_reducible refine' rd_gname ?_))
local macro_rules | `(tactic| walk_at "rd") => `(tactic| repeat walk_at "rd1")
local macro_rules | `(tactic| walk_at "cy") => `(tactic| first
  | assumption
  | ((with_reducible refine' at_mono (H := ?H) ?s ?h); (case s => assumption); (case h => walk_at "cy"))
  | ((with_reducible refine' T2.mono (H := ?H) ?s ?h); (case s => assumption); (case h => walk_at "cy"))
  | ((with_reducible refine' PlAt.mono (H := ?H) ?s ?h); (case s => assumption); (case h => walk_at "cy"))
  | ((with_reducible refine' Pls.mono (H := ?H) ?s ?h); (case s => assumption); (case h => walk_at "cy")))
local macro_rules | `(tactic| walk_at "cy") => `(tactic| first
  | assumption
  | ((with_reducible refine' at_mono (H := ?H) ?s ?h); (case s => assumption); (case h => walk_at "cy"))
  | ((with_reducible refine' T2.mono (H := ?H) ?s ?h); (case s => assumption); (case h => walk_at "cy"))
  | ((with_reducible refine' PlAt.mono (H := ?H) ?s ?h); (case s => assumption); (case h => walk_at "cy"))
  | ((with_reducible refine' Pls.mono (H := ?H) ?s ?h); (case s => assumption); (case h => walk_at "cy"))
  | ((with_reducible refine' TbAt.mono (H := ?H) ?s ?h); (case s => assumption); (case h => walk_at "cy"))
  | ((with_reducible refine' Rws.mono (H := ?H) ?s ?h); (case s => assumption); (case h => walk_at "cy")))
local macro_rules | `(tactic| walk_at "rd") => `(tactic| repeat (first
  | walk_at "rd1"
  | (with_reducible refine' rd_chain ?_)
  | (with_reducible refine' rd_dget ?_)
  | (with_reducible refine' rd_tcells (by assumption) ?_)
  | (with_reducible refine' rd_tat (by assumption) ?_)
  | (with_reducible refine' rd_trest (by assumption) ?_)
  | (with_reducible refine' rd_slN ?_)
  | (with_reducible refine' rd_max ?_)
  | (with_reducible refine' rd_int ?_) | (with_reducible refine' rd_intb ?_)))
def lamArgs : Expr → Arguments
  | .Lambda a _ _ _ => a
  | _ => defArgs (top 73)
def lamBody : Expr → Expr
  | .Lambda _ b _ _ => b
  | e => e
def lamScope : Expr → Scope
  | .Lambda _ _ s _ => s
  | _ => defScope (top 73)
def lamPos : Expr → Pos
  | .Lambda _ _ _ p => p
  | _ => ⟨0, 0, 0, 0⟩
def lamE (i : Nat) : Expr := if i = 3 then (match (defBody (top 73)).getD 2 (.Pass ⟨0, 0, 0, 0⟩) with
    | .Return (some (.Call _ (e :: _) _ _)) _ => e
    | _ => .Name "x" ⟨0, 0, 0, 0⟩)
  else match (defBody (top 73)).getD 0 (.Pass ⟨0, 0, 0, 0⟩) with
    | .Assign _ (.List es _) _ => es.getD i (.Name "x" ⟨0, 0, 0, 0⟩)
    | _ => .Name "x" ⟨0, 0, 0, 0⟩
def LF.of (qual : Str) (cells : List (Str × Addr)) (e : Expr) (c : Addr) : LF := ⟨qual, lamArgs e, lamBody e, lamScope e, cloFrom cells (lamScope e).names [], c⟩
theorem pe_lambE {X : Cx} {T : List (Addr × Str)} {c P : Addr} {e : Expr} (he : e = .Lambda (lamArgs e) (lamBody e) (lamScope e) (lamPos e)) (TB : TabB X.base X.mg c P) (hcode : X.env.code = .ref c) (hm : (P, X.env.qual ++ "<lambda>") ∈ T) (hu : ∀ p ∈ T, p.1 = P → p.2 = X.env.qual ++ "<lambda>")
    (L : LamS X.env.scope (lamScope e)) (hdef : defaultsOf (lamArgs e) X.env = ([], [])) : PE X e (tLamb T (LF.of (X.env.qual ++ "<lambda>") X.env.cells e)) := by
  have q := pe_lamb (body := lamBody e) (pos := lamPos e) TB hcode hm hu L hdef
  rw [← he] at q
  exact q
section
variable {P : Program} {w : World} {K : PySem.W.Frag} {mg : Str → Option Value} {base : Heap} {CP CB CT CE fI : Addr}
def fr0 : List Str := ["_law_odd"]
def fr1 : List Str := ["_law_odd", "_law_other", "_law_near"]
def fr2 : List Str := ["_law_table", "_law_odd", "_law_near"]
def fr3 : List Str := ["_law_table", "_law_other", "_law_near"]
def spL0 (K : PySem.W.Frag) (CP CT CE : Addr) : List (Option V) → Hp → VK → XK → Prop := fun ws H Q E => ∃ x, ws = [some x] ∧ spProdX K CP CT CE [x, .non, .non] H Q E
def spL3 (K : PySem.W.Frag) (CP CT CE : Addr) : List (Option V) → Hp → VK → XK → Prop := fun ws H Q E => ∃ x y z, ws = [some x, some y, some z] ∧ spProdX K CP CT CE [x, y, z] H Q E
theorem lam_bind {i : Nat} (hi : i < 4) (q : Str) (cl : List (Str × Addr)) (pm cv ctv : Value) : bindArgs (PySem.W.kla_fn "<lambda>" q (lamArgs (lamE i)) (lamBody (lamE i)) (lamScope (lamE i)) cl pm cv ctv) ⟨[], []⟩ = pure [] := by
  match i, hi with
  | 0, _ => rfl
  | 1, _ => rfl
  | 2, _ => rfl
  | 3, _ => rfl
theorem lok0 (T : Txt K mg CP CB CT CE) (B : BPx P K mg CE fI) {qual : Str} {cells : List (Str × Addr)} {f c : Addr} : LOk P w K mg base (L2.CX P w) 10 f (LF.of qual cells (lamE 0) c) fr0 (spL0 K CP CT CE) := by
  have x_in_product := x_in_product (w := w) (base := base) T B
  refine lok_of (N := fr0) (show NdefX.NScope fr0 [] fr0 (lamScope (lamE 0)) from NdefX.nscope_by (by decide +kernel)) (lam_bind (by decide) _ _) fun A outer s H ws Q E hr hl ⟨x, e, h⟩ => ?_
  subst e
  refine ⟨_, (calS x_in_product (passes_call (takes_of rfl rfl rfl rfl) (fun _ _ _ _ h => h)) hr (by decide) (by rfl) (pa_cons (pe_var (i := 0) rfl (.inr (.inr rfl))) (pa_cons pe_non (pa_cons pe_non pa_nil)))), ?_⟩
  walk_at "rd"
  exact h
theorem lok1 (T : Txt K mg CP CB CT CE) (B : BPx P K mg CE fI) {qual : Str} {cells : List (Str × Addr)} {f c : Addr} : LOk P w K mg base (L2.CX P w) 10 f (LF.of qual cells (lamE 1) c) fr1 (spL3 K CP CT CE) := by
  have x_in_product := x_in_product (w := w) (base := base) T B
  refine lok_of (N := fr1) (show NdefX.NScope fr1 [] fr1 (lamScope (lamE 1)) from NdefX.nscope_by (by decide +kernel)) (lam_bind (by decide) _ _) fun A outer s H ws Q E hr hl ⟨x, y, z, e, h⟩ => ?_
  subst e
  refine ⟨_, (calS x_in_product (passes_call (takes_of rfl rfl rfl rfl) (fun _ _ _ _ h => h)) hr (by decide) (by rfl) (pa_cons (pe_var (i := 0) rfl (.inr (.inr rfl))) (pa_cons (pe_var (i := 1) rfl (.inr (.inr rfl))) (pa_cons (pe_var (i := 2) rfl (.inr (.inr rfl))) pa_nil)))), ?_⟩
  walk_at "rd"
  exact h
theorem lok2 (T : Txt K mg CP CB CT CE) (B : BPx P K mg CE fI) {qual : Str} {cells : List (Str × Addr)} {f c : Addr} : LOk P w K mg base (L2.CX P w) 10 f (LF.of qual cells (lamE 2) c) fr2 (spL3 K CP CT CE) := by
  have x_in_product := x_in_product (w := w) (base := base) T B
  refine lok_of (N := fr2) (show NdefX.NScope fr2 [] fr2 (lamScope (lamE 2)) from NdefX.nscope_by (by decide +kernel)) (lam_bind (by decide) _ _) fun A outer s H ws Q E hr hl ⟨x, y, z, e, h⟩ => ?_
  subst e
  refine ⟨_, (calS x_in_product (passes_call (takes_of rfl rfl rfl rfl) (fun _ _ _ _ h => h)) hr (by decide) (by rfl) (pa_cons (pe_var (i := 0) rfl (.inr (.inr rfl))) (pa_cons (pe_var (i := 1) rfl (.inr (.inr rfl))) (pa_cons (pe_var (i := 2) rfl (.inr (.inr rfl))) pa_nil)))), ?_⟩
  walk_at "rd"
  exact h
theorem lok3 (T : Txt K mg CP CB CT CE) (B : BPx P K mg CE fI) {qual : Str} {cells : List (Str × Addr)} {f c : Addr} : LOk P w K mg base (L2.CX P w) 10 f (LF.of qual cells (lamE 3) c) fr3 (spL3 K CP CT CE) := by
  have x_in_product := x_in_product (w := w) (base := base) T B
  refine lok_of (N := fr3) (show NdefX.NScope fr3 [] fr3 (lamScope (lamE 3)) from NdefX.nscope_by (by decide +kernel)) (lam_bind (by decide) _ _) fun A outer s H ws Q E hr hl ⟨x, y, z, e, h⟩ => ?_
  subst e
  refine ⟨_, (calS x_in_product (passes_call (takes_of rfl rfl rfl rfl) (fun _ _ _ _ h => h)) hr (by decide) (by rfl) (pa_cons (pe_var (i := 0) rfl (.inr (.inr rfl))) (pa_cons (pe_var (i := 1) rfl (.inr (.inr rfl))) (pa_cons (pe_var (i := 2) rfl (.inr (.inr rfl))) pa_nil)))), ?_⟩
  walk_at "rd"
  exact h
end
end Wk
namespace Wk
set_option linter.all false
set_option maxRecDepth 100000
set_option maxHeartbeats 1000000
open PySem L2 L2H LamX
local macro_rules | `(tactic| walk_at "cy") => `(tactic| first
  | assumption
  | ((with_reducible refine' at_mono (H := ?H) ?s ?h); (case s => assumption); (case h => walk_at "cy"))
  | ((with_reducible refine' PlAt.mono (H := ?H) ?s ?h); (case s => assumption); (case h => walk_at "cy")))
local macro_rules | `(tactic| walk_at "rd1") => `(tactic| first
  | (with_reducible refine' rd_seq ?_) | (with_reducible refine' rd_asg ?_) | (with_reducible refine' rd_par ?_) | (with_reducible refine' rd_ret ?_)
  | (with_reducible refine' rd_ifs ?_) | (with_reducible refine' rd_drop ?_) | (with_reducible refine' rd_next ?_) | (with_reducible refine' rd_asgG ?_)
  | ((with_reducible refine' rd_var (v := ?v) ?e ?h); (case e => exact rfl)) | (with_reducible refine' rd_c ?_) | (with_reducible refine' rd_op ?_) | (with_reducible refine' rd_un ?_)
  | (with_reducible refine' rd_cb ?_) | (with_reducible refine' rd_cons ?_) | (with_reducible refine' rd_nil ?_)
  | (with_reducible refine' rd_I0 ?_) | (with_reducible refine' rd_U ?_) | (with_reducible refine' rd_eqI ?_) | (with_reducible refine' rd_neI ?_)
  | (with_reducible refine' rd_test ?_) | (with_reducible refine' rd_bl ?_) | (with_reducible refine' rd_not ?_) | (with_reducible refine' rd_and ?_) | (with_reducible refine' rd_or ?_)
  | (with_reducible refine' rd_t ?_) | (with_reducible refine' rd_f ?_) | (with_reducible refine' rd_nt ?_) | (with_reducible refine' rd_nf ?_)
  | (with_reducible refine' rd_andV ?_) | (with_reducible refine' rd_orV ?_) | (with_reducible refine' rd_notV ?_) | (with_reducible refine' rd_B ?_) | (with_reducible refine' rd_forR1 ?_) | (with_reducible refine' rd_forR2 ?_) | (with_reducible refine' rd_for ?_) | (with_reducible refine' rd_iT ?_) | (with_reducible refine' rd_iL ?_) | (with_reducible refine' rd_lc ?_)
  | (with_reducible refine' rd_if ?_) | (with_reducible refine' rd_isNr ?_) | (with_reducible refine' rd_isN0 ?_) | (with_reducible refine' rd_notNr ?_) | (with_reducible refine' rd_notN0 ?_) | (with_reducible refine' rd_abs ?_) | ((with_reducible refine' rd_lenL (xs := ?xs) ?f ?h); (case f => walk_at "cy")) | ((with_reducible refine' rd_lenT (xs := ?xs) ?f ?h); (case f => walk_at "cy")) | (with_reducible refine' rd_mt ?_) | (with_reducible refine' rd_bm ?_) | (with_reducible refine' rd_tru ?_) | (with_reducible refine' rd_truInt ?_) | (with_reducible refine' rd_fld ?_)
  | ((with_reducible refine' rd_ixT (xs := ?xs) (v := ?v) ?f ?e ?h); (case f => walk_at "cy"); (case e => exact rfl))
  | ((with_reducible refine' rd_ixL (xs := ?xs) (v := ?v) ?f ?e ?h); (case f => walk_at "cy"); (case e => exact rfl))
  | ((with_reducible refine' rd_gtup (xs := ?xs) ?f ?e ?h); (case f => walk_at "cy"); (case e => exact rfl))
  | (with_reducible refine' rd_gcons ?_) | (with_reducible refine' rd_gnil ?_) | (with_reducible refine' rd_gname ?_))
local macro_rules | `(tactic| walk_at "rd") => `(tactic| repeat walk_at "rd1")
local macro_rules | `(tactic| walk_at "cy") => `(tactic| first
  | assumption
  | ((with_reducible refine' at_mono (H := ?H) ?s ?h); (case s => assumption); (case h => walk_at "cy"))
  | ((with_reducible refine' T2.mono (H := ?H) ?s ?h); (case s => assumption); (case h => walk_at "cy"))
  | ((with_reducible refine' PlAt.mono (H := ?H) ?s ?h); (case s => assumption); (case h => walk_at "cy"))
  | ((with_reducible refine' Pls.mono (H := ?H) ?s ?h); (case s => assumption); (case h => walk_at "cy")))
local macro_rules | `(tactic| walk_at "cy") => `(tactic| first
  | assumption
  | ((with_reducible refine' at_mono (H := ?H) ?s ?h); (case s => assumption); (case h => walk_at "cy"))
  | ((with_reducible refine' T2.mono (H := ?H) ?s ?h); (case s => assumption); (case h => walk_at "cy"))
  | ((with_reducible refine' PlAt.mono (H := ?H) ?s ?h); (case s => assumption); (case h => walk_at "cy"))
  | ((with_reducible refine' Pls.mono (H := ?H) ?s ?h); (case s => assumption); (case h => walk_at "cy"))
  | ((with_reducible refine' TbAt.mono (H := ?H) ?s ?h); (case s => assumption); (case h => walk_at "cy"))
  | ((with_reducible refine' Rws.mono (H := ?H) ?s ?h); (case s => assumption); (case h => walk_at "cy")))
local macro_rules | `(tactic| walk_at "rd") => `(tactic| repeat (first
  | walk_at "rd1"
  | (with_reducible refine' rd_chain ?_)
  | (with_reducible refine' rd_dget ?_)
  | (with_reducible refine' rd_tcells (by assumption) ?_)
  | (with_reducible refine' rd_tat (by assumption) ?_)
  | (with_reducible refine' rd_trest (by assumption) ?_)
  | (with_reducible refine' rd_slN ?_)
  | (with_reducible refine' rd_max ?_)
  | (with_reducible refine' rd_int ?_) | (with_reducible refine' rd_intb ?_)))
def frOf : Nat → List Str
  | 0 => fr0
  | 1 => fr1
  | 2 => fr2
  | _ => fr3
def jsOf : Nat → List Nat
  | 0 => [2]
  | 1 => [2, 1, 3]
  | 2 => [0, 2, 3]
  | _ => [0, 1, 3]
/-- a lambda of the def, and what its cells hold -/
def MkD (q : Str) (cells : List (Str × Addr)) (σ : L2.St) (F : LF) (fr : List Str) (ws : List (Option V)) : Prop := ∃ i c', i < 4 ∧ F = LF.of q cells (lamE i) c' ∧ fr = frOf i ∧ ws = (jsOf i).map (NdefX.slotAt σ)
abbrev s__law_denied_right : Stmt := top 73
def N__law_denied_right : List Str := ["_law_table", "_law_other", "_law_odd", "_law_near", "_law_calls", "_law_call"]
theorem sc__law_denied_right : FnScope ["_law_table", "_law_other", "_law_odd", "_law_near", "_law_calls", "_law_call"] ["_law_table", "_law_other", "_law_odd", "_law_near"] (defScope s__law_denied_right) := ⟨rfl, rfl, rfl, by decide +kernel, rfl, by decide +kernel, by decide +kernel⟩
theorem lam_scopes : ∀ i, i < 4 → lamSB (defScope s__law_denied_right) (lamScope (lamE i)) = true ∧ (∀ y ∈ frOf i, (y, NameKind.free) ∈ (lamScope (lamE i)).names) ∧ (jsOf i).map (fun j => N__law_denied_right[j]?) = (frOf i).map some := by
  intro i hi
  match i, hi with
  | 0, _ => exact ⟨by decide +kernel, by decide +kernel, rfl⟩
  | 1, _ => exact ⟨by decide +kernel, by decide +kernel, rfl⟩
  | 2, _ => exact ⟨by decide +kernel, by decide +kernel, rfl⟩
  | 3, _ => exact ⟨by decide +kernel, by decide +kernel, rfl⟩
theorem mkd_at {X : Cx} {pins : List (Addr × Obj)} {σ : L2.St} {H : Hp} {s : Shared} {q : Str} {F : LF} {fr : List Str} {ws : List (Option V)} (I : Inv X pins σ H s) (hsc : X.env.scope = defScope s__law_denied_right) (hN : X.N = N__law_denied_right) (hfn : ∀ y, X.fn y = true) (hst : X.stack = X.env :: X.outer)
    (hfr : X.env.frame = some X.env.locals) (m : MkD q X.env.cells σ F fr ws) : NdefX.CellsAt F.cl fr ws s.heap H ∧ (∀ y c, F.cl.lookup y = some c → c ∉ frs X.stack) ∧ ∀ y c, F.cl.lookup y = some c → X.env.cells.lookup y = some c := by
  obtain ⟨i, c', hi, rfl, rfl, rfl⟩ := m
  obtain ⟨h1, h2, h3⟩ := lam_scopes i hi
  have L := lamS_by h1
  rw [← hsc] at L
  have cp : NdefX.Caps X (cloFrom X.env.cells (lamScope (lamE i)).names []) (frOf i) (jsOf i) := NdefX.Caps.made I.ok L.free h2 (by rw [hN]; exact h3)
  refine ⟨NdefX.cells_of I cp, fun y c e hm => ?_, cp.sub⟩
  have e' := cp.sub y c e
  have e2 : frs X.stack = X.env.locals :: X.fs := by rw [hst]; unfold frs Cx.fs frs; rw [List.filterMap_cons, hfr]
  rw [e2] at hm
  rcases List.mem_cons.mp hm with z | z
  · exact I.cne y c e' z
  · obtain ⟨_, o, ho, _⟩ := I.ok.funs.mem z
    exact absurd (Nat.lt_of_lt_of_le (Heap.lt_size ho) (I.ok.cab y c (hfn y) e')) (Nat.lt_irrefl _)
def qD : Str := (PyProof.Rows.envOfC "_law_denied_right" (defScope s__law_denied_right) 0 0 Value.none).qual ++ "<lambda>"
section
variable {P : Program} {w : World} {K : PySem.W.Frag} {mg : Str → Option Value} {base : Heap} {CP CB CT CE fI : Addr}
theorem tb_ext {H H' : Hp} {p : Addr} {S : Tb} (s : ExtN H H') (h : TbAt CP CT H p S) : TbAt CP CT H' p S := let ⟨dx, a, b, c, d, xs, h1, h2, h3⟩ := h; ⟨dx, a, b, c, d, xs, s _ _ h1 (fun _ z => nomatch z), s _ _ h2 (fun _ z => nomatch z), h3.1, fun i g e => let ⟨p, e1, dx, e2⟩ := h3.2 i g e; ⟨p, e1, dx, s _ _ e2 (fun _ z => nomatch z)⟩⟩
theorem blk_cells {X : Cx} {pins pins' : List (Addr × Obj)} {σo σ1 : L2.St} {J H1 : Hp} {z s1 : Shared} {scope : Scope} {ce : Env} {fp : List Addr} {q : Str} {F1 : LF} {fr : List Str} {ws : List (Option V)}
    (hX : ∀ (pins : List (Addr × Obj)) (σ : L2.St) (H : Hp) (s : Shared) (F : LF) (fr : List Str) (ws : List (Option V)), Inv X pins σ H s → MkD q X.env.cells σ F fr ws → NdefX.CellsAt F.cl fr ws s.heap H ∧ (∀ y c, F.cl.lookup y = some c → c ∉ frs X.stack) ∧ ∀ y c, F.cl.lookup y = some c → X.env.cells.lookup y = some c)
    (I : Inv X pins σo J z) (F : ∀ b ∈ fp, FpOk X pins J b) (I1 : Inv (X.blk z J scope ce fp) pins' σ1 H1 s1) (m : MkD q X.env.cells σo F1 fr ws) : NdefX.CellsAt F1.cl fr ws s1.heap H1 ∧ ∀ y c, F1.cl.lookup y = some c → c ∉ frs X.stack := by
  obtain ⟨C, nf, sub⟩ := hX _ _ _ _ _ _ _ I m
  exact ⟨C.later (X := X.blk z J scope ce fp) nf (fun y c e hm => (F c hm).2.2.2.2.1 y c (sub y c e) rfl) I1, nf⟩
theorem deny_body (T : Txt K mg CP CB CT CE) (B : BPx P K mg CE fI) (B' : BPs K CE) {g c P0 p q : Addr} {A : Around} {outer : List Env} {s : Shared} {H : Hp} {vd vn : V} {S U : Tb} {Q : VK} {E : XK} (TB : TabB base mg c P0) (hT : Tabs [(P0, qD)] H) (gd : A.guards = some [])
    (hr : Room 12 (A.deeper (PyProof.Rows.envOfC "_law_denied_right" (defScope s__law_denied_right) s.heap.objs.size g (.ref c)))) (hS : TbAt CP CT H p S) (hU : TbAt CP CT H q U) (hd : ∀ H', ExtN H H' → NotC K CT H' vd ∧ OddV K CP CT H' vd) (hn : ∀ H', ExtN H H' → NotC K CP H' vn ∧ OddV K CP CT H' vn)
    (h : ∀ H', ExtN H H' → Tabs [(P0, qD)] H' → Q (.bl true) H') :
    ∃ t, PSs (cxOf L2.CX0 P w K mg base N__law_denied_right "_law_denied_right" (defScope s__law_denied_right) g (.ref c) A outer s H E).nox (defBody s__law_denied_right) t ∧ t { nx := fun _ H' => Q .non H', rt := Q } (L2.start N__law_denied_right [.ref p, .ref q, vd, vn]) H := by
  obtain ⟨X, eX⟩ : ∃ X, X = (cxOf L2.CX0 P w K mg base N__law_denied_right "_law_denied_right" (defScope s__law_denied_right) g (.ref c) A outer s H E).nox := ⟨_, rfl⟩
  have hX : ∀ (pins : List (Addr × Obj)) (σ : L2.St) (H : Hp) (s : Shared) (F : LF) (fr : List Str) (ws : List (Option V)), Inv X pins σ H s → MkD qD X.env.cells σ F fr ws → NdefX.CellsAt F.cl fr ws s.heap H ∧ (∀ y c, F.cl.lookup y = some c → c ∉ frs X.stack) ∧ ∀ y c, F.cl.lookup y = some c → X.env.cells.lookup y = some c := by
    subst eX
    exact fun pins σ H s F fr ws I m => mkd_at I rfl rfl (fun _ => rfl) rfl rfl m
  subst eX
  refine ⟨_, pss_cons (ps_set (i := 4) sc__law_denied_right.nd rfl (.inl rfl) (lstS (pa_cons (pe_lambE (T := [(P0, qD)]) (e := lamE 0) rfl TB rfl (List.mem_singleton.mpr rfl) (fun p hp _ => by cases List.mem_singleton.mp hp; rfl) (lamS_by (lam_scopes 0 (by decide)).1) rfl) (pa_cons (pe_lambE (T := [(P0, qD)]) (e := lamE 1) rfl TB rfl (List.mem_singleton.mpr rfl) (fun p hp _ => by cases List.mem_singleton.mp hp; rfl) (lamS_by (lam_scopes 1 (by decide)).1) rfl) (pa_cons (pe_lambE (T := [(P0, qD)]) (e := lamE 2) rfl TB rfl (List.mem_singleton.mpr rfl) (fun p hp _ => by cases List.mem_singleton.mp hp; rfl) (lamS_by (lam_scopes 2 (by decide)).1) rfl) pa_nil)))))
    (pss_cons (ps_if (pt_not (pt_val (pe_callB (allK (K := K) rfl rfl) (by rfl) T.n_all (by decide +kernel) (pa_cons (pe_lcI (own := [("_law_call", 5)]) (g := gName 5) (te := fun σo => tRefd P w K mg base CP CT CE (fun _ => MkD qD (cellsFrom (s.heap.objs.size + 1) (defScope s__law_denied_right).names []) σo) (tCons (tVar 5) (tCons (tVar 2) tNil))) rfl sc__law_denied_right.nd (piL (K := K) rfl (pv 4))
      (blkOk_by (own := [("_law_call", 5)]) (N := N__law_denied_right) (sc := defScope s__law_denied_right) (by decide +kernel)) (fun _ _ _ _ _ => pg_name (i := 5) sc__law_denied_right.nd rfl (Or.inl rfl))
      (fun pins σo z J C cl fp I F => by exact pe_refd T B B' (hr.mono (by decide)) gd rfl (fun pins' σ1 H1 s1 H0 s0 F1 fr ws I0 I1 m => blk_cells (X := (cxOf L2.CX0 P w K mg base N__law_denied_right "_law_denied_right" (defScope s__law_denied_right) g (.ref c) A outer s H E).nox) hX I F I1 m) (pa_cons (pv 5) (pa_cons (pv 2) pa_nil)))) pa_nil)))) (pss_one (ps_ret pe_bl)) pss_nil)
    (pss_one (ps_ret (pe_refd (mk := MkD qD (cellsFrom (s.heap.objs.size + 1) (defScope s__law_denied_right).names [])) T B B' (hr.mono (by decide)) gd rfl (fun pins' σ1 H1 s1 H0 s0 F1 fr ws I0 I1 m => let z := hX _ _ _ _ _ _ _ I1 m; ⟨z.1, z.2.1⟩) (pa_cons (pe_lambE (T := [(P0, qD)]) (e := lamE 3) rfl TB rfl (List.mem_singleton.mpr rfl) (fun p hp _ => by cases List.mem_singleton.mp hp; rfl) (lamS_by (lam_scopes 3 (by decide)).1) rfl) (pa_cons (pv 3) pa_nil)))))), ?_⟩
  clear hX
  walk_at "rd"
  refine ⟨hT, fun f0 c0 H1 m0 => ?_⟩
  walk_at "rd"
  refine ⟨m0.tabs, fun f1 c1 H2 m1 => ?_⟩
  walk_at "rd"
  refine ⟨m1.tabs, fun f2 c2 H3 m2 => ?_⟩
  walk_at "rd"
  refine rd_newL fun lf H4 n4 s4 hlf => ?_
  walk_at "rd"
  have kL : ∀ {H H' : Hp} {f : Addr} {F : LF}, ExtN H H' → H f = some (LmO f F) → H' f = some (LmO f F) := fun e h => e _ _ h (fun _ z => by unfold LmO at z; cases z)
  have kC : ∀ {H H' : Hp} {c : Addr} {q : Str}, ExtN H H' → H c = some (CodeO c q) → H' c = some (CodeO c q) := fun e h => e _ _ h codeO_ne
  have xN : ∀ {H H' : Hp}, Same H H' → ExtN H H' := fun s => ExtN.of s
  have e04 : ExtN H H4 := ((m0.ext.trans m1.ext).trans m2.ext).trans (xN s4)
  have a0 := kL ((m1.ext.trans m2.ext).trans (xN s4)) m0.fn
  have a1 := kL (m2.ext.trans (xN s4)) m1.fn
  have a2 := kL (xN s4) m2.fn
  have b0 := kC ((m1.ext.trans m2.ext).trans (xN s4)) m0.code
  have b1 := kC (m2.ext.trans (xN s4)) m1.code
  have b2 := kC (xN s4) m2.code
  have t4 := m2.tabs.ext s4
  clear m0 m1 m2 s4 n4
  refine rd_lcL hlf (by show 3 ≤ 1000; decide) (fun k y H' => y = .bl true) (fun k y H1 H2 s h => h) (fun k y H1 D xs ys hD h => h) (fun x => rfl) (fun k x H5 hx5 s5 F hF => ?_) (fun D ys H5 n5 s5 hD hl5 hR => ?_)
  · have e05 : ExtN H H5 := e04.trans (xN s5)
    have nd := (hd H5 e05).1
    have od : ∀ H', Same H5 H' → OddV K CP CT H' vd := fun H' s => (hd H' (e05.trans (xN s))).2
    have fin : ∀ H', Same H5 H' → F (.bl true) H' := fun H' s => hF _ H' s rfl
    match k, hx5 with
    | 0, hx5 =>
      cases Option.some.inj hx5
      unfold tRefd
      walk_at "rd"
      refine ⟨f0, _, fr0, _, vd, _, rfl, ⟨0, c0, by decide, rfl, rfl, rfl⟩, lok0 T B, kL (xN s5) a0, kC (xN s5) b0, fun Q E hE => ?_, od, fin⟩
      exact ⟨vd, rfl, vd, .non, .non, vd, rfl, hE, .inl ⟨rfl, nd⟩⟩
    | 1, hx5 =>
      cases Option.some.inj hx5
      unfold tRefd
      walk_at "rd"
      refine ⟨f1, _, fr1, _, vd, _, rfl, ⟨1, c1, by decide, rfl, rfl, rfl⟩, lok1 T B, kL (xN s5) a1, kC (xN s5) b1, fun Q E hE => ?_, od, fin⟩
      exact ⟨vd, .ref q, vn, rfl, vd, .ref q, vn, vd, rfl, hE, .inl ⟨rfl, nd⟩⟩
    | 2, hx5 =>
      cases Option.some.inj hx5
      unfold tRefd
      walk_at "rd"
      refine ⟨f2, _, fr2, _, vd, _, rfl, ⟨2, c2, by decide, rfl, rfl, rfl⟩, lok2 T B, kL (xN s5) a2, kC (xN s5) b2, fun Q E hE => ?_, od, fin⟩
      exact ⟨.ref p, vd, vn, rfl, .ref p, vd, vn, vd, rfl, hE, .inr (.inl ⟨p, S, rfl, tb_ext e05 hS, rfl, nd⟩)⟩
    | k + 3, hx5 => simp at hx5
  · walk_at "rd"
    refine rd_all hD hR ?_
    walk_at "rd"
    refine ⟨t4.ext s5, fun f3 c3 H6 m3 => ?_⟩
    walk_at "rd"
    have e06 : ExtN H H6 := (e04.trans (xN s5)).trans m3.ext
    refine ⟨f3, _, fr3, _, vn, _, rfl, ⟨3, c3, by decide, rfl, rfl, rfl⟩, lok3 T B, m3.fn, m3.code, fun Q E hE => ?_, fun H' s => (hn H' (e06.trans (xN s))).2, fun H' s => h H' (e06.trans (xN s)) (m3.tabs.ext s)⟩
    exact ⟨.ref p, .ref q, vn, rfl, .ref p, .ref q, vn, vn, rfl, hE, .inr (.inr ⟨p, S, q, U, rfl, tb_ext e06 hS, rfl, tb_ext e06 hU, rfl, (hn H6 e06).1⟩)⟩
end
end Wk
namespace Wk
set_option linter.all false
/-! walks made of a table's rows, of their sizes; products in the other order -/
theorem prodL_mem {T : Tb} (ok : T.Ok) : ∀ (gs : List Pl) (f : Pl), T.Mem f → (∀ g ∈ gs, T.Mem g) → T.Mem (gs.foldl Pl.mul f)
  | [], f, hf, _ => hf
  | g :: gs, f, hf, h => prodL_mem ok gs (f.mul g) ((T.clo' ok).mul hf (h g List.mem_cons_self)) fun x hx => h x (List.mem_cons_of_mem _ hx)
theorem mem_home' {T : Tb} (ok : T.Ok) : T.Mem home := (T.clo' ok).one
theorem made_mem {T : Tb} (ok : T.Ok) {b : Int} {g : Pl} (h : MadeOf T.rows T.c b g) : T.Mem g := by
  obtain ⟨ns, hl, hb, m, hm, rfl⟩ := h
  have e : T.Mem (prodL (List.zipWith Pl.pow T.rows ns)) := prodL_mem ok _ _ (mem_home' ok) fun z hz => by
    obtain ⟨g, n, hg, hn, rfl⟩ := zip_mem hz
    exact (T.clo' ok).pow (T.rows_mem hg) n
  exact e.shift ⟨m, by omega⟩
structure WB (g : Pl) : Prop where
  x : Fits 163 g.x
  y : Fits 163 g.y
  a : Fits 3047 g.a
theorem made_fits {T : Tb} (bd : TbB T) {b : Int} (hb : b ≤ ((2 ^ 41 : Nat) : Int)) {g : Pl} (h : MadeOf T.rows T.c b g) : WB g := by
  obtain ⟨ns, hl, hn, m, hm, rfl⟩ := h
  have fm : Fits 41 m := ⟨by omega⟩
  have fc : Fits 3041 (T.c * m) := bd.c.mul fm (by omega)
  have fn : ∀ z ∈ ns, Fits 41 z := fun z hz => ⟨by have := hn z hz; omega⟩
  have fu : ∀ {n : Int}, Fits 41 n → Fits 159 (n * T.p) ∧ Fits 159 (n * T.q) ∧ Fits 3042 (n * T.r + tri n * T.p * T.q) := fun h =>
    ⟨h.mul bd.p (by omega), h.mul bd.q (by omega), (h.mul bd.r (Nat.le_refl _)).add (((fits_tri h).mul bd.p (Nat.le_refl _)).mul bd.q (Nat.le_refl _)) (by omega) (by omega)⟩
  have fv : ∀ {n : Int}, Fits 41 n → Fits 159 (n * T.s) ∧ Fits 3042 (n * T.t + tri n * 0 * T.s) := fun h =>
    ⟨h.mul bd.s (by omega), by rw [Int.mul_zero, Int.zero_mul, Int.add_zero]; exact (h.mul bd.t (Nat.le_refl _)).mono (by omega)⟩
  rcases rows_cases T with ⟨hp, hs, er⟩ | ⟨hp, hs, er⟩ | ⟨hp, hs, er⟩ | ⟨hp, hs, er⟩
  · rw [er]
    simp only [List.zipWith_nil_left, prodL, List.foldl_nil, home]
    exact ⟨.zero, .zero, by rw [Int.zero_add]; exact fc.mono (by omega)⟩
  · rw [er] at hl ⊢
    match ns, hl with
    | [n], _ =>
      obtain ⟨h1, h2, h3⟩ := fu (fn n List.mem_cons_self)
      simp only [List.zipWith, prodL, List.foldl_cons, List.foldl_nil, Pl.home_mul, Pl.pow, Tb.u]
      exact ⟨h1.mono (by omega), h2.mono (by omega), h3.add fc (by omega) (by omega)⟩
  · rw [er] at hl ⊢
    match ns, hl with
    | [n], _ =>
      obtain ⟨h1, h2⟩ := fv (fn n List.mem_cons_self)
      simp only [List.zipWith, prodL, List.foldl_cons, List.foldl_nil, Pl.home_mul, Pl.pow, Tb.v, Int.mul_zero]
      rw [Int.mul_zero] at h2
      exact ⟨.zero, h1.mono (by omega), h2.add fc (by omega) (by omega)⟩
  · rw [er] at hl ⊢
    match ns, hl with
    | [n, k], _ =>
      obtain ⟨h1, h2, h3⟩ := fu (fn n List.mem_cons_self)
      obtain ⟨h4, h5⟩ := fv (fn k (List.mem_cons_of_mem _ List.mem_cons_self))
      simp only [List.zipWith, prodL, List.foldl_cons, List.foldl_nil, Pl.home_mul]
      simp only [Pl.pow, Tb.u, Tb.v, Pl.mul]
      have hk : Fits 1 (k * 0) := by rw [Int.mul_zero]; exact .zero
      have hx : Fits 163 (n * T.p + k * 0) := h1.add hk (by omega) (by omega)
      have hy : Fits 163 (n * T.q + k * T.s) := h2.add h4 (by omega) (by omega)
      have ha : Fits 3043 (n * T.r + tri n * T.p * T.q + (k * T.t + tri k * 0 * T.s)) := h3.add h5 (by omega) (by omega)
      have hm : Fits 318 (n * T.p * (k * T.s)) := h1.mul h4 (by omega)
      have hb : Fits 3045 (n * T.r + tri n * T.p * T.q + (k * T.t + tri k * 0 * T.s) + n * T.p * (k * T.s)) := ha.add hm (by omega) (by omega)
      have hc : Fits 3047 (n * T.r + tri n * T.p * T.q + (k * T.t + tri k * 0 * T.s) + n * T.p * (k * T.s) + T.c * m) := hb.add fc (by omega) (by omega)
      exact ⟨hx, hy, hc⟩
/-- the law's places: sizes -/
structure LB (g : Pl) : Prop where
  x : Fits 166 g.x
  y : Fits 166 g.y
  a : Fits 3055 g.a
theorem WB.lb {g : Pl} (h : WB g) : LB g := ⟨h.x.mono (by omega), h.y.mono (by omega), h.a.mono (by omega)⟩
theorem WB.mul {g h : Pl} (hg : WB g) (hh : WB h) : Fits 164 (g.mul h).x ∧ Fits 164 (g.mul h).y ∧ Fits 3050 (g.mul h).a :=
  ⟨hg.x.add hh.x (by omega) (by omega), hg.y.add hh.y (by omega) (by omega), (hg.a.add hh.a (k := 3048) (by omega) (by omega)).add (hg.x.mul hh.y (Nat.le_refl _)) (by omega) (by omega)⟩
theorem beside_lb {g h : Pl} (hg : Fits 164 g.x ∧ Fits 164 g.y ∧ Fits 3050 g.a) (hh : Fits 3 h.x ∧ Fits 3 h.y ∧ Fits 3 h.a) : Fits 165 (g.mul h).x ∧ Fits 165 (g.mul h).y ∧ Fits 3052 (g.mul h).a :=
  ⟨hg.1.add hh.1 (by omega) (by omega), hg.2.1.add hh.2.1 (by omega) (by omega), (hg.2.2.add hh.2.2 (k := 3051) (by omega) (by omega)).add (hg.1.mul hh.2.1 (Nat.le_refl _)) (by omega) (by omega)⟩
theorem inv_lb {g : Pl} (hg : Fits 165 g.x ∧ Fits 165 g.y ∧ Fits 3052 g.a) : LB g.inv :=
  ⟨hg.1.neg.mono (by omega), hg.2.1.neg.mono (by omega), (hg.1.mul hg.2.1 (Nat.le_refl _)).sub hg.2.2 (by omega) (by omega)⟩
theorem lb_of {g : Pl} (hg : Fits 165 g.x ∧ Fits 165 g.y ∧ Fits 3052 g.a) : LB g := ⟨hg.1.mono (by omega), hg.2.1.mono (by omega), hg.2.2.mono (by omega)⟩
theorem prod_inv {S U : Tb} (oS : S.Ok) (oU : U.Ok) {g : Pl} (h : ∃ a b, S.Mem a ∧ U.Mem b ∧ a.mul b = g) : ∃ a b, U.Mem a ∧ S.Mem b ∧ a.mul b = g.inv := by
  obtain ⟨a, b, ha, hb, rfl⟩ := h
  exact ⟨b.inv, a.inv, (U.clo' oU).inv hb, (S.clo' oS).inv ha, (Pl.inv_of_mul a b).symm⟩
theorem prod_inv' {S U : Tb} (oS : S.Ok) (oU : U.Ok) {g : Pl} (h : ∃ a b, U.Mem a ∧ S.Mem b ∧ a.mul b = g.inv) : ∃ a b, S.Mem a ∧ U.Mem b ∧ a.mul b = g := by
  have z := prod_inv oU oS h
  rwa [Pl.inv_inv] at z
theorem prod_left {S U : Tb} (oU : U.Ok) {g : Pl} (h : S.Mem g) : ∃ a b, S.Mem a ∧ U.Mem b ∧ a.mul b = g := ⟨g, home, h, mem_home' oU, Pl.mul_home g⟩
theorem prod_self {S : Tb} (oS : S.Ok) {g : Pl} : (∃ a b, S.Mem a ∧ S.Mem b ∧ a.mul b = g) ↔ S.Mem g :=
  ⟨fun ⟨a, b, ha, hb, e⟩ => e ▸ (S.clo' oS).mul ha hb, prod_left oS⟩
end Wk
namespace Wk
set_option linter.all false
set_option maxRecDepth 100000
set_option maxHeartbeats 1000000
open PySem L2 L2H LamX
theorem tabs_sam {T : List (Addr × Str)} {H H' : Hp} (s : Sam H H') (t : Tabs T H) : Tabs T H' := fun p hp => by
  obtain ⟨ps, h1, h2, h3⟩ := t p hp
  refine ⟨ps, s _ _ (fun _ z => nomatch z) h1, h2, fun pos cv hc => ?_⟩
  obtain ⟨c, e1, e2⟩ := h3 pos cv hc
  exact ⟨c, e1, s _ _ (fun _ z => nomatch z) e2⟩
theorem tb_sam {CP CT : Addr} {H H' : Hp} {p : Addr} {S : Tb} (s : Sam H H') (h : TbAt CP CT H p S) : TbAt CP CT H' p S := let ⟨dx, a, b, c, d, xs, h1, h2, h3⟩ := h; ⟨dx, a, b, c, d, xs, s.ins h1, s.tup h2, h3.1, fun i g e => let ⟨p, e1, dx, e2⟩ := h3.2 i g e; ⟨p, e1, dx, s.ins e2⟩⟩
theorem take_cut (xs : List V) : cutV xs none (some 4) = xs.take 4 := by
  unfold cutV
  rw [show (some (4 : Int)) = some ((4 : Nat) : Int) from rfl, HT.sIx_nat, HT.sIx_none, List.drop_zero, Nat.sub_zero]
  rcases Nat.le_total 4 xs.length with h | h
  · rw [Nat.min_eq_left h]
  · rw [Nat.min_eq_right h, List.take_of_length_le (Nat.le_refl _), List.take_of_length_le h]
theorem rws3_take {H : Hp} {xs : List V} {gs : List Pl} (n : Nat) (h : Rws3 H xs gs) : Rws3 H (xs.take n) (gs.take n) := ⟨by rw [List.length_take, List.length_take, h.1], fun i g e => by
  rw [List.getElem?_take] at e
  split at e
  · rename_i hi
    obtain ⟨p, e1, e2⟩ := h.2 i g e
    exact ⟨p, by rw [List.getElem?_take, if_pos hi]; exact e1, e2⟩
  · cases e⟩
/-- a def whose code object is known -/
def DefC (K : PySem.W.Frag) (mg : Str → Option Value) (x : Str) (st : Stmt) (ps : List Str) (c : Addr) : Prop :=
  ∃ f, (∃ oc od kV doc pm an ct osl, K.lookup f = some ⟨oc, od, .func (PySem.W.fnOf x x (defArgs st) (defBody st) (defScope st) .none kV doc pm an (.ref c) ct), osl⟩ ∧ PySem.W.codeIn K (.ref c) x = true ∧ Binds K (PySem.W.fnOf x x (defArgs st) (defBody st) (defScope st) .none kV doc pm an (.ref c) ct) ps []) ∧
    mg x = some (.ref f) ∧ PySem.W.keepIn K (.ref f) = true
section
variable {CP CB CT CE fI : Addr}
/-- the reading of a call of _law_denied_right -/
def tDeny (K : PySem.W.Frag) (CP CT P0 : Addr) (t : TA) : TE := fun σ H Q => t σ H fun vs H1 => ∃ (p q : Addr) (vd vn : V) (S U : Tb), vs = [.ref p, .ref q, vd, vn] ∧ Tabs [(P0, qD)] H1 ∧ TbAt CP CT H1 p S ∧ TbAt CP CT H1 q U ∧
  (∀ H', ExtN H1 H' → NotC K CT H' vd ∧ OddV K CP CT H' vd) ∧ (∀ H', ExtN H1 H' → NotC K CP H' vn ∧ OddV K CP CT H' vn) ∧ ∀ H', ExtN H1 H' → Tabs [(P0, qD)] H' → Q (.bl true) H'
theorem pe_deny {Y : Cx} {c P0 : Addr} {e : Expr} {es : List Expr} {t : TA} {q pos : Pos} (T : Txt Y.K Y.mg CP CB CT CE) (B : BPx Y.prog Y.K Y.mg CE fI) (B' : BPs Y.K CE) (D : DefC Y.K Y.mg "_law_denied_right" s__law_denied_right ["_law_table", "_law_other", "_law_odd", "_law_near"] c)
    (TB : TabB Y.base Y.mg c P0) (hr : Room 13 Y.A) (gd : Y.A.guards = some []) (hg : Gl Y "_law_denied_right") (ha : PA Y (e :: es) t)
    (h1 : starEach (e :: es) Y.env = (false, eval e Y.env) :: starEach es Y.env := by rfl) (h2 : (backTo pos (starEach es Y.env)).any (·.1) = false := by rfl) :
    PE Y (.Call (.Name "_law_denied_right" q) (e :: es) [] pos) (tDeny Y.K CP CT P0 t) where
  run := fun pins s σ H Q I h => by
    obtain ⟨g, ⟨oc, od, kV, doc, pm, an, ct, osl, lk, hcd, b⟩, hm, kp⟩ := D
    refine wpAny_Call_Name_kw (ld_glob I hg hm (PySem.W.callWith_K (h₀ := Y.base) I.ok.mod.kin kp (thn (ha.run pos pins s σ H _ I h) fun us s1 ⟨vs, H1, I1, r, p, q, vd, vn, S, U, ev, hT, hS, hU, hd, hn, hq⟩ => ⟨I1.kIn, ?_⟩) h1 h2) (by decide))
    subst ev
    have b1 := b s1 us I1.kIn (by rw [List.append_nil, ← r.length]; rfl)
    rw [List.append_nil] at b1
    refine call_endQ (E := E0) I1 (run_ofS lk hcd sc__law_denied_right hr I1.env0 b1 r rfl fun hr' => ?_)
    obtain ⟨t', ht', hq'⟩ := deny_body (w := Y.w) (Q := Q) (E := E0) T B B' TB hT gd hr' hS hU hd hn hq
    exact ⟨t', ht'.nox, hq'⟩
end
end Wk
namespace Wk
set_option linter.all false
set_option maxRecDepth 100000
set_option maxHeartbeats 2000000
open PySem L2 L2H LamX
local macro_rules | `(tactic| walk_at "cy") => `(tactic| first
  | assumption
  | ((with_reducible refine' at_mono (H := ?H) ?s ?h); (case s => assumption); (case h => walk_at "cy"))
  | ((with_reducible refine' PlAt.mono (H := ?H) ?s ?h); (case s => assumption); (case h => walk_at "cy")))
local macro_rules | `(tactic| walk_at "rd1") => `(tactic| first
  | (with_reducible refine' rd_seq ?_) | (with_reducible refine' rd_asg ?_) | (with_reducible refine' rd_par ?_) | (with_reducible refine' rd_ret ?_)
  | (with_reducible refine' rd_ifs ?_) | (with_reducible refine' rd_drop ?_) | (with_reducible refine' rd_next ?_) | (with_reducible refine' rd_asgG ?_)
  | ((with_reducible refine' rd_var (v := ?v) ?e ?h); (case e => exact rfl)) | (with_reducible refine' rd_c ?_) | (with_reducible refine' rd_op ?_) | (with_reducible refine' rd_un ?_)
  | (with_reducible refine' rd_cb ?_) | (with_reducible refine' rd_cons ?_) | (with_reducible refine' rd_nil ?_)
  | (with_reducible refine' rd_I0 ?_) | (with_reducible refine' rd_U ?_) | (with_reducible refine' rd_eqI ?_) | (with_reducible refine' rd_neI ?_)
  | (with_reducible refine' rd_test ?_) | (with_reducible refine' rd_bl ?_) | (with_reducible refine' rd_not ?_) | (with_reducible refine' rd_and ?_) | (with_reducible refine' rd_or ?_)
  | (with_reducible refine' rd_t ?_) | (with_reducible refine' rd_f ?_) | (with_reducible refine' rd_nt ?_) | (with_reducible refine' rd_nf ?_)
  | (with_reducible refine' rd_andV ?_) | (with_reducible refine' rd_orV ?_) | (with_reducible refine' rd_notV ?_) | (with_reducible refine' rd_B ?_) | (with_reducible refine' rd_forR1 ?_) | (with_reducible refine' rd_forR2 ?_) | (with_reducible refine' rd_for ?_) | (with_reducible refine' rd_iT ?_) | (with_reducible refine' rd_iL ?_) | (with_reducible refine' rd_lc ?_)
  | (with_reducible refine' rd_if ?_) | (with_reducible refine' rd_isNr ?_) | (with_reducible refine' rd_isN0 ?_) | (with_reducible refine' rd_notNr ?_) | (with_reducible refine' rd_notN0 ?_) | (with_reducible refine' rd_abs ?_) | ((with_reducible refine' rd_lenL (xs := ?xs) ?f ?h); (case f => walk_at "cy")) | ((with_reducible refine' rd_lenT (xs := ?xs) ?f ?h); (case f => walk_at "cy")) | (with_reducible refine' rd_mt ?_) | (with_reducible refine' rd_bm ?_) | (with_reducible refine' rd_tru ?_) | (with_reducible refine' rd_truInt ?_) | (with_reducible refine' rd_fld ?_)
  | ((with_reducible refine' rd_ixT (xs := ?xs) (v := ?v) ?f ?e ?h); (case f => walk_at "cy"); (case e => exact rfl))
  | ((with_reducible refine' rd_ixL (xs := ?xs) (v := ?v) ?f ?e ?h); (case f => walk_at "cy"); (case e => exact rfl))
  | ((with_reducible refine' rd_gtup (xs := ?xs) ?f ?e ?h); (case f => walk_at "cy"); (case e => exact rfl))
  | (with_reducible refine' rd_gcons ?_) | (with_reducible refine' rd_gnil ?_) | (with_reducible refine' rd_gname ?_))
local macro_rules | `(tactic| walk_at "rd") => `(tactic| repeat walk_at "rd1")
local macro_rules | `(tactic| walk_at "cy") => `(tactic| first
  | assumption
  | ((with_reducible refine' at_mono (H := ?H) ?s ?h); (case s => assumption); (case h => walk_at "cy"))
  | ((with_reducible refine' T2.mono (H := ?H) ?s ?h); (case s => assumption); (case h => walk_at "cy"))
  | ((with_reducible refine' PlAt.mono (H := ?H) ?s ?h); (case s => assumption); (case h => walk_at "cy"))
  | ((with_reducible refine' Pls.mono (H := ?H) ?s ?h); (case s => assumption); (case h => walk_at "cy")))
local macro_rules | `(tactic| walk_at "cy") => `(tactic| first
  | assumption
  | ((with_reducible refine' at_mono (H := ?H) ?s ?h); (case s => assumption); (case h => walk_at "cy"))
  | ((with_reducible refine' T2.mono (H := ?H) ?s ?h); (case s => assumption); (case h => walk_at "cy"))
  | ((with_reducible refine' PlAt.mono (H := ?H) ?s ?h); (case s => assumption); (case h => walk_at "cy"))
  | ((with_reducible refine' Pls.mono (H := ?H) ?s ?h); (case s => assumption); (case h => walk_at "cy"))
  | ((with_reducible refine' TbAt.mono (H := ?H) ?s ?h); (case s => assumption); (case h => walk_at "cy"))
  | ((with_reducible refine' Rws.mono (H := ?H) ?s ?h); (case s => assumption); (case h => walk_at "cy")))
local macro_rules | `(tactic| walk_at "rd") => `(tactic| repeat (first
  | walk_at "rd1"
  | (with_reducible refine' rd_chain ?_)
  | (with_reducible refine' rd_dget ?_)
  | (with_reducible refine' rd_tcells (by assumption) ?_)
  | (with_reducible refine' rd_tat (by assumption) ?_)
  | (with_reducible refine' rd_trest (by assumption) ?_)
  | (with_reducible refine' rd_slN ?_)
  | (with_reducible refine' rd_max ?_)
  | (with_reducible refine' rd_int ?_) | (with_reducible refine' rd_intb ?_)))
section
variable {P : Program} {w : World} {K : PySem.W.Frag} {mg : Str → Option Value} {base : Heap} {CP CB CT CE fI : Addr}
abbrev s_law : Stmt := top 74
def N_law : List Str := ["_law_script", "_law_tape", "_law_told_here", "_law_others", "_law_one", "_law_other", "_law_row_here", "_law_rows", "_law_home", "_law_place_here", "_law_lines", "_law_whole", "_law_figures_here", "_law_first", "_law_second", "_law_beside", "_law_found", "_law_own", "_law_apart", "_law_inner", "_law_odd"]
theorem sc_law : FnScope ["_law_script", "_law_tape", "_law_told_here", "_law_others", "_law_one", "_law_other", "_law_row_here", "_law_rows", "_law_home", "_law_place_here", "_law_lines", "_law_whole", "_law_figures_here", "_law_first", "_law_second", "_law_beside", "_law_found", "_law_own", "_law_apart", "_law_inner", "_law_odd"] ["_law_script"] (defScope s_law) := ⟨rfl, rfl, rfl, by decide +kernel, rfl, by decide +kernel, by decide +kernel⟩
theorem law_body (T : Txt K mg CP CB CT CE) (B : BPx P K mg CE fI) (B' : BPs K CE) {c P0 g a : Addr} {cdv : Value} (D : DefC K mg "_law_denied_right" s__law_denied_right ["_law_table", "_law_other", "_law_odd", "_law_near"] c) (TB : TabB base mg c P0) {A : Around} {outer : List Env} {s : Shared} {H : Hp} {cs : List Int} {Q : VK} {E : XK}
    (gd : A.guards = some []) (hr : Room 13 (A.deeper (PyProof.Rows.envOfC "law" (defScope s_law) s.heap.objs.size g cdv))) (hT : Tabs [(P0, qD)] H) (ha : SqL K H a (cs.map V.int)) (h : ∀ H', Q (.bl true) H') :
    ∃ t, PSs (cxOf L2.CX0 P w K mg base N_law "law" (defScope s_law) g cdv A outer s H E).nox (defBody s_law) t ∧ t { nx := fun _ H' => Q .non H', rt := Q } (L2.start N_law [.ref a]) H := by
  have g_law_begin := ok_law_begin (P := P) (w := w) (base := base) T
  have g_law_told := ok_law_told (P := P) (w := w) (base := base) T
  have g_law_pick := ok_law_pick (P := P) (w := w) (base := base) T
  have g_law_place := ok_law_place (P := P) (w := w) (base := base) T
  have g_law_row := ok_law_row (P := P) (w := w) (base := base) T
  have g_law_mul := ok_law_mul (P := P) (w := w) (base := base) T
  have g_law_undo := ok_law_undo (P := P) (w := w) (base := base) T
  have g_law_made := ok_law_made (P := P) (w := w) (base := base) T
  have g_law_truth := ok_law_truth (P := P) (w := w) (base := base) T
  have g_law_figures := ok_law_figures (P := P) (w := w) (base := base) T
  have g_law_parts_right := ok_law_parts_right (P := P) (w := w) (base := base) T
  have g_law_table_right := ok_law_table_right (P := P) (w := w) (base := base) T
  have g_law_ring_right := ok_law_ring_right (P := P) (w := w) (base := base) T
  have g_in_product := ok_in_product (P := P) (w := w) (base := base) T
  have g_Table := ok_Table (P := P) (w := w) (base := base) T
  refine ⟨_, (pss_cons (ps_set (i := 1) sc_law.nd rfl (Or.inl rfl) (calS g_law_begin pass0 hr (by decide) (by rfl) (pa_cons (pv 0) pa_nil)))
 (pss_cons (ps_par (i := 2) (j := 3) rfl sc_law.nd rfl rfl (by decide) rfl rfl (pa_cons (pe_slice (slK (K := K) rfl) (calS g_law_told pass0 hr (by decide) (by rfl) (pa_cons (pv 1) (pa_cons pe_int pa_nil))) po_none (po_some pe_int)) (pa_cons (pe_slice (slK (K := K) rfl) (calS g_law_told pass0 hr (by decide) (by rfl) (pa_cons (pv 1) (pa_cons pe_int pa_nil))) po_none (po_some pe_int)) pa_nil)) (by rfl))
 (pss_cons (ps_par (i := 4) (j := 5) rfl sc_law.nd rfl rfl (by decide) rfl rfl (pa_cons (mkcS g_Table pass0 hr (by decide) (by rfl) table_new (pa_cons (pe_lc (own := [("_law_row_here", 6)]) (g := gName 6) (tt := tYes) (by rfl) sc_law.nd (piL (K := K) rfl (pv 2)) (blkOk_by (own := [("_law_row_here", 6)]) (N := N_law) (sc := defScope s_law) (by decide +kernel)) (fun _ _ _ _ _ => pg_name (i := 6) sc_law.nd rfl (Or.inl rfl)) (fun _ _ _ _ _ => pts_nil) (fun _ _ _ _ _ => by exact (calS g_law_place pass0 hr (by decide) (by rfl) (pa_cons (pv 6) pa_nil)))) pa_nil)) (pa_cons (mkcS g_Table pass0 hr (by decide) (by rfl) table_new (pa_cons (pe_lc (own := [("_law_row_here", 6)]) (g := gName 6) (tt := tYes) (by rfl) sc_law.nd (piL (K := K) rfl (pv 3)) (blkOk_by (own := [("_law_row_here", 6)]) (N := N_law) (sc := defScope s_law) (by decide +kernel)) (fun _ _ _ _ _ => pg_name (i := 6) sc_law.nd rfl (Or.inl rfl)) (fun _ _ _ _ _ => pts_nil) (fun _ _ _ _ _ => by exact (calS g_law_place pass0 hr (by decide) (by rfl) (pa_cons (pv 6) pa_nil)))) pa_nil)) pa_nil)) (by rfl))
 (pss_cons (ps_if (PW.pt (pw_or (pt_not (pt_val (calS g_law_table_right pass0 hr (by decide) (by rfl) (pa_cons (pv 4) (pa_cons (pv 2) pa_nil))))) (pw_or1 (pt_not (pt_val (calS g_law_table_right pass0 hr (by decide) (by rfl) (pa_cons (pv 5) (pa_cons (pv 3) pa_nil)))))))) (pss_one (ps_ret pe_bl)) pss_nil)
 (pss_cons (ps_par (i := 7) (j := 8) rfl sc_law.nd rfl rfl (by decide) rfl rfl (pa_cons (pe_lc (own := [("_law_place_here", 9)]) (g := gName 9) (tt := tYes) (by rfl) sc_law.nd (piT (K := K) rfl (fldK (K := K) rfl (pv 4) rfl)) (blkOk_by (own := [("_law_place_here", 9)]) (N := N_law) (sc := defScope s_law) (by decide +kernel)) (fun _ _ _ _ _ => pg_name (i := 9) sc_law.nd rfl (Or.inl rfl)) (fun _ _ _ _ _ => pts_nil) (fun _ _ _ _ _ => by exact (calS g_law_row pass0 hr (by decide) (by rfl) (pa_cons (pv 9) pa_nil)))) (pa_cons (fldK (K := K) rfl (pv 4) rfl) pa_nil)) (by rfl))
 (pss_cons (ps_par (i := 10) (j := 11) rfl sc_law.nd rfl rfl (by decide) rfl rfl (pa_cons (pe_lc (own := [("_law_place_here", 9)]) (g := gName 9) (tt := tYes) (by rfl) sc_law.nd (piT (K := K) rfl (fldK (K := K) rfl (pv 5) rfl)) (blkOk_by (own := [("_law_place_here", 9)]) (N := N_law) (sc := defScope s_law) (by decide +kernel)) (fun _ _ _ _ _ => pg_name (i := 9) sc_law.nd rfl (Or.inl rfl)) (fun _ _ _ _ _ => pts_nil) (fun _ _ _ _ _ => by exact (calS g_law_row pass0 hr (by decide) (by rfl) (pa_cons (pv 9) pa_nil)))) (pa_cons (fldK (K := K) rfl (pv 5) rfl) pa_nil)) (by rfl))
 (pss_cons (ps_for PassesOwn.never rfl (piL (K := K) rfl (lstS (pa_cons pe_int (pa_cons pe_int pa_nil)))) (pg_name (i := 12) sc_law.nd rfl (Or.inl rfl)) (pss_cons (ps_par (i := 13) (j := 14) rfl sc_law.nd rfl rfl (by decide) rfl rfl (pa_cons (calS g_law_made pass0 hr (by decide) (by rfl) (pa_cons (pv 1) (pa_cons (pv 7) (pa_cons (pv 8) (pa_cons (pv 12) pa_nil))))) (pa_cons (calS g_law_made pass0 hr (by decide) (by rfl) (pa_cons (pv 1) (pa_cons (pv 10) (pa_cons (pv 11) (pa_cons (pv 12) pa_nil))))) pa_nil)) (by rfl))
 (pss_cons (ps_set (i := 6) sc_law.nd rfl (Or.inl rfl) (calS g_law_mul pass0 hr (by decide) (by rfl) (pa_cons (pv 13) (pa_cons (pv 14) pa_nil))))
 (pss_cons (ps_if (PW.pt (pw_or (pt_not (pt_val (calS g_law_parts_right pass0 hr (by decide) (by rfl) (pa_cons (pv 4) (pa_cons (pv 5) (pa_cons (pv 6) pa_nil)))))) (pw_or1 (pt_not (pt_val (calS g_law_parts_right pass0 hr (by decide) (by rfl) (pa_cons (pv 5) (pa_cons (pv 4) (pa_cons (calS g_law_undo pass0 hr (by decide) (by rfl) (pa_cons (pv 6) pa_nil)) pa_nil))))))))) (pss_one (ps_ret pe_bl)) pss_nil)
 (pss_cons (ps_set (i := 15) sc_law.nd rfl (Or.inl rfl) (calS g_law_mul pass0 hr (by decide) (by rfl) (pa_cons (pv 6) (pa_cons (calS g_law_pick pass0 hr (by decide) (by rfl) (pa_cons (pv 1) (pa_cons (lstS (pa_cons (tupS (pa_cons pe_int (pa_cons pe_int (pa_cons pe_int pa_nil)))) (pa_cons (tupS (pa_cons pe_int (pa_cons pe_int (pa_cons pe_int pa_nil)))) (pa_cons (tupS (pa_cons pe_int (pa_cons pe_int (pa_cons pe_int pa_nil)))) (pa_cons (tupS (pa_cons pe_int (pa_cons pe_int (pa_cons pe_int pa_nil)))) pa_nil))))) pa_nil))) pa_nil))))
 (pss_cons (ps_set (i := 16) sc_law.nd rfl (Or.inl rfl) (calS g_in_product pass0 hr (by decide) (by rfl) (pa_cons (pv 4) (pa_cons (pv 5) (pa_cons (calS g_law_place pass0 hr (by decide) (by rfl) (pa_cons (pv 15) pa_nil)) pa_nil)))))
 (pss_cons (ps_if (PW.pt (pw_and (pt_cmpR op_notNS (pv 16) pe_non (nomark _)) (pw_and1 (pt_not (pt_val (calS g_law_parts_right pass0 hr (by decide) (by rfl) (pa_cons (pv 4) (pa_cons (pv 5) (pa_cons (pv 15) pa_nil))))))))) (pss_one (ps_ret pe_bl)) pss_nil)
 (pss_one (ps_if (pt_cmpR op_ne (pe_cmpR op_isNS (pv 16) pe_non (nomark _)) (pe_cmpR op_isNS (calS g_in_product pass0 hr (by decide) (by rfl) (pa_cons (pv 5) (pa_cons (pv 4) (pa_cons (calS g_law_place pass0 hr (by decide) (by rfl) (pa_cons (calS g_law_undo pass0 hr (by decide) (by rfl) (pa_cons (pv 15) pa_nil)) pa_nil)) pa_nil)))) pe_non (nomark _)) (nomark _)) (pss_one (ps_ret pe_bl)) pss_nil)))))))))
 (pss_cons (ps_set (i := 17) sc_law.nd rfl (Or.inl rfl) (calS g_law_made pass0 hr (by decide) (by rfl) (pa_cons (pv 1) (pa_cons (pv 7) (pa_cons (pv 8) (pa_cons pe_int pa_nil))))))
 (pss_cons (ps_if (PW.pt (pw_or (pt_not (pt_val (calS g_law_parts_right pass0 hr (by decide) (by rfl) (pa_cons (pv 4) (pa_cons (pv 4) (pa_cons (pv 17) pa_nil)))))) (pw_or1 (pt_not (pt_val (calS g_law_parts_right pass0 hr (by decide) (by rfl) (pa_cons (pv 4) (pa_cons (pv 5) (pa_cons (pv 17) pa_nil))))))))) (pss_one (ps_ret pe_bl)) pss_nil)
 (pss_cons (ps_set (i := 18) sc_law.nd rfl (Or.inl rfl) (calS g_law_mul pass0 hr (by decide) (by rfl) (pa_cons (pv 17) (pa_cons (tupS (pa_cons pe_int (pa_cons pe_int (pa_cons pe_int pa_nil)))) pa_nil))))
 (pss_cons (ps_set (i := 19) sc_law.nd rfl (Or.inl rfl) (pe_cmpR op_notNS (calS g_law_figures pass0 hr (by decide) (by rfl) (pa_cons (pv 7) (pa_cons (pv 8) (pa_cons (pv 18) pa_nil)))) pe_non (nomark _)))
 (pss_cons (ps_if (pt_not (pt_val (calS g_law_truth pass0 hr (by decide) (by rfl) (pa_cons (pe_cmpR op_notNS (calS g_in_product pass0 hr (by decide) (by rfl) (pa_cons (pv 4) (pa_cons (pv 4) (pa_cons (calS g_law_place pass0 hr (by decide) (by rfl) (pa_cons (pv 18) pa_nil)) pa_nil)))) pe_non (nomark _)) (pa_cons (pv 19) pa_nil))))) (pss_one (ps_ret pe_bl)) pss_nil)
 (pss_cons (ps_set (i := 20) sc_law.nd rfl (Or.inl rfl) (calS g_law_pick pass0 hr (by decide) (by rfl) (pa_cons (pv 1) (pa_cons (lstS (pa_cons pe_non (pa_cons pe_int (pa_cons (tupS (pa_cons pe_int (pa_cons pe_int (pa_cons pe_int pa_nil)))) (pa_cons pe_str (pa_cons (lstS pa_nil) (pa_cons pe_bl pa_nil))))))) pa_nil))))
 (pss_cons (ps_if (PW.pt (pw_or (pt_not (pt_val (calS g_law_ring_right pass0 hr (by decide) (by rfl) (pa_cons (pv 1) pa_nil)))) (pw_or1 (pt_not (pt_val (pe_deny T B B' D TB hr gd rfl (pa_cons (pv 4) (pa_cons (pv 5) (pa_cons (pv 20) (pa_cons (pv 20) pa_nil)))))))))) (pss_one (ps_ret pe_bl)) pss_nil)
 (pss_one (ps_ret (pe_deny T B B' D TB hr gd rfl (pa_cons (pv 4) (pa_cons (pv 5) (pa_cons (calS g_law_place pass0 hr (by decide) (by rfl) (pa_cons (pv 17) pa_nil)) (pa_cons (pv 5) pa_nil))))))))))))))))))))), ?_⟩
  walk_at "rd"
  refine ⟨a, cs, rfl, ha, fun tp H1 n1 n2 s1 hT1 => ?_⟩
  walk_at "rd"
  refine ⟨tp, 0, rfl, hT1, by omega, fun l1 xs1 gs1 H2 s2 hT2 hl1 w1 c1 b1 => ?_⟩
  walk_at "rd"
  refine ⟨4, rfl, l1, xs1, rfl, SqL.of hl1, fun m1 H3 n3 s3 hm1 => ?_⟩
  walk_at "rd"
  refine ⟨tp, _, rfl, hT2.same s3, by omega, fun l2 xs2 gs2 H4 s4 hT4 hl2 w2 c2 b2 => ?_⟩
  walk_at "rd"
  refine ⟨4, rfl, l2, xs2, rfl, SqL.of hl2, fun m2 H5 n5 s5 hm2 => ?_⟩
  rw [take_cut] at hm1 hm2
  obtain ⟨told1, et1⟩ : ∃ t, t = gs1.take 4 := ⟨_, rfl⟩
  obtain ⟨told2, et2⟩ : ∃ t, t = gs2.take 4 := ⟨_, rfl⟩
  have w1' : Rws3 H5 (xs1.take 4) told1 := by rw [et1]; exact rws3_take 4 (((w1.mono s3).sam s4).mono s5)
  have w2' : Rws3 H5 (xs2.take 4) told2 := by rw [et2]; exact rws3_take 4 (w2.mono s5)
  have tl1 : told1.length ≤ 4 := by rw [et1, List.length_take]; omega
  have tl2 : told2.length ≤ 4 := by rw [et2, List.length_take]; omega
  have tb1 : ∀ g ∈ told1, ToldB g := fun g hg => b1 g (List.mem_of_mem_take (et1 ▸ hg))
  have tb2 : ∀ g ∈ told2, ToldB g := fun g hg => b2 g (List.mem_of_mem_take (et2 ▸ hg))
  have hm1' : H5 m1 = some (.lst (xs1.take 4)) := s5 _ _ (s4.lst hm1)
  have hT5 := hT4.same s5
  have hP5 : Tabs [(P0, qD)] H5 := (tabs_sam s4 ((tabs_sam s2 (hT.ext s1)).ext s3)).ext s5
  obtain ⟨ys1, ey1⟩ : ∃ y, y = xs1.take 4 := ⟨_, rfl⟩
  obtain ⟨ys2, ey2⟩ : ∃ y, y = xs2.take 4 := ⟨_, rfl⟩
  rw [← ey1] at w1' hm1'
  rw [← ey2] at w2' hm2
  have yl1 : ys1.length ≤ 4 := by rw [w1'.1]; exact tl1
  have yl2 : ys2.length ≤ 4 := by rw [w2'.1]; exact tl2
  clear hm1 w1 w2 hl1 hl2 et1 et2 ey1 ey2 b1 b2 c1 c2 hT hT1 hT2 hT4 n1 n2 n3 n5 s1 s2 s3 s4 s5 ha
  walk_at "rd"
  refine rd_lcL hm1' (by omega) (fun k y H' => ∀ g, told1[k]? = some g → ∃ q, y = .ref q ∧ PlAt CP H' q g) (fun k y H1 H2 s h g e => let ⟨q, e1, e2⟩ := h g e; ⟨q, e1, e2.mono s⟩) (fun k y H1 D xs ys hD h g e => let ⟨q, e1, e2⟩ := h g e; ⟨q, e1, e2.monoB hD SameB.of⟩) (fun x => rfl) (fun k x H7 hx7 s7 F hF => ?_) (fun D1 zs1 H6 n6 s6 hD1 hz1 hR1 => ?_)
  · obtain ⟨q, g, rfl, eg, hq⟩ := (w1'.mono s7).get hx7
    walk_at "rd"
    refine ⟨q, g, rfl, hq, fun r H8 n8 s8 hr8 => hF _ H8 s8 fun g' eg' => ?_⟩
    rw [eg] at eg'
    cases eg'
    exact ⟨r, rfl, hr8⟩
  walk_at "rd"
  refine ⟨D1, zs1, told1, rfl, hD1, pls_of (by rw [hz1, w1'.1]) hR1, by omega, tb1, fun p1 H7 S ta1 la1 ra1 ma1 xa1 ya1 ms1 lines1 stock1 n7 s7 ht1 ok1 => ?_⟩
  walk_at "rd"
  have hm2' := s7 _ _ (s6 _ _ hm2)
  have w27 := (w2'.mono s6).mono s7
  refine rd_lcL hm2' (by omega) (fun k y H' => ∀ g, told2[k]? = some g → ∃ q, y = .ref q ∧ PlAt CP H' q g) (fun k y H1 H2 s h g e => let ⟨q, e1, e2⟩ := h g e; ⟨q, e1, e2.mono s⟩) (fun k y H1 D xs ys hD h g e => let ⟨q, e1, e2⟩ := h g e; ⟨q, e1, e2.monoB hD SameB.of⟩) (fun x => rfl) (fun k x H8 hx8 s8 F hF => ?_) (fun D2 zs2 H8 n8 s8 hD2 hz2 hR2 => ?_)
  · obtain ⟨q, g, rfl, eg, hq⟩ := (w27.mono s8).get hx8
    walk_at "rd"
    refine ⟨q, g, rfl, hq, fun r H9 n9 s9 hr9 => hF _ H9 s9 fun g' eg' => ?_⟩
    rw [eg] at eg'
    cases eg'
    exact ⟨r, rfl, hr9⟩
  walk_at "rd"
  refine ⟨D2, zs2, told2, rfl, hD2, pls_of (by rw [hz2, w2'.1]) hR2, by omega, tb2, fun p2 H9 U ta2 la2 ra2 ma2 xa2 ya2 ms2 lines2 stock2 n9 s9 ht2 ok2 => ?_⟩
  walk_at "rd"
  have s59 := fun (_ : Unit) => (s6.trans s7).trans (s8.trans s9)
  have ht19 := (ht1.mono s8).mono s9
  refine ⟨p1, m1, S, told1, ta1, la1, ra1, ma1, xa1, ya1, ys1, ms1, lines1, stock1, rfl, ht19, ok1, s59 () _ _ hm1', w1'.mono (s59 ()), by omega, tb1, fun HA sA => ?_⟩
  walk_at "rd"
  refine ⟨p2, m2, U, told2, ta2, la2, ra2, ma2, xa2, ya2, ys2, ms2, lines2, stock2, rfl, ht2.mono sA, ok2, sA _ _ (s59 () _ _ hm2), (w2'.mono (s59 ())).mono sA, by omega, tb2, fun HB sB => ?_⟩
  walk_at "rd"
  have sAB := fun (_ : Unit) => sA.trans sB
  have oS := ok1.ok
  have oU := ok2.ok
  have bS := ok1.bd
  have bU := ok2.bd
  have hS := ht19.tb.mono (sAB ())
  have hU := ht2.tb.mono (sAB ())
  have hTB := (hT5.same (s59 ())).same (sAB ())
  have hPB := (hP5.ext (s59 ())).ext (sAB ())
  have hm1B := sAB () _ _ (s59 () _ _ hm1')
  clear hm1' hm2 hm2' hD1 hD2 hR1 hR2 hz1 hz2 w1' w2' w27 ht1 ht2 ht19 hT5 hP5 s59 sAB s6 s7 s8 s9 sA sB n6 n7 n8 n9 ok1 ok2 hm1B tb1 tb2 tl1 tl2 yl1 yl2
  refine rd_ledge T hS fun lda xsa hla hxa => ?_
  have xal : xsa.length ≤ 2 := by rw [hxa.1]; exact rows_le S
  refine rd_lcT hla (by omega) (fun k y H' => ∀ g, S.rows[k]? = some g → ∃ q, y = .ref q ∧ T3 H' q g) (fun k y H1 H2 s h g e => let ⟨q, e1, e2⟩ := h g e; ⟨q, e1, e2.mono s⟩) (fun k y H1 D xs ys hD h g e => let ⟨q, e1, e2⟩ := h g e; ⟨q, e1, SameB.of _ _ (ne_of (show H1 q = _ from e2) hD (by intro z; cases z)) e2⟩) (fun x => rfl) (fun k x HC hxC sC F hF => ?_) (fun Dr zr HC nC sC hDr hzr hRr => ?_)
  · obtain ⟨q, g, rfl, eg, hq⟩ := (hxa.mono sC).get hxC
    walk_at "rd"
    refine ⟨q, g, rfl, hq, fun r H7 n7 s7 hr7 => hF _ H7 s7 fun g' eg' => ?_⟩
    rw [eg] at eg'
    cases eg'
    exact ⟨r, rfl, hr7⟩
  walk_at "rd"
  refine rd_home T (hS.mono sC) ?_
  walk_at "rd"
  refine rd_ledge T (hU.mono sC) fun ldb xsb hlb hxb => ?_
  have xbl : xsb.length ≤ 2 := by rw [hxb.1]; exact rows_le U
  refine rd_lcT hlb (by omega) (fun k y H' => ∀ g, U.rows[k]? = some g → ∃ q, y = .ref q ∧ T3 H' q g) (fun k y H1 H2 s h g e => let ⟨q, e1, e2⟩ := h g e; ⟨q, e1, e2.mono s⟩) (fun k y H1 D xs ys hD h g e => let ⟨q, e1, e2⟩ := h g e; ⟨q, e1, SameB.of _ _ (ne_of (show H1 q = _ from e2) hD (by intro z; cases z)) e2⟩) (fun x => rfl) (fun k x HD hxD sD F hF => ?_) (fun Dl zl HD nD sD hDl hzl hRl => ?_)
  · obtain ⟨q, g, rfl, eg, hq⟩ := (hxb.mono sD).get hxD
    walk_at "rd"
    refine ⟨q, g, rfl, hq, fun r H7 n7 s7 hr7 => hF _ H7 s7 fun g' eg' => ?_⟩
    rw [eg] at eg'
    cases eg'
    exact ⟨r, rfl, hr7⟩
  walk_at "rd"
  refine rd_home T ((hU.mono sC).mono sD) ?_
  walk_at "rd"
  refine rd_newL fun ll HX nx sx hll => ?_
  have sBX := fun (_ : Unit) => (sC.trans sD).trans sx
  have wr : Rws3 HX zr S.rows := ((rows_of (by rw [hzr, hxa.1]) hRr).mono sD).mono sx
  have wl : Rws3 HX zl U.rows := (rows_of (by rw [hzl, hxb.1]) hRl).mono sx
  have hDr' := sx _ _ (sD _ _ hDr)
  have hDl' := sx _ _ hDl
  have hSX := hS.mono (sBX ())
  have hUX := hU.mono (sBX ())
  have hTX := hTB.same (sBX ())
  have hPX := hPB.ext (sBX ())
  clear hDr hDl hRr hRl hzr hzl hla hlb hxa hxb hS hU hTB hPB sBX sC sD sx nC nD nx xal xbl
  refine rd_forL hll (fun i σ' H' => ∃ c6 c12 c13 c14 c15 c16, σ' = [some (.ref a), some (.ref tp.d), some (.ref m1), some (.ref m2), some (.ref p1), some (.ref p2), c6, some (.ref Dr), some (.int S.c), none, some (.ref Dl), some (.int U.c), c12, c13, c14, c15, c16, none, none, none, none] ∧ Sam HX H' ∧ TapeAt H' tp (800 + 25 * i)) ⟨none, none, none, none, none, none, rfl, .refl _, hTX⟩ (fun i σ' H' _ ⟨_, _, _, _, _, _, _, s, _⟩ => s.lst hll) ?_ ?_
  · rintro i x σ' H' hi ⟨c6, c12, c13, c14, c15, c16, rfl, sm0, hT0⟩
    obtain ⟨n, rfl, hn⟩ : ∃ n : Int, x = .int n ∧ (n = 2 ∨ n = 12) := by
      match i, hi with
      | 0, hi => exact ⟨2, (Option.some.inj hi).symm, .inl rfl⟩
      | 1, hi => exact ⟨12, (Option.some.inj hi).symm, .inr rfl⟩
      | i + 2, hi => simp at hi
    have il : i < 2 := (List.getElem?_eq_some_iff.mp hi).1
    have hb : 90 + ten n ≤ ((2 ^ 41 : Nat) : Int) := by rcases hn with rfl | rfl <;> decide
    refine rd_gname ?_
    walk_at "rd"
    have frS : ∀ g ∈ S.rows, FP 3000 g := fun g hg => let ⟨h1, h2, h3⟩ := bS.row hg; ⟨h1.mono (by omega), h2.mono (by omega), h3⟩
    have frU : ∀ g ∈ U.rows, FP 3000 g := fun g hg => let ⟨h1, h2, h3⟩ := bU.row hg; ⟨h1.mono (by omega), h2.mono (by omega), h3⟩
    refine ⟨tp, Dr, zr, S.rows, S.c, n, _, 3000, rfl, hT0, by omega, sm0.lst hDr', wr.sam sm0, rows_le S, frS, bS.c, by omega, by omega, by omega, by omega, fun r1 v1 H1 s1 hT1 hr1 md1 => ?_⟩
    have sm1 := sm0.trans s1
    walk_at "rd"
    refine ⟨tp, Dl, zl, U.rows, U.c, n, _, 3000, rfl, hT1, by omega, sm1.lst hDl', wl.sam sm1, rows_le U, frU, bU.c, by omega, by omega, by omega, by omega, fun r2 v2 H2 s2 hT2 hr2 md2 => ?_⟩
    have mv1 := made_mem oS md1
    have mv2 := made_mem oU md2
    have wv1 := made_fits bS hb md1
    have wv2 := made_fits bU hb md2
    have fv := wv1.mul wv2
    have sm2 := sm1.trans s2
    walk_at "rd"
    refine ⟨r1, r2, v1, v2, 163, rfl, hr1.sam s2, hr2, wv1.x, wv2.y, by omega, fun r3 H3 n3 s3 hr3 => ?_⟩
    have sm3 := sm2.trans (.of s3)
    have hT3 := hT2.same s3
    have ex : ∃ a b, S.Mem a ∧ U.Mem b ∧ a.mul b = v1.mul v2 := ⟨v1, v2, mv1, mv2, rfl⟩
    obtain ⟨v, ev⟩ : ∃ v, v = v1.mul v2 := ⟨_, rfl⟩
    rw [← ev] at hr3 ex fv
    clear s1 s2 s3 hr1 hr2 md1 md2 sm0 sm1 sm2 hT0 hT1 hT2 wv1 wv2 n3 ev mv1 mv2 frS frU hi hb
    walk_at "rd"
    refine ⟨p1, p2, r3, S, U, v, rfl, tb_sam sm3 hSX, tb_sam sm3 hUX, bS, bU, oS, oU, hr3, ⟨fv.1.mono (by omega), fv.2.1.mono (by omega)⟩, fv.2.2.mono (by omega), ex, fun H4 s4 => ?_⟩
    walk_at "rd"
    refine ⟨r3, v, 164, rfl, hr3.mono s4, fv.1, fv.2.1, by omega, fun r4 H5 n5 s5 hr4 => ?_⟩
    have sm5 := sm3.trans (.of (s4.trans s5))
    have hT5 := (hT3.same s4).same s5
    have hr35 := (hr3.mono s4).mono s5
    have iv : LB v.inv := inv_lb ⟨fv.1.mono (by omega), fv.2.1.mono (by omega), fv.2.2.mono (by omega)⟩
    clear s4 s5 sm3 hT3 hr3 n5
    walk_at "rd"
    refine ⟨p2, p1, r4, U, S, v.inv, rfl, tb_sam sm5 hUX, tb_sam sm5 hSX, bU, bS, oU, oS, hr4, ⟨iv.x.mono (by omega), iv.y.mono (by omega)⟩, iv.a.mono (by omega), prod_inv oS oU ex, fun H6 s6 => ?_⟩
    have sm6 := sm5.trans (.of s6)
    have hT6 := hT5.same s6
    have hr36 := hr35.mono s6
    clear s6 sm5 hT5 hr35 hr4 iv
    walk_at "rd"
    refine rd_new fun q1 H7 n7 s7 hq1 => ?_
    walk_at "rd"
    refine rd_new fun q2 H8 n8 s8 hq2 => ?_
    walk_at "rd"
    refine rd_new fun q3 H9 n9 s9 hq3 => ?_
    walk_at "rd"
    refine rd_new fun q4 HA nA sA hq4 => ?_
    walk_at "rd"
    refine rd_newL (l := by show 4 ≤ sizeLine; decide) fun lq HB nB sB hlq => ?_
    have s7B := fun (_ : Unit) => (((s7.trans s8).trans s9).trans sA).trans sB
    have hq1B : T3 HB q1 ⟨0, 0, 1⟩ := sB _ _ (sA _ _ (s9 _ _ (s8 _ _ hq1)))
    have hq2B : T3 HB q2 ⟨1, 0, 0⟩ := sB _ _ (sA _ _ (s9 _ _ hq2))
    have hq3B : T3 HB q3 ⟨0, 1, 0⟩ := sB _ _ (sA _ _ hq3)
    have hq4B : T3 HB q4 ⟨0, 0, 7⟩ := sB _ _ hq4
    have smB := sm6.trans (.of (s7B ()))
    have hTB' := hT6.same (s7B ())
    have hr3B := hr36.mono (s7B ())
    clear s7B s7 s8 s9 sA sB hq1 hq2 hq3 hq4 n7 n8 n9 nA nB sm6 hT6 hr36
    walk_at "rd"
    refine ⟨tp, lq, _, _, rfl, hTB', by omega, hlq, by show 0 < 4; decide, by show 4 ≤ 100; decide, fun x HC hx sC hTC => ?_⟩
    obtain ⟨q, hh, rfl, hq, hf⟩ : ∃ q hh, x = .ref q ∧ T3 HB q hh ∧ Fits 3 hh.x ∧ Fits 3 hh.y ∧ Fits 3 hh.a := by
      simp only [List.mem_cons, List.not_mem_nil, or_false] at hx
      rcases hx with rfl | rfl | rfl | rfl
      · exact ⟨q1, _, rfl, hq1B, ⟨by decide⟩, ⟨by decide⟩, ⟨by decide⟩⟩
      · exact ⟨q2, _, rfl, hq2B, ⟨by decide⟩, ⟨by decide⟩, ⟨by decide⟩⟩
      · exact ⟨q3, _, rfl, hq3B, ⟨by decide⟩, ⟨by decide⟩, ⟨by decide⟩⟩
      · exact ⟨q4, _, rfl, hq4B, ⟨by decide⟩, ⟨by decide⟩, ⟨by decide⟩⟩
    have smC := smB.trans sC
    have hqC := hq.sam sC
    have hr3C := hr3B.sam sC
    clear sC smB hTB' hr3B hq1B hq2B hq3B hq4B hq hx hlq
    walk_at "rd"
    refine ⟨r3, q, v, hh, 164, rfl, hr3C, hqC, fv.1, hf.2.1.mono (by omega), by omega, fun rb HD nD sD hrb => ?_⟩
    have fb := beside_lb fv hf
    obtain ⟨bs, ebs⟩ : ∃ bs, bs = v.mul hh := ⟨_, rfl⟩
    rw [← ebs] at hrb fb
    have smD := smC.trans (.of sD)
    have hTD := hTC.same sD
    clear ebs hf fv ex hr3C hqC sD smC hTC nD
    walk_at "rd"
    refine ⟨rb, bs, rfl, hrb, fun pl HE nE sE hpl => ?_⟩
    have smE := smD.trans (.of sE)
    walk_at "rd"
    refine ⟨p1, p2, pl, S, U, bs, rfl, tb_sam smE hSX, tb_sam smE hUX, bS, bU, oS, oU, hpl, ⟨fb.1.mono (by omega), fb.2.1.mono (by omega)⟩, fb.2.2.mono (by omega), fun HF sF hne => ?_, fun rf z1 z2 za zb HF sF hrf _ _ ma mb hab _ _ => ?_⟩
    · have sEF := sE.trans sF
      have smF := smD.trans (.of sEF)
      walk_at "rd"
      refine ⟨rb, bs, 165, rfl, hrb.mono sEF, fb.1, fb.2.1, by omega, fun ri HG nG sG hri => ?_⟩
      walk_at "rd"
      refine ⟨ri, bs.inv, rfl, hri, fun pj HI nI sI hpj => ?_⟩
      walk_at "rd"
      have smI := smF.trans (.of (sG.trans sI))
      have iv : LB bs.inv := inv_lb fb
      refine ⟨p2, p1, pj, U, S, bs.inv, rfl, tb_sam smI hUX, tb_sam smI hSX, bU, bS, oU, oS, hpj, ⟨iv.x.mono (by omega), iv.y.mono (by omega)⟩, iv.a.mono (by omega), fun HJ sJ _ => ?_, fun rf z1 z2 za zb HJ sJ _ _ _ ma mb hab _ _ => absurd (prod_inv' oS oU ⟨za, zb, ma, mb, hab⟩) hne⟩
      walk_at "rd"
      refine rd_ne rfl ?_
      rw [decide_eq_true rfl]
      walk_at "rd"
      exact ⟨_, _, _, _, _, _, rfl, smI.trans (.of sJ), ((hTD.same sEF).same (sG.trans (sI.trans sJ))).up (by omega)⟩
    · have sEF := sE.trans sF
      have smF := smD.trans (.of sEF)
      have exb : ∃ a b, S.Mem a ∧ U.Mem b ∧ a.mul b = bs := ⟨za, zb, ma, mb, hab⟩
      walk_at "rd"
      refine ⟨p1, p2, rb, S, U, bs, rfl, tb_sam smF hSX, tb_sam smF hUX, bS, bU, oS, oU, hrb.mono sEF, ⟨fb.1.mono (by omega), fb.2.1.mono (by omega)⟩, fb.2.2.mono (by omega), exb, fun HP sP => ?_⟩
      have smP := smF.trans (.of sP)
      walk_at "rd"
      refine ⟨rb, bs, 165, rfl, (hrb.mono sEF).mono sP, fb.1, fb.2.1, by omega, fun ri HG nG sG hri => ?_⟩
      walk_at "rd"
      refine ⟨ri, bs.inv, rfl, hri, fun pj HI nI sI hpj => ?_⟩
      walk_at "rd"
      have smI := smP.trans (.of (sG.trans sI))
      have iv : LB bs.inv := inv_lb fb
      refine ⟨p2, p1, pj, U, S, bs.inv, rfl, tb_sam smI hUX, tb_sam smI hSX, bU, bS, oU, oS, hpj, ⟨iv.x.mono (by omega), iv.y.mono (by omega)⟩, iv.a.mono (by omega), fun HJ sJ hno => absurd (prod_inv oS oU exb) hno, fun rf z1 z2 za zb HJ sJ _ _ _ _ _ _ _ _ => ?_⟩
      walk_at "rd"
      refine rd_ne rfl ?_
      rw [decide_eq_true rfl]
      walk_at "rd"
      exact ⟨_, _, _, _, _, _, rfl, smI.trans (.of sJ), (((hTD.same sEF).same sP).same (sG.trans (sI.trans sJ))).up (by omega)⟩
  · rintro σ' H' ⟨c6, c12, c13, c14, c15, c16, rfl, sm0, hT0⟩
    have frS : ∀ g ∈ S.rows, FP 3000 g := fun g hg => let ⟨h1, h2, h3⟩ := bS.row hg; ⟨h1.mono (by omega), h2.mono (by omega), h3⟩
    have hnn : [V.int 2, V.int 12].length = 2 := rfl
    rw [hnn] at hT0
    have hb9 : 90 + ten 9 ≤ ((2 ^ 41 : Nat) : Int) := by decide
    walk_at "rd"
    refine ⟨tp, Dr, zr, S.rows, S.c, 9, _, 3000, rfl, hT0, by omega, sm0.lst hDr', wr.sam sm0, rows_le S, frS, bS.c, by omega, by omega, by omega, by omega, fun ro vo H1 s1 hT1 hro md1 => ?_⟩
    have mo := made_mem oS md1
    have wo := made_fits bS hb9 md1
    have sm1 := sm0.trans s1
    have fo : Fits 164 vo.x ∧ Fits 164 vo.y ∧ Fits 3050 vo.a := ⟨wo.x.mono (by omega), wo.y.mono (by omega), wo.a.mono (by omega)⟩
    clear md1 s1 sm0 hT0 hb9 frS hnn
    walk_at "rd"
    refine ⟨p1, p1, ro, S, S, vo, rfl, tb_sam sm1 hSX, tb_sam sm1 hSX, bS, bS, oS, oS, hro, ⟨fo.1.mono (by omega), fo.2.1.mono (by omega)⟩, fo.2.2.mono (by omega), (prod_self oS).mpr mo, fun H2 s2 => ?_⟩
    walk_at "rd"
    have sm2 := sm1.trans (.of s2)
    have hro2 := hro.mono s2
    have hT2 := hT1.same s2
    clear s2 sm1 hro hT1
    refine ⟨p1, p2, ro, S, U, vo, rfl, tb_sam sm2 hSX, tb_sam sm2 hUX, bS, bU, oS, oU, hro2, ⟨fo.1.mono (by omega), fo.2.1.mono (by omega)⟩, fo.2.2.mono (by omega), prod_left oU mo, fun H3 s3 => ?_⟩
    walk_at "rd"
    refine rd_new fun q1 H4 n4 s4 hq1 => ?_
    have hq1' : T3 H4 q1 ⟨0, 0, 1⟩ := hq1
    have s34 := s3.trans s4
    have sm4 := sm2.trans (.of s34)
    have hro4 := hro2.mono s34
    have hT4 := hT2.same s34
    clear s3 s4 s34 hq1 n4 hro2 hT2 sm2
    walk_at "rd"
    refine ⟨ro, q1, vo, ⟨0, 0, 1⟩, 164, rfl, hro4, hq1', fo.1, ⟨by decide⟩, by omega, fun rw' H5 n5 s5 hrw => ?_⟩
    have fw := beside_lb fo (h := ⟨0, 0, 1⟩) ⟨⟨by decide⟩, ⟨by decide⟩, ⟨by decide⟩⟩
    obtain ⟨vw, ew⟩ : ∃ vw, vw = vo.mul ⟨0, 0, 1⟩ := ⟨_, rfl⟩
    rw [← ew] at hrw fw
    have sm5 := sm4.trans (.of s5)
    have hro5 := hro4.mono s5
    have hT5 := hT4.same s5
    clear s5 sm4 hro4 hT4 hq1' ew n5
    refine rd_seqJ (W := fun σ' H' => ∃ b : Bool, σ' = [some (.ref a), some (.ref tp.d), some (.ref m1), some (.ref m2), some (.ref p1), some (.ref p2), c6, some (.ref Dr), some (.int S.c), none, some (.ref Dl), some (.int U.c), c12, c13, c14, c15, c16, some (.ref ro), some (.ref rw'), some (.bl b), none] ∧ (b = true ↔ S.Mem vw) ∧ Same H5 H') (fun N' hN => ?_) ?_
    · walk_at "rd"
      refine ⟨Dr, rw', zr, S, vw, 60000, rfl, sm5.lst hDr', wr.sam sm5, oS, bS, hrw, ⟨fw.1.mono (by omega), fw.2.1.mono (by omega), fw.2.2.mono (by omega)⟩, by omega, fun H6 s6 hm => ?_, fun q H6 s6 hm => ?_⟩
      · walk_at "rd"
        exact hN _ _ ⟨false, rfl, ⟨fun z => (by cases z), fun z => absurd z hm⟩, s6⟩
      · walk_at "rd"
        exact hN _ _ ⟨true, rfl, ⟨fun _ => hm, fun _ => rfl⟩, s6⟩
    rintro σ' H6 ⟨b, rfl, hbm, s6⟩
    have sm6 := sm5.trans (.of s6)
    have hro6 := hro5.mono s6
    have hT6 := hT5.same s6
    have hrw6 := hrw.mono s6
    clear s6 sm5 hro5 hT5 hrw
    refine rd_seqJ (W := fun σ' H' => σ' = [some (.ref a), some (.ref tp.d), some (.ref m1), some (.ref m2), some (.ref p1), some (.ref p2), c6, some (.ref Dr), some (.int S.c), none, some (.ref Dl), some (.int U.c), c12, c13, c14, c15, c16, some (.ref ro), some (.ref rw'), some (.bl b), none] ∧ Same H6 H') (fun N' hN => ?_) ?_
    · walk_at "rd"
      refine ⟨rw', vw, rfl, hrw6, fun pl H7 n7 s7 hpl => ?_⟩
      walk_at "rd"
      refine ⟨p1, p1, pl, S, S, vw, rfl, (tb_sam sm6 hSX).mono s7, (tb_sam sm6 hSX).mono s7, bS, bS, oS, oS, hpl, ⟨fw.1.mono (by omega), fw.2.1.mono (by omega)⟩, fw.2.2.mono (by omega), fun H8 s8 hno => ?_, fun rf z1 z2 za zb H8 s8 _ _ _ ma mb hab _ _ => ?_⟩
      · walk_at "rd"
        refine ⟨false, b, rfl, ?_⟩
        have eb : b = false := by
          cases b with
          | false => rfl
          | true => exact absurd ((prod_self oS).mpr (hbm.mp rfl)) hno
        subst eb
        walk_at "rd"
        exact hN _ _ ⟨rfl, s7.trans s8⟩
      · walk_at "rd"
        refine ⟨true, b, rfl, ?_⟩
        have eb : b = true := hbm.mpr ((prod_self oS).mp ⟨za, zb, ma, mb, hab⟩)
        subst eb
        walk_at "rd"
        exact hN _ _ ⟨rfl, s7.trans s8⟩
    rintro σ' H7 ⟨rfl, s7⟩
    have sm7 := sm6.trans (.of s7)
    have hro7 := hro6.mono s7
    have hT7 := hT6.same s7
    clear s7 sm6 hro6 hT6 hrw6 hbm fw
    walk_at "rd"
    refine rd_new fun qt H8 n8 s8 hqt => ?_
    walk_at "rd"
    refine rd_newL (l := by show 0 ≤ sizeLine; decide) fun qe H9 n9 s9 hqe => ?_
    walk_at "rd"
    refine rd_newL (l := by show 6 ≤ sizeLine; decide) fun lo HA nA sA hlo => ?_
    have s7A := fun (_ : Unit) => (s8.trans s9).trans sA
    have hqtA : HA qt = some (.tup [.int 0, .int 0, .int 0]) := sA _ _ (s9 _ _ hqt)
    have hqeA : HA qe = some (.lst []) := sA _ _ hqe
    have smA := sm7.trans (.of (s7A ()))
    have hroA := hro7.mono (s7A ())
    have hTA := hT7.same (s7A ())
    clear s7A s8 s9 sA n8 n9 nA hqt hqe sm7 hro7 hT7
    walk_at "rd"
    refine ⟨tp, lo, _, _, rfl, hTA, by omega, hlo, by show 0 < 6; decide, by show 6 ≤ 100; decide, fun x HB hx sB hTB => ?_⟩
    have hqtB := sB.tup hqtA
    have hqeB := sB.lst hqeA
    have smB := smA.trans sB
    have hroB := hroA.sam sB
    clear hqtA hqeA hlo sB smA hroA hTA
    walk_at "rd"
    refine ⟨tp, _, rfl, hTB, by omega, fun HC sC => ?_⟩
    walk_at "rd"
    have hqtC := sC.tup hqtB
    have hqeC := sC.lst hqeB
    have smC := smB.trans sC
    have hroC := hroB.sam sC
    have hSC := tb_sam smC hSX
    have hUC := tb_sam smC hUX
    have hPC := tabs_sam smC hPX
    have odd : ∀ H', ExtN HC H' → NotC K CP H' x ∧ NotC K CT H' x ∧ ∃ d, Dp K H' x d ∧ d.showable = true ∧ d.hasDict = false ∧ d.depth ≤ 50 ∧ d.shown.length ≤ 1000 ∧ ∀ i, x = .int i → i.natAbs.log2 < 1920 := fun H' e => by
      have k1 : H' qt = some (.tup [.int 0, .int 0, .int 0]) := e _ _ hqtC (fun _ z => nomatch z)
      have k2 : H' qe = some (.lst []) := e _ _ hqeC (fun _ z => nomatch z)
      simp only [List.mem_cons, List.not_mem_nil, or_false] at hx
      rcases hx with rfl | rfl | rfl | rfl | rfl | rfl
      · have k := T.kOdd "NoneType" (by simp)
        exact ⟨⟨_, .base .non, k.1⟩, ⟨_, .base .non, k.2⟩, _, .non, rfl, rfl, by decide, by decide +kernel, fun i z => by cases z⟩
      · have k := T.kOdd "int" (by simp)
        exact ⟨⟨_, .base (.int 1), k.1⟩, ⟨_, .base (.int 1), k.2⟩, _, .int 1, rfl, rfl, by decide, by decide +kernel, fun i z => by cases z; decide⟩
      · have k := T.kOdd "tuple" (by simp)
        exact ⟨⟨_, .base (.tup k1), k.1⟩, ⟨_, .base (.tup k1), k.2⟩, _, .tup (SqT.of k1) (.cons (.int 0) (.cons (.int 0) (.cons (.int 0) .nil))), by decide +kernel, by decide +kernel, by decide +kernel, by decide +kernel, fun i z => by cases z⟩
      · have k := T.kOdd "str" (by simp)
        exact ⟨⟨_, .base (.str _), k.1⟩, ⟨_, .base (.str _), k.2⟩, _, .str _, by decide +kernel, by decide +kernel, by decide +kernel, by decide +kernel, fun i z => by cases z⟩
      · have k := T.kOdd "list" (by simp)
        exact ⟨⟨_, .base (.lst k2), k.1⟩, ⟨_, .base (.lst k2), k.2⟩, _, .lst (SqL.of k2) .nil, by decide +kernel, by decide +kernel, by decide +kernel, by decide +kernel, fun i z => by cases z⟩
      · have k := T.kOdd "bool" (by simp)
        exact ⟨⟨_, .base (.bl true), k.1⟩, ⟨_, .base (.bl true), k.2⟩, _, .bl true, by decide +kernel, by decide +kernel, by decide +kernel, by decide +kernel, fun i z => by cases z⟩
    unfold tDeny
    walk_at "rd"
    refine ⟨p1, p2, x, x, S, U, rfl, hPC, hSC, hUC, fun H' e => let z := odd H' e; ⟨z.2.1, .inr (.inr z)⟩, fun H' e => let z := odd H' e; ⟨z.1, .inr (.inr z)⟩, fun HD eD hPD => ?_⟩
    have hroD : T3 HD ro vo := eD _ _ hroC (fun _ z => nomatch z)
    walk_at "rd"
    refine ⟨ro, vo, rfl, hroD, fun pl HE nE sE hpl => ?_⟩
    walk_at "rd"
    have hSE := (tb_ext eD hSC).mono sE
    have hUE := (tb_ext eD hUC).mono sE
    have plX : ∀ H', ExtN HE H' → PlAt CP H' pl vo := fun H' e => let ⟨dx, z⟩ := hpl; ⟨dx, e _ _ z (fun _ y => nomatch y)⟩
    exact ⟨p1, p2, .ref pl, .ref p2, S, U, rfl, hPD.ext sE, hSE, hUE, fun H' e => ⟨pl_notT T (plX H' e), .inl ⟨pl, vo, rfl, plX H' e⟩⟩, fun H' e => ⟨tab_notP T (tb_ext e hUE), .inr (.inl ⟨p2, U, rfl, tb_ext e hUE⟩)⟩, fun H' e _ => h H'⟩
end
end Wk
namespace Wk
set_option linter.all false
set_option maxRecDepth 100000
set_option maxHeartbeats 2000000
open PySem PySem.Spec PyProof.Rows L2 LamX
/-- the heap that the law's call sees: one empty table, the script where no part of the program is it -/
def startH (K : PySem.W.Frag) (T a : Addr) (vs : List Value) (ns : List Int) : Hp := fun b => if b = T then some (.tbl #[]) else if b = a ∧ K.lookup a = none then some (.frz { cls := .type "list", data := .seq vs.toArray } (.lst (ns.map V.int))) else none
section
variable {P : Program} {w : World} {K : PySem.W.Frag} {mg mb : Str → Option Value} {fa a c T : Addr} {z : Shared} {vs : List Value} {ns : List Int}
theorem startH_T : startH K T a vs ns T = some (.tbl #[]) := if_pos rfl
theorem startH_o {b : Addr} (h : b ≠ T) : (startH K T a vs ns b = none) ∨ (b = a ∧ K.lookup a = none ∧ startH K T a vs ns b = some (.frz { cls := .type "list", data := .seq vs.toArray } (.lst (ns.map V.int)))) := by
  by_cases q : b = a ∧ K.lookup a = none
  · exact .inr ⟨q.1, q.2, (if_neg h).trans (if_pos q)⟩
  · exact .inl ((if_neg h).trans (if_neg q))
/-- the law's call where its only table is empty, run at the caller's own place -/
theorem end_call (KX : K.In z.heap) (Gm : z.heap.Ns mainGlobals mg) (Gb : z.heap.Ns builtinsNs mb) (Gn : ∀ x : Str, x ≠ "__name__" → mb x = bootBuiltins x) (Gl : z.heap.NoLimit) (Gg : z.gens = #[])
    (tE : z.heap.get? T = some { cls := .none, data := .fields #[] }) (tK : K.lookup T = none) (tC : PySem.W.CodeHd z.heap c T)
    (Gd : ∃ (bm : Addr) (ob : Obj), mg "__builtins__" = some (.ref bm) ∧ bm ≠ builtinsNs ∧ z.heap.get? bm = some ob ∧ ob.cls = .type "module" ∧ ob.dict = some builtinsNs ∧ ob.data = .plain)
    (aE : z.heap.get? a = some { cls := .type "list", data := .seq vs.toArray }) (aI : IntsAre vs ns) (aL : ns.length ≤ sizeLine)
    (F : ∀ (base : Heap) (H : Hp), K.In base → base.Ns mainGlobals mg → TabB base mg c T → Env0 P w K mg base callerA [] z H → H T = some (.tbl #[]) → SqL K H a (ns.map V.int) →
      codeAny (model P w) callerA (.call (.ref fa) ⟨[.ref a], []⟩) (CR L2.CX0 [] P w H z (fun v _ => v = .bl true) fun _ _ _ => False) z) :
    codeAny (model P w) callerA (.call (.ref fa) ⟨[.ref a], []⟩) (fun r y => r = .ok (.ret (.bool true)) ∧ OldK z.heap y.heap ∧ y.os = z.os ∧ AllBare y.gens) z := by
  have rv := vals_ints aI
  have aT : a ≠ T := fun q => by rw [q, tE] at aE; cases aE
  obtain ⟨H, eH⟩ : ∃ H, H = startH K T a vs ns := ⟨_, rfl⟩
  have HT : H T = some (.tbl #[]) := eH ▸ startH_T
  have Ho : ∀ b, b ≠ T → H b = none ∨ (b = a ∧ K.lookup a = none ∧ H b = some (.frz { cls := .type "list", data := .seq vs.toArray } (.lst (ns.map V.int)))) := fun b q => eH ▸ startH_o q
  have Ha : K.lookup a = none → H a = some (.frz { cls := .type "list", data := .seq vs.toArray } (.lst (ns.map V.int))) := fun q => by rw [eH]; exact (if_neg aT).trans (if_pos ⟨rfl, q⟩)
  clear eH
  have hok : HOk P w H z.heap := fun b u q => by
    by_cases e : b = T
    · subst e
      rw [HT] at q
      cases q
      exact tE
    · rcases Ho b e with n | ⟨rfl, _, n⟩
      · rw [n] at q; cases q
      · rw [n] at q
        cases q
        exact ⟨aE, by rw [List.length_map]; exact aL, vs, _, rv, aE⟩
  have sq : SqL K H a (ns.map V.int) := by
    cases hk : K.lookup a with
    | none =>
      exact .inl (.inr ⟨{ cls := .type "list", data := .seq vs.toArray }, Ha hk⟩)
    | some o =>
      have e := KX a o hk
      rw [aE] at e
      cases e
      exact .inr ⟨_, vs.toArray, _, hk, rfl, rfl, rfl, by rw [List.size_toArray, aI.length]; exact aL, by simpa using rv⟩
  -- what is not tracked stands in the hidden heap
  have free : ∀ {b : Addr} {o : Obj}, z.heap.get? b = some o → o.data ≠ .fields #[] → (∀ us n, o.data ≠ .seq us n) → H b = none := fun {b o} e q1 q2 => by
    have nT : b ≠ T := fun q => by rw [q, tE] at e; cases e; exact q1 rfl
    rcases Ho b nT with n | ⟨q, _, _⟩
    · exact n
    · rw [q, aE] at e; cases e; exact absurd rfl (q2 _ _)
  have stay : ∀ {b : Addr} {o : Obj}, z.heap.get? b = some o → o.data ≠ .fields #[] → (∀ us n, o.data ≠ .seq us n) → (hidT z.heap H).get? b = some o := fun e q1 q2 => hidT_get e (free e q1 q2)
  have spaces : ∀ {b : Addr} {m : Str → Option Value}, z.heap.Ns b m → (hidT z.heap H).Ns b m := fun ⟨o, es, ep, e, d, r⟩ => ⟨o, es, ep, stay e (by rw [d]; intro q; cases q) (by rw [d]; intro _ _ q; cases q), d, r⟩
  have KB : K.In (hidT z.heap H) := fun b o e => hidT_get (KX b o e) (by
    have nT : b ≠ T := fun q => by rw [q, tK] at e; cases e
    rcases Ho b nT with n | ⟨q, k, _⟩
    · exact n
    · rw [q, k] at e; cases e)
  have GB := spaces Gm
  have MB : L2.Mod K mg (hidT z.heap H) := ⟨KB, GB, ⟨mb, spaces Gb, Gn⟩, let ⟨mc, h1, h2⟩ := Gl; ⟨mc, spaces h1, h2⟩⟩
  have TB : TabB (hidT z.heap H) mg c T := by
    refine ⟨?_, ?_, fun q => ?_⟩
    · obtain ⟨o, us, file, tf, flags, tg, inF, text, tt, e1, r1, r2, r3, r⟩ := tC
      exact ⟨o, us, file, tf, flags, tg, inF, text, tt, stay e1 (fun q => by rw [r2] at q; cases q; simp at r3) (fun _ _ q => by rw [r2] at q; cases q), r1, r2, r3, r⟩
    · obtain ⟨bm, ob, b1, b2, b3, b4, b5, b6⟩ := Gd
      refine ⟨bm, ob, b1, b2, fun q => ?_, fun q => ?_, stay b3 (by rw [b6]; intro y; cases y) (by rw [b6]; intro _ _ y; cases y), b4, b5, b6⟩
      · obtain ⟨o, es, ep, e, hd, _⟩ := Gm
        rw [q, e] at b3; cases b3; rw [hd] at b6; cases b6
      · rw [q, tE] at b3; cases b3; cases b6
    · obtain ⟨o, es, ep, e, hd, _⟩ := Gm
      rw [q, tE] at e; cases e; cases hd
  have E0' : Env0 P w K mg (hidT z.heap H) callerA [] z H := ⟨rfl, MB, fun b o e => of_hidT e, Nat.le_of_eq (hidT_size _ _), trivial, (fun b hb => nomatch hb), hok, .of_eq Gg⟩
  refine codeAny_mono (F _ H KB GB TB E0' HT sq) fun r y q => ?_
  match r, q with
  | .error e, q => exact False.elim q
  | .ok .next, q => exact False.elim q
  | .ok .brk, q => exact False.elim q
  | .ok .cont, q => exact False.elim q
  | .ok (.ret u), ⟨v, H', os, bare, un, hok', r', q'⟩ =>
    have q2 : v = V.bl true := q'
    subst q2
    obtain rfl : u = Value.bool true := r'
    have key : ∀ b o, b ≠ T → z.heap.get? b = some o → y.heap.get? b = some o := fun b o nb e => by
      rcases Ho b nb with n | ⟨_, _, n⟩
      · exact un.keep b o e n (fun q => nomatch q) (by simp)
      · obtain ⟨e1, _⟩ := hok b _ n
        obtain ⟨e2, _⟩ := hok' b _ (un.frzs b _ _ n)
        rw [e] at e1; cases e1
        exact e2
    obtain ⟨more, gz⟩ := un.tbls T #[] HT
    have gT : y.heap.get? T = some { cls := .none, data := .fields _ } := hok' T _ gz
    refine ⟨rfl, ⟨fun b o e => ?_, fun b o e => ?_⟩, os, bare⟩
    · by_cases hb : b = T
      · subst hb
        rw [tE] at e; cases e
        exact .inr (.inl ⟨(tC.tab tE).isCodeTable, rfl, #[], more, rfl, by rw [Array.empty_append]; simpa using gT⟩)
      · exact .inl (key b o hb e)
    · by_cases hb : b = T
      · subst hb; exact ⟨_, gT⟩
      · exact ⟨o, key b o hb e⟩
/-- law, called by the caller -/
theorem law_run {base : Heap} {H : Hp} {CP CB CT CE fI : Addr} {cs : List Int} (X : Txt K mg CP CB CT CE) (B : BPx P K mg CE fI) (B' : BPs K CE) (D : DefC K mg "_law_denied_right" s__law_denied_right ["_law_table", "_law_other", "_law_odd", "_law_near"] c) (TB : TabB base mg c T)
    (hfa : mg "law" = some (.ref fa)) (e0 : Env0 P w K mg base callerA [] z H) (hT : H T = some (.tbl #[])) (ha : SqL K H a (cs.map V.int)) :
    codeAny (model P w) callerA (.call (.ref fa) ⟨[.ref a], []⟩) (CR L2.CX0 [] P w H z (fun v _ => v = .bl true) fun _ _ _ => False) z := by
  obtain ⟨f, fd, F1, hm, b⟩ := X.f_law
  rw [hm] at hfa
  cases hfa
  obtain ⟨oc, od, kV, doc, pm, an, cdv, ct, osl, rfl, lk, hcd⟩ := F1.ex
  have KX : K.In z.heap := e0.mod.kin.keeps fun b o e => (e0.bs b o e).1
  have b1 := b z [.ref a] KX rfl
  refine run_ofS lk hcd sc_law (⟨rfl, by decide, by decide⟩ : Room 14 callerA) e0 b1 (vs := [V.ref a]) (.cons rfl .nil) rfl fun hr' => ?_
  obtain ⟨t, h1, h2⟩ := law_body (P := P) (w := w) (base := base) (a := a) (outer := []) (s := z) (cdv := cdv) (g := fa) (Q := fun v _ => v = .bl true) (E := fun _ _ _ => False) X B B' D TB (A := callerA) rfl hr' (fun p hp => by cases List.mem_singleton.mp hp; exact TabS.nil hT) ha (fun _ => rfl)
  exact ⟨t, h1.nox, h2⟩
end
/-- the row's walk -/
theorem end_walk {l : PySem.W.OpenLaw} {n : Nat} {q : Program} {loose : List Str} {XP : (Str → Option Value) → Heap → Prop} {YP : World → Heap → Prop} {d : DefRec} {K : Params → PySem.W.Frag} (hn : l.most = some n) (hn2 : n ≤ sizeLine) (hdf : d.params.defaults = [])
    (hY : ∀ (w : World) (h : Heap), YP w h → (K w.params).In h) (F : ∀ (w : World) (mg : Str → Option Value) (fa : Addr) (h : Heap), YP w h → (K w.params).In h → h.Ns mainGlobals mg → mg d.name = some (.ref fa) → ∃ c T : Addr, (K w.params).In h ∧ h.get? T = some { cls := .none, data := .fields #[] } ∧ (K w.params).lookup T = none ∧ PySem.W.CodeHd h c T ∧
      ∀ (z : Shared) (base : Heap) (H : Hp) (a : Addr) (cs : List Int), TabB base mg c T → Env0 l.prog w (K w.params) mg base callerA [] z H → H T = some (.tbl #[]) → SqL (K w.params) H a (cs.map V.int) →
        codeAny (model l.prog w) callerA (.call (.ref fa) ⟨[.ref a], []⟩) (CR L2.CX0 [] l.prog w H z (fun v _ => v = .bl true) fun _ _ _ => False) z) :
    PySem.W.WalkO q loose XP YP l.row.toRowW d [] (fun f vs => PySem.call f vs) := by
  refine Att.attach_callB hn hdf fun w s0 s1 mg mb fa o pm cd doc a vs ns G Y ho hd hcd hmg hobj hints hlen hbits hg => ?_
  obtain ⟨c, T, KX, e1, e2, e3, run⟩ := F w mg fa _ Y (hY w _ Y) G.T.g hmg
  exact end_call KX G.T.g G.T.b G.T.builtins G.T.nolimit hg e1 e2 e3 G.T.bmain hobj hints (Nat.le_trans hlen hn2) fun base H _ _ TB E HT sq => run s1 base H a ns TB E HT sq
end Wk
namespace Wk
set_option linter.all false
set_option maxRecDepth 100000
set_option maxHeartbeats 1000000
open PySem PySem.Spec PyProof.Rows L2 LamX
/-! how the arguments bind -/
theorem ba_is_integer (kV doc pm : Value) (an : Option Addr) (cdv ct : Value) (us : List Value) (hl : us.length = 1) : bindArgs (PySem.W.fnOf "is_integer" "is_integer" (defArgs (top 2)) (defBody (top 2)) (defScope (top 2)) .none kV doc pm an cdv ct) ⟨us, []⟩ = pure ((["value"] : List Str).zip us) := match us, hl with
  | [_], _ => rfl
theorem ba_bezout_of (kV doc pm : Value) (an : Option Addr) (cdv ct : Value) (us : List Value) (hl : us.length = 2) : bindArgs (PySem.W.fnOf "bezout_of" "bezout_of" (defArgs (top 3)) (defBody (top 3)) (defScope (top 3)) .none kV doc pm an cdv ct) ⟨us, []⟩ = pure ((["one", "other"] : List Str).zip us) := match us, hl with
  | [_, _], _ => rfl
theorem ba_divisor_of (kV doc pm : Value) (an : Option Addr) (cdv ct : Value) (us : List Value) (hl : us.length = 2) : bindArgs (PySem.W.fnOf "divisor_of" "divisor_of" (defArgs (top 4)) (defBody (top 4)) (defScope (top 4)) .none kV doc pm an cdv ct) ⟨us, []⟩ = pure ((["one", "other"] : List Str).zip us) := match us, hl with
  | [_, _], _ => rfl
theorem ba_pairs_below (kV doc pm : Value) (an : Option Addr) (cdv ct : Value) (us : List Value) (hl : us.length = 1) : bindArgs (PySem.W.fnOf "pairs_below" "pairs_below" (defArgs (top 5)) (defBody (top 5)) (defScope (top 5)) .none kV doc pm an cdv ct) ⟨us, []⟩ = pure ((["number"] : List Str).zip us) := match us, hl with
  | [_], _ => rfl
theorem ba_row_sum (kV doc pm : Value) (an : Option Addr) (cdv ct : Value) (us : List Value) (hl : us.length = 2) : bindArgs (PySem.W.fnOf "row_sum" "row_sum" (defArgs (top 7)) (defBody (top 7)) (defScope (top 7)) .none kV doc pm an cdv ct) ⟨us, []⟩ = pure ((["one", "other"] : List Str).zip us) := match us, hl with
  | [_, _], _ => rfl
theorem ba_row_times (kV doc pm : Value) (an : Option Addr) (cdv ct : Value) (us : List Value) (hl : us.length = 2) : bindArgs (PySem.W.fnOf "row_times" "row_times" (defArgs (top 8)) (defBody (top 8)) (defScope (top 8)) .none kV doc pm an cdv ct) ⟨us, []⟩ = pure ((["number", "row"] : List Str).zip us) := match us, hl with
  | [_, _], _ => rfl
theorem ba_steered_one (kV doc pm : Value) (an : Option Addr) (cdv ct : Value) (us : List Value) (hl : us.length = 5) : bindArgs (PySem.W.fnOf "steered_one" "steered_one" (defArgs (top 9)) (defBody (top 9)) (defScope (top 9)) .none kV doc pm an cdv ct) ⟨us, []⟩ = pure ((["point", "row", "value", "goal", "modulus"] : List Str).zip us) := match us, hl with
  | [_, _, _, _, _], _ => rfl
theorem ba_steered (kV doc pm : Value) (an : Option Addr) (cdv ct : Value) (us : List Value) (hl : us.length = 5) : bindArgs (PySem.W.fnOf "steered" "steered" (defArgs (top 10)) (defBody (top 10)) (defScope (top 10)) .none kV doc pm an cdv ct) ⟨us, []⟩ = pure ((["point", "rows", "values", "goal", "modulus"] : List Str).zip us) := match us, hl with
  | [_, _, _, _, _], _ => rfl
theorem ba_forms_of (kV doc pm : Value) (an : Option Addr) (cdv ct : Value) (us : List Value) (hl : us.length = 1) : bindArgs (PySem.W.fnOf "forms_of" "forms_of" (defArgs (top 11)) (defBody (top 11)) (defScope (top 11)) .none kV doc pm an cdv ct) ⟨us, []⟩ = pure ((["rows"] : List Str).zip us) := match us, hl with
  | [_], _ => rfl
theorem ba_form_at (kV doc pm : Value) (an : Option Addr) (cdv ct : Value) (us : List Value) (hl : us.length = 2) : bindArgs (PySem.W.fnOf "form_at" "form_at" (defArgs (top 12)) (defBody (top 12)) (defScope (top 12)) .none kV doc pm an cdv ct) ⟨us, []⟩ = pure ((["form", "row"] : List Str).zip us) := match us, hl with
  | [_, _], _ => rfl
theorem ba_need_place (kV doc pm : Value) (an : Option Addr) (cdv ct : Value) (us : List Value) (hl : us.length = 1) : bindArgs (PySem.W.fnOf "need_place" "need_place" (defArgs (top 23)) (defBody (top 23)) (defScope (top 23)) .none kV doc pm an cdv ct) ⟨us, []⟩ = pure ((["value"] : List Str).zip us) := match us, hl with
  | [_], _ => rfl
theorem ba_need_places (kV doc pm : Value) (an : Option Addr) (cdv ct : Value) (us : List Value) (hl : us.length = 1) : bindArgs (PySem.W.fnOf "need_places" "need_places" (defArgs (top 24)) (defBody (top 24)) (defScope (top 24)) .none kV doc pm an cdv ct) ⟨us, []⟩ = pure ((["values"] : List Str).zip us) := match us, hl with
  | [_], _ => rfl
theorem ba_x_of (kV doc pm : Value) (an : Option Addr) (cdv ct : Value) (us : List Value) (hl : us.length = 1) : bindArgs (PySem.W.fnOf "x_of" "x_of" (defArgs (top 28)) (defBody (top 28)) (defScope (top 28)) .none kV doc pm an cdv ct) ⟨us, []⟩ = pure ((["place"] : List Str).zip us) := match us, hl with
  | [_], _ => rfl
theorem ba_y_of (kV doc pm : Value) (an : Option Addr) (cdv ct : Value) (us : List Value) (hl : us.length = 1) : bindArgs (PySem.W.fnOf "y_of" "y_of" (defArgs (top 29)) (defBody (top 29)) (defScope (top 29)) .none kV doc pm an cdv ct) ⟨us, []⟩ = pure ((["place"] : List Str).zip us) := match us, hl with
  | [_], _ => rfl
theorem ba_area_of (kV doc pm : Value) (an : Option Addr) (cdv ct : Value) (us : List Value) (hl : us.length = 1) : bindArgs (PySem.W.fnOf "area_of" "area_of" (defArgs (top 30)) (defBody (top 30)) (defScope (top 30)) .none kV doc pm an cdv ct) ⟨us, []⟩ = pure ((["place"] : List Str).zip us) := match us, hl with
  | [_], _ => rfl
theorem ba_put_right (kV doc pm : Value) (an : Option Addr) (cdv ct : Value) (us : List Value) (hl : us.length = 3) : bindArgs (PySem.W.fnOf "put_right" "put_right" (defArgs (top 32)) (defBody (top 32)) (defScope (top 32)) .none kV doc pm an cdv ct) ⟨us, []⟩ = pure ((["brew", "number", "part"] : List Str).zip us) := match us, hl with
  | [_, _, _], _ => rfl
theorem ba_gathered (kV doc pm : Value) (an : Option Addr) (cdv ct : Value) (us : List Value) (hl : us.length = 2) : bindArgs (PySem.W.fnOf "gathered" "gathered" (defArgs (top 33)) (defBody (top 33)) (defScope (top 33)) .none kV doc pm an cdv ct) ⟨us, []⟩ = pure ((["brew", "many"] : List Str).zip us) := match us, hl with
  | [_, _], _ => rfl
theorem ba_settled (kV doc pm : Value) (an : Option Addr) (cdv ct : Value) (us : List Value) (hl : us.length = 4) : bindArgs (PySem.W.fnOf "settled" "settled" (defArgs (top 34)) (defBody (top 34)) (defScope (top 34)) .none kV doc pm an cdv ct) ⟨us, []⟩ = pure ((["brew", "upper", "lower", "root"] : List Str).zip us) := match us, hl with
  | [_, _, _, _], _ => rfl
theorem ba_need_table (kV doc pm : Value) (an : Option Addr) (cdv ct : Value) (us : List Value) (hl : us.length = 1) : bindArgs (PySem.W.fnOf "need_table" "need_table" (defArgs (top 37)) (defBody (top 37)) (defScope (top 37)) .none kV doc pm an cdv ct) ⟨us, []⟩ = pure ((["value"] : List Str).zip us) := match us, hl with
  | [_], _ => rfl
theorem ba_both_areas (kV doc pm : Value) (an : Option Addr) (cdv ct : Value) (us : List Value) (hl : us.length = 4) : bindArgs (PySem.W.fnOf "both_areas" "both_areas" (defArgs (top 39)) (defBody (top 39)) (defScope (top 39)) .none kV doc pm an cdv ct) ⟨us, []⟩ = pure ((["one", "other", "goal", "row"] : List Str).zip us) := match us, hl with
  | [_, _, _, _], _ => rfl
theorem ba_in_product (kV doc pm : Value) (an : Option Addr) (cdv ct : Value) (us : List Value) (hl : us.length = 3) : bindArgs (PySem.W.fnOf "in_product" "in_product" (defArgs (top 40)) (defBody (top 40)) (defScope (top 40)) .none kV doc pm an cdv ct) ⟨us, []⟩ = pure ((["one", "other", "place"] : List Str).zip us) := match us, hl with
  | [_, _, _], _ => rfl
theorem ba_parted (kV doc pm : Value) (an : Option Addr) (cdv ct : Value) (us : List Value) (hl : us.length = 4) : bindArgs (PySem.W.fnOf "parted" "parted" (defArgs (top 41)) (defBody (top 41)) (defScope (top 41)) .none kV doc pm an cdv ct) ⟨us, []⟩ = pure ((["one", "other", "place", "row"] : List Str).zip us) := match us, hl with
  | [_, _, _, _], _ => rfl
theorem ba_law_begin (kV doc pm : Value) (an : Option Addr) (cdv ct : Value) (us : List Value) (hl : us.length = 1) : bindArgs (PySem.W.fnOf "_law_begin" "_law_begin" (defArgs (top 43)) (defBody (top 43)) (defScope (top 43)) .none kV doc pm an cdv ct) ⟨us, []⟩ = pure ((["_law_script"] : List Str).zip us) := match us, hl with
  | [_], _ => rfl
theorem ba_law_draw (kV doc pm : Value) (an : Option Addr) (cdv ct : Value) (us : List Value) (hl : us.length = 2) : bindArgs (PySem.W.fnOf "_law_draw" "_law_draw" (defArgs (top 44)) (defBody (top 44)) (defScope (top 44)) .none kV doc pm an cdv ct) ⟨us, []⟩ = pure ((["_law_tape", "_law_limit"] : List Str).zip us) := match us, hl with
  | [_, _], _ => rfl
theorem ba_law_pick (kV doc pm : Value) (an : Option Addr) (cdv ct : Value) (us : List Value) (hl : us.length = 2) : bindArgs (PySem.W.fnOf "_law_pick" "_law_pick" (defArgs (top 45)) (defBody (top 45)) (defScope (top 45)) .none kV doc pm an cdv ct) ⟨us, []⟩ = pure ((["_law_tape", "_law_some"] : List Str).zip us) := match us, hl with
  | [_, _], _ => rfl
theorem ba_law_ten (kV doc pm : Value) (an : Option Addr) (cdv ct : Value) (us : List Value) (hl : us.length = 1) : bindArgs (PySem.W.fnOf "_law_ten" "_law_ten" (defArgs (top 46)) (defBody (top 46)) (defScope (top 46)) .none kV doc pm an cdv ct) ⟨us, []⟩ = pure ((["_law_figures_here"] : List Str).zip us) := match us, hl with
  | [_], _ => rfl
theorem ba_law_long (kV doc pm : Value) (an : Option Addr) (cdv ct : Value) (us : List Value) (hl : us.length = 2) : bindArgs (PySem.W.fnOf "_law_long" "_law_long" (defArgs (top 47)) (defBody (top 47)) (defScope (top 47)) .none kV doc pm an cdv ct) ⟨us, []⟩ = pure ((["_law_tape", "_law_figures_here"] : List Str).zip us) := match us, hl with
  | [_, _], _ => rfl
theorem ba_law_size (kV doc pm : Value) (an : Option Addr) (cdv ct : Value) (us : List Value) (hl : us.length = 2) : bindArgs (PySem.W.fnOf "_law_size" "_law_size" (defArgs (top 48)) (defBody (top 48)) (defScope (top 48)) .none kV doc pm an cdv ct) ⟨us, []⟩ = pure ((["_law_tape", "_law_figures_here"] : List Str).zip us) := match us, hl with
  | [_, _], _ => rfl
theorem ba_law_number (kV doc pm : Value) (an : Option Addr) (cdv ct : Value) (us : List Value) (hl : us.length = 2) : bindArgs (PySem.W.fnOf "_law_number" "_law_number" (defArgs (top 49)) (defBody (top 49)) (defScope (top 49)) .none kV doc pm an cdv ct) ⟨us, []⟩ = pure ((["_law_tape", "_law_figures_here"] : List Str).zip us) := match us, hl with
  | [_, _], _ => rfl
theorem ba_law_gcd (kV doc pm : Value) (an : Option Addr) (cdv ct : Value) (us : List Value) (hl : us.length = 2) : bindArgs (PySem.W.fnOf "_law_gcd" "_law_gcd" (defArgs (top 50)) (defBody (top 50)) (defScope (top 50)) .none kV doc pm an cdv ct) ⟨us, []⟩ = pure ((["_law_one", "_law_other"] : List Str).zip us) := match us, hl with
  | [_, _], _ => rfl
theorem ba_law_whole_is (kV doc pm : Value) (an : Option Addr) (cdv ct : Value) (us : List Value) (hl : us.length = 2) : bindArgs (PySem.W.fnOf "_law_whole_is" "_law_whole_is" (defArgs (top 51)) (defBody (top 51)) (defScope (top 51)) .none kV doc pm an cdv ct) ⟨us, []⟩ = pure ((["_law_value", "_law_due"] : List Str).zip us) := match us, hl with
  | [_, _], _ => rfl
theorem ba_law_truth (kV doc pm : Value) (an : Option Addr) (cdv ct : Value) (us : List Value) (hl : us.length = 2) : bindArgs (PySem.W.fnOf "_law_truth" "_law_truth" (defArgs (top 52)) (defBody (top 52)) (defScope (top 52)) .none kV doc pm an cdv ct) ⟨us, []⟩ = pure ((["_law_value", "_law_due"] : List Str).zip us) := match us, hl with
  | [_, _], _ => rfl
theorem ba_law_mul (kV doc pm : Value) (an : Option Addr) (cdv ct : Value) (us : List Value) (hl : us.length = 2) : bindArgs (PySem.W.fnOf "_law_mul" "_law_mul" (defArgs (top 53)) (defBody (top 53)) (defScope (top 53)) .none kV doc pm an cdv ct) ⟨us, []⟩ = pure ((["_law_one", "_law_other"] : List Str).zip us) := match us, hl with
  | [_, _], _ => rfl
theorem ba_law_undo (kV doc pm : Value) (an : Option Addr) (cdv ct : Value) (us : List Value) (hl : us.length = 1) : bindArgs (PySem.W.fnOf "_law_undo" "_law_undo" (defArgs (top 54)) (defBody (top 54)) (defScope (top 54)) .none kV doc pm an cdv ct) ⟨us, []⟩ = pure ((["_law_one"] : List Str).zip us) := match us, hl with
  | [_], _ => rfl
theorem ba_law_pow (kV doc pm : Value) (an : Option Addr) (cdv ct : Value) (us : List Value) (hl : us.length = 2) : bindArgs (PySem.W.fnOf "_law_pow" "_law_pow" (defArgs (top 55)) (defBody (top 55)) (defScope (top 55)) .none kV doc pm an cdv ct) ⟨us, []⟩ = pure ((["_law_one", "_law_times"] : List Str).zip us) := match us, hl with
  | [_, _], _ => rfl
theorem ba_law_prod (kV doc pm : Value) (an : Option Addr) (cdv ct : Value) (us : List Value) (hl : us.length = 1) : bindArgs (PySem.W.fnOf "_law_prod" "_law_prod" (defArgs (top 56)) (defBody (top 56)) (defScope (top 56)) .none kV doc pm an cdv ct) ⟨us, []⟩ = pure ((["_law_rows"] : List Str).zip us) := match us, hl with
  | [_], _ => rfl
theorem ba_law_place (kV doc pm : Value) (an : Option Addr) (cdv ct : Value) (us : List Value) (hl : us.length = 1) : bindArgs (PySem.W.fnOf "_law_place" "_law_place" (defArgs (top 57)) (defBody (top 57)) (defScope (top 57)) .none kV doc pm an cdv ct) ⟨us, []⟩ = pure ((["_law_row_here"] : List Str).zip us) := match us, hl with
  | [_], _ => rfl
theorem ba_law_at (kV doc pm : Value) (an : Option Addr) (cdv ct : Value) (us : List Value) (hl : us.length = 2) : bindArgs (PySem.W.fnOf "_law_at" "_law_at" (defArgs (top 58)) (defBody (top 58)) (defScope (top 58)) .none kV doc pm an cdv ct) ⟨us, []⟩ = pure ((["_law_place_here", "_law_row_here"] : List Str).zip us) := match us, hl with
  | [_, _], _ => rfl
theorem ba_law_row (kV doc pm : Value) (an : Option Addr) (cdv ct : Value) (us : List Value) (hl : us.length = 1) : bindArgs (PySem.W.fnOf "_law_row" "_law_row" (defArgs (top 59)) (defBody (top 59)) (defScope (top 59)) .none kV doc pm an cdv ct) ⟨us, []⟩ = pure ((["_law_place_here"] : List Str).zip us) := match us, hl with
  | [_], _ => rfl
theorem ba_law_ledge_right (kV doc pm : Value) (an : Option Addr) (cdv ct : Value) (us : List Value) (hl : us.length = 2) : bindArgs (PySem.W.fnOf "_law_ledge_right" "_law_ledge_right" (defArgs (top 60)) (defBody (top 60)) (defScope (top 60)) .none kV doc pm an cdv ct) ⟨us, []⟩ = pure ((["_law_rows", "_law_home"] : List Str).zip us) := match us, hl with
  | [_, _], _ => rfl
theorem ba_law_figures (kV doc pm : Value) (an : Option Addr) (cdv ct : Value) (us : List Value) (hl : us.length = 3) : bindArgs (PySem.W.fnOf "_law_figures" "_law_figures" (defArgs (top 61)) (defBody (top 61)) (defScope (top 61)) .none kV doc pm an cdv ct) ⟨us, []⟩ = pure ((["_law_rows", "_law_home", "_law_row_here"] : List Str).zip us) := match us, hl with
  | [_, _, _], _ => rfl
theorem ba_law_brewed (kV doc pm : Value) (an : Option Addr) (cdv ct : Value) (us : List Value) (hl : us.length = 2) : bindArgs (PySem.W.fnOf "_law_brewed" "_law_brewed" (defArgs (top 62)) (defBody (top 62)) (defScope (top 62)) .none kV doc pm an cdv ct) ⟨us, []⟩ = pure ((["_law_told_here", "_law_recipe"] : List Str).zip us) := match us, hl with
  | [_, _], _ => rfl
theorem ba_law_table_right (kV doc pm : Value) (an : Option Addr) (cdv ct : Value) (us : List Value) (hl : us.length = 2) : bindArgs (PySem.W.fnOf "_law_table_right" "_law_table_right" (defArgs (top 63)) (defBody (top 63)) (defScope (top 63)) .none kV doc pm an cdv ct) ⟨us, []⟩ = pure ((["_law_table", "_law_told_here"] : List Str).zip us) := match us, hl with
  | [_, _], _ => rfl
theorem ba_law_hidden (kV doc pm : Value) (an : Option Addr) (cdv ct : Value) (us : List Value) (hl : us.length = 2) : bindArgs (PySem.W.fnOf "_law_hidden" "_law_hidden" (defArgs (top 64)) (defBody (top 64)) (defScope (top 64)) .none kV doc pm an cdv ct) ⟨us, []⟩ = pure ((["_law_tape", "_law_figures_here"] : List Str).zip us) := match us, hl with
  | [_, _], _ => rfl
theorem ba_law_made (kV doc pm : Value) (an : Option Addr) (cdv ct : Value) (us : List Value) (hl : us.length = 4) : bindArgs (PySem.W.fnOf "_law_made" "_law_made" (defArgs (top 65)) (defBody (top 65)) (defScope (top 65)) .none kV doc pm an cdv ct) ⟨us, []⟩ = pure ((["_law_tape", "_law_rows", "_law_home", "_law_figures_here"] : List Str).zip us) := match us, hl with
  | [_, _, _, _], _ => rfl
theorem ba_law_told (kV doc pm : Value) (an : Option Addr) (cdv ct : Value) (us : List Value) (hl : us.length = 2) : bindArgs (PySem.W.fnOf "_law_told" "_law_told" (defArgs (top 66)) (defBody (top 66)) (defScope (top 66)) .none kV doc pm an cdv ct) ⟨us, []⟩ = pure ((["_law_tape", "_law_figures_here"] : List Str).zip us) := match us, hl with
  | [_, _], _ => rfl
theorem ba_law_kept_value (kV doc pm : Value) (an : Option Addr) (cdv ct : Value) (us : List Value) (hl : us.length = 2) : bindArgs (PySem.W.fnOf "_law_kept_value" "_law_kept_value" (defArgs (top 67)) (defBody (top 67)) (defScope (top 67)) .none kV doc pm an cdv ct) ⟨us, []⟩ = pure ((["_law_value", "_law_odd"] : List Str).zip us) := match us, hl with
  | [_, _], _ => rfl
theorem ba_law_place_refused (kV doc pm : Value) (an : Option Addr) (cdv ct : Value) (us : List Value) (hl : us.length = 2) : bindArgs (PySem.W.fnOf "_law_place_refused" "_law_place_refused" (defArgs (top 68)) (defBody (top 68)) (defScope (top 68)) .none kV doc pm an cdv ct) ⟨us, []⟩ = pure ((["_law_call", "_law_odd"] : List Str).zip us) := match us, hl with
  | [_, _], _ => rfl
theorem ba_law_parts_right (kV doc pm : Value) (an : Option Addr) (cdv ct : Value) (us : List Value) (hl : us.length = 3) : bindArgs (PySem.W.fnOf "_law_parts_right" "_law_parts_right" (defArgs (top 69)) (defBody (top 69)) (defScope (top 69)) .none kV doc pm an cdv ct) ⟨us, []⟩ = pure ((["_law_one", "_law_other", "_law_row_here"] : List Str).zip us) := match us, hl with
  | [_, _, _], _ => rfl
theorem ba_law_ring_table (kV doc pm : Value) (an : Option Addr) (cdv ct : Value) (us : List Value) (hl : us.length = 2) : bindArgs (PySem.W.fnOf "_law_ring_table" "_law_ring_table" (defArgs (top 70)) (defBody (top 70)) (defScope (top 70)) .none kV doc pm an cdv ct) ⟨us, []⟩ = pure ((["_law_tape", "_law_ring"] : List Str).zip us) := match us, hl with
  | [_, _], _ => rfl
theorem ba_law_all_rows (kV doc pm : Value) (an : Option Addr) (cdv ct : Value) (us : List Value) (hl : us.length = 1) : bindArgs (PySem.W.fnOf "_law_all_rows" "_law_all_rows" (defArgs (top 71)) (defBody (top 71)) (defScope (top 71)) .none kV doc pm an cdv ct) ⟨us, []⟩ = pure ((["_law_ring"] : List Str).zip us) := match us, hl with
  | [_], _ => rfl
theorem ba_law_ring_right (kV doc pm : Value) (an : Option Addr) (cdv ct : Value) (us : List Value) (hl : us.length = 1) : bindArgs (PySem.W.fnOf "_law_ring_right" "_law_ring_right" (defArgs (top 72)) (defBody (top 72)) (defScope (top 72)) .none kV doc pm an cdv ct) ⟨us, []⟩ = pure ((["_law_tape"] : List Str).zip us) := match us, hl with
  | [_], _ => rfl
theorem ba_law_denied_right (kV doc pm : Value) (an : Option Addr) (cdv ct : Value) (us : List Value) (hl : us.length = 4) : bindArgs (PySem.W.fnOf "_law_denied_right" "_law_denied_right" (defArgs (top 73)) (defBody (top 73)) (defScope (top 73)) .none kV doc pm an cdv ct) ⟨us, []⟩ = pure ((["_law_table", "_law_other", "_law_odd", "_law_near"] : List Str).zip us) := match us, hl with
  | [_, _, _, _], _ => rfl
theorem ba_law (kV doc pm : Value) (an : Option Addr) (cdv ct : Value) (us : List Value) (hl : us.length = 1) : bindArgs (PySem.W.fnOf "law" "law" (defArgs (top 74)) (defBody (top 74)) (defScope (top 74)) .none kV doc pm an cdv ct) ⟨us, []⟩ = pure ((["_law_script"] : List Str).zip us) := match us, hl with
  | [_], _ => rfl
theorem ba_Place_mul (kV doc pm : Value) (an : Option Addr) (cdv ct : Value) (us : List Value) (hl : us.length = 2) : bindArgs (PySem.W.fnOf "__mul__" "Place.__mul__" (defArgs (inClass (top 22) 2)) (defBody (inClass (top 22) 2)) (defScope (inClass (top 22) 2)) .none kV doc pm an cdv ct) ⟨us, []⟩ = pure ((["self", "other"] : List Str).zip us) := match us, hl with
  | [_, _], _ => rfl
theorem ba_Place_invert (kV doc pm : Value) (an : Option Addr) (cdv ct : Value) (us : List Value) (hl : us.length = 1) : bindArgs (PySem.W.fnOf "__invert__" "Place.__invert__" (defArgs (inClass (top 22) 3)) (defBody (inClass (top 22) 3)) (defScope (inClass (top 22) 3)) .none kV doc pm an cdv ct) ⟨us, []⟩ = pure ((["self"] : List Str).zip us) := match us, hl with
  | [_], _ => rfl
theorem ba_Place_power (kV doc pm : Value) (an : Option Addr) (cdv ct : Value) (us : List Value) (hl : us.length = 2) : bindArgs (PySem.W.fnOf "power" "Place.power" (defArgs (inClass (top 22) 4)) (defBody (inClass (top 22) 4)) (defScope (inClass (top 22) 4)) .none kV doc pm an cdv ct) ⟨us, []⟩ = pure ((["self", "number"] : List Str).zip us) := match us, hl with
  | [_, _], _ => rfl
theorem ba_Brew_line (kV doc pm : Value) (an : Option Addr) (cdv ct : Value) (us : List Value) (hl : us.length = 4) : bindArgs (PySem.W.fnOf "line" "Brew.line" (defArgs (inClass (top 27) 1)) (defBody (inClass (top 27) 1)) (defScope (inClass (top 27) 1)) .none kV doc pm an cdv ct) ⟨us, []⟩ = pure ((["self", "one", "times", "other"] : List Str).zip us) := match us, hl with
  | [_, _, _, _], _ => rfl
theorem ba_Brew_undone (kV doc pm : Value) (an : Option Addr) (cdv ct : Value) (us : List Value) (hl : us.length = 2) : bindArgs (PySem.W.fnOf "undone" "Brew.undone" (defArgs (inClass (top 27) 2)) (defBody (inClass (top 27) 2)) (defScope (inClass (top 27) 2)) .none kV doc pm an cdv ct) ⟨us, []⟩ = pure ((["self", "number"] : List Str).zip us) := match us, hl with
  | [_, _], _ => rfl
theorem ba_Brew_led_down (kV doc pm : Value) (an : Option Addr) (cdv ct : Value) (us : List Value) (hl : us.length = 4) : bindArgs (PySem.W.fnOf "led_down" "Brew.led_down" (defArgs (inClass (top 27) 3)) (defBody (inClass (top 27) 3)) (defScope (inClass (top 27) 3)) .none kV doc pm an cdv ct) ⟨us, []⟩ = pure ((["self", "upper", "lower", "part"] : List Str).zip us) := match us, hl with
  | [_, _, _, _], _ => rfl
theorem ba_Table_eq (kV doc pm : Value) (an : Option Addr) (cdv ct : Value) (us : List Value) (hl : us.length = 2) : bindArgs (PySem.W.fnOf "__eq__" "Table.__eq__" (defArgs (inClass (top 35) 1)) (defBody (inClass (top 35) 1)) (defScope (inClass (top 35) 1)) .none kV doc pm an cdv ct) ⟨us, []⟩ = pure ((["self", "other"] : List Str).zip us) := match us, hl with
  | [_, _], _ => rfl
theorem ba_Table_contains (kV doc pm : Value) (an : Option Addr) (cdv ct : Value) (us : List Value) (hl : us.length = 2) : bindArgs (PySem.W.fnOf "__contains__" "Table.__contains__" (defArgs (inClass (top 35) 2)) (defBody (inClass (top 35) 2)) (defScope (inClass (top 35) 2)) .none kV doc pm an cdv ct) ⟨us, []⟩ = pure ((["self", "place"] : List Str).zip us) := match us, hl with
  | [_, _], _ => rfl
theorem ba_Table_ends (kV doc pm : Value) (an : Option Addr) (cdv ct : Value) (us : List Value) (hl : us.length = 1) : bindArgs (PySem.W.fnOf "ends" "Table.ends" (defArgs (inClass (top 35) 6)) (defBody (inClass (top 35) 6)) (defScope (inClass (top 35) 6)) .none kV doc pm an cdv ct) ⟨us, []⟩ = pure ((["self"] : List Str).zip us) := match us, hl with
  | [_], _ => rfl
theorem ba_Table_figures (kV doc pm : Value) (an : Option Addr) (cdv ct : Value) (us : List Value) (hl : us.length = 2) : bindArgs (PySem.W.fnOf "figures" "Table.figures" (defArgs (inClass (top 35) 7)) (defBody (inClass (top 35) 7)) (defScope (inClass (top 35) 7)) .none kV doc pm an cdv ct) ⟨us, []⟩ = pure ((["self", "place"] : List Str).zip us) := match us, hl with
  | [_, _], _ => rfl
theorem ba_Table_over (kV doc pm : Value) (an : Option Addr) (cdv ct : Value) (us : List Value) (hl : us.length = 2) : bindArgs (PySem.W.fnOf "over" "Table.over" (defArgs (inClass (top 35) 9)) (defBody (inClass (top 35) 9)) (defScope (inClass (top 35) 9)) .none kV doc pm an cdv ct) ⟨us, []⟩ = pure ((["self", "row"] : List Str).zip us) := match us, hl with
  | [_, _], _ => rfl
theorem ba_k_Place (kV doc pm : Value) (an : Option Addr) (cdv ct : Value) (us : List Value) (hl : us.length = 4) : bindArgs (PySem.W.fnOf "__init__" "Place.__init__" (defArgs (inClass (top 22) 0)) (defBody (inClass (top 22) 0)) (defScope (inClass (top 22) 0)) .none kV doc pm an cdv ct) ⟨us, []⟩ = pure ((["self", "x", "y", "area"] : List Str).zip us) := match us, hl with
  | [_, _, _, _], _ => rfl
theorem ba_k_Brew (kV doc pm : Value) (an : Option Addr) (cdv ct : Value) (us : List Value) (hl : us.length = 2) : bindArgs (PySem.W.fnOf "__init__" "Brew.__init__" (defArgs (inClass (top 27) 0)) (defBody (inClass (top 27) 0)) (defScope (inClass (top 27) 0)) .none kV doc pm an cdv ct) ⟨us, []⟩ = pure ((["self", "told"] : List Str).zip us) := match us, hl with
  | [_, _], _ => rfl
theorem ba_k_Table (kV doc pm : Value) (an : Option Addr) (cdv ct : Value) (us : List Value) (hl : us.length = 2) : bindArgs (PySem.W.fnOf "__init__" "Table.__init__" (defArgs (inClass (top 35) 0)) (defBody (inClass (top 35) 0)) (defScope (inClass (top 35) 0)) .none kV doc pm an cdv ct) ⟨us, []⟩ = pure ((["self", "told"] : List Str).zip us) := match us, hl with
  | [_, _], _ => rfl
section
variable {P : Program} {K : PySem.W.Frag} {mg : Str → Option Value} {h : Heap} {f C : Addr} {od an : Option Addr} {osl : Array (Option Value)} {oc kV doc pm cdv ct : Value} {x m qual : Str} {st : Stmt} {ps : List Str}
theorem def_at (X : K.In h) (G : h.Ns mainGlobals mg) (u1 : PySem.W.nsIn K mainGlobals x = some (some (.ref f))) (u2 : K.lookup f = some ⟨oc, od, .func (PySem.W.fnOf x x (defArgs st) (defBody st) (defScope st) .none kV doc pm an cdv ct), osl⟩) (u3 : PySem.W.codeIn K cdv x = true) (u4 : PySem.W.keepIn K (.ref f) = true)
    (b : ∀ (kV doc pm : Value) (an : Option Addr) (cdv ct : Value) (us : List Value), us.length = ps.length → bindArgs (PySem.W.fnOf x x (defArgs st) (defBody st) (defScope st) .none kV doc pm an cdv ct) ⟨us, []⟩ = pure (ps.zip us)) : DefAt K mg x st ps :=
  let F := fun_mk u2 u3 u4
  ⟨f, _, F, PySem.W.mg_of X G u1, F.binds b⟩
theorem mth_at (u1 : PySem.W.findIn K (.ref C) m = some (some (.ref f))) (u2 : PySem.W.isFn K (.ref f) = true) (u3 : K.lookup f = some ⟨oc, od, .func (PySem.W.fnOf m qual (defArgs st) (defBody st) (defScope st) .none kV doc pm an cdv ct), osl⟩) (u4 : PySem.W.codeIn K cdv qual = true) (u5 : PySem.W.keepIn K (.ref f) = true) (c1 : Cls K C)
    (b : ∀ (kV doc pm : Value) (an : Option Addr) (cdv ct : Value) (us : List Value), us.length = ps.length → bindArgs (PySem.W.fnOf m qual (defArgs st) (defBody st) (defScope st) .none kV doc pm an cdv ct) ⟨us, []⟩ = pure (ps.zip us)) : MthAt K C m qual st ps :=
  let F := fun_mk u3 u4 u5
  ⟨f, _, F, ⟨u1, u2, u5⟩, c1, F.binds b⟩
theorem mk_at (X : K.In h) (G : h.Ns mainGlobals mg) (u1 : PySem.W.nsIn K mainGlobals x = some (some (.ref C))) (u2 : PySem.W.makesIn K C = true) (u3 : PySem.W.findIn K (.ref C) "__init__" = some (some (.ref f))) (u4 : PySem.W.isFn K (.ref f) = true) (u5 : PySem.W.keepIn K (.ref C) = true)
    (u6 : K.lookup f = some ⟨oc, od, .func (PySem.W.fnOf "__init__" qual (defArgs st) (defBody st) (defScope st) .none kV doc pm an cdv ct), osl⟩) (u7 : PySem.W.codeIn K cdv qual = true) (u8 : PySem.W.keepIn K (.ref f) = true)
    (b : ∀ (kV doc pm : Value) (an : Option Addr) (cdv ct : Value) (us : List Value), us.length = ps.length → bindArgs (PySem.W.fnOf "__init__" qual (defArgs st) (defBody st) (defScope st) .none kV doc pm an cdv ct) ⟨us, []⟩ = pure (ps.zip us)) : MkAt K mg x C qual st ps :=
  let F := fun_mk u6 u7 u8
  ⟨f, _, F, ⟨u2, u3, u4, u5⟩, PySem.W.mg_of X G u1, F.binds b⟩
theorem defc_at {c : Addr} (X : K.In h) (G : h.Ns mainGlobals mg) (u1 : PySem.W.nsIn K mainGlobals x = some (some (.ref f))) (u2 : K.lookup f = some ⟨oc, od, .func (PySem.W.fnOf x x (defArgs st) (defBody st) (defScope st) .none kV doc pm an (.ref c) ct), osl⟩) (u3 : PySem.W.codeIn K (.ref c) x = true) (u4 : PySem.W.keepIn K (.ref f) = true)
    (b : ∀ (kV doc pm : Value) (an : Option Addr) (cdv ct : Value) (us : List Value), us.length = ps.length → bindArgs (PySem.W.fnOf x x (defArgs st) (defBody st) (defScope st) .none kV doc pm an cdv ct) ⟨us, []⟩ = pure (ps.zip us)) : DefC K mg x st ps c :=
  ⟨f, ⟨oc, od, kV, doc, pm, an, ct, osl, u2, u3, (fun_mk u2 u3 u4).binds b⟩, PySem.W.mg_of X G u1, u4⟩
theorem odd_of {CP CT : Addr} (a1 : PySem.W.kitOne K (.type "NoneType") (.ref CP) = some false) (a2 : PySem.W.kitOne K (.type "NoneType") (.ref CT) = some false) (a3 : PySem.W.kitOne K (.type "int") (.ref CP) = some false) (a4 : PySem.W.kitOne K (.type "int") (.ref CT) = some false)
    (a5 : PySem.W.kitOne K (.type "tuple") (.ref CP) = some false) (a6 : PySem.W.kitOne K (.type "tuple") (.ref CT) = some false) (a7 : PySem.W.kitOne K (.type "str") (.ref CP) = some false) (a8 : PySem.W.kitOne K (.type "str") (.ref CT) = some false)
    (a9 : PySem.W.kitOne K (.type "list") (.ref CP) = some false) (a10 : PySem.W.kitOne K (.type "list") (.ref CT) = some false) (a11 : PySem.W.kitOne K (.type "bool") (.ref CP) = some false) (a12 : PySem.W.kitOne K (.type "bool") (.ref CT) = some false) :
    ∀ n ∈ (["NoneType", "int", "tuple", "str", "list", "bool"] : List String), PySem.W.kitOne K (.type n) (.ref CP) = some false ∧ PySem.W.kitOne K (.type n) (.ref CT) = some false := fun n hn => by
  simp only [List.mem_cons, List.not_mem_nil, or_false] at hn
  rcases hn with rfl | rfl | rfl | rfl | rfl | rfl
  · exact ⟨a1, a2⟩
  · exact ⟨a3, a4⟩
  · exact ⟨a5, a6⟩
  · exact ⟨a7, a8⟩
  · exact ⟨a9, a10⟩
  · exact ⟨a11, a12⟩
theorem oex_mk {nm q : Str} {N : Addr} {bs bm : List Value} {sn : List Str} {sub : List Value} {ab : Bool} {col : Option Bool} {dd : Option Addr} {k0 k1 k2 k3 k5 : Option Value} (q1 : K.lookup C = some (excClassObj nm q C N bs bm true sn sub ab col dd k0 k1 k2 k3 k5 "ValueError.__new__")) (q2 : PySem.HandSPX.refsVE bm = true)
    (q3 : PySem.W.findIn K (.ref C) "__setattr__" = some (some (.builtin "object.__setattr__"))) (q4 : PySem.W.subIn K (.ref C) (.type "BaseException") = some true) (q5 : PySem.W.typeIn K (.ref C) = some (.type "type")) (q6 : PySem.W.keepIn K (.ref C) = true) : OexC K C :=
  ⟨⟨nm, q, N, bs, bm, sn, sub, ab, col, dd, k0, k1, k2, k3, k5, q1, q2⟩, q3, q4, q5, q6⟩
theorem bpfn_mk {fI cda cc : Addr} {oc1 doc1 pm1 ct1 ccl cl : Value} {od1 an1 cdd cld : Option Addr} {osl1 ccs csl : Array (Option Value)} {ws : Array Value} {file : Str} {tf : Tok}
    (q1 : K.lookup fI = some ⟨oc1, od1, .func (PySem.W.ksFn "__init__" "BadPlace.__init__" (defArgs s_bp) (defBody s_bp) (defScope s_bp) .none .none doc1 pm1 an1 (.ref cda) ct1 cc), osl1⟩) (q2 : PySem.W.codeIn K (.ref cda) "BadPlace.__init__" = true)
    (q3 : K.lookup cda = some ⟨ccl, cdd, .fields ws, ccs⟩) (q4 : ws[2]? = some (.str file tf)) (q5 : ((P.main.file : Str) == file) = true) (q6 : K.lookup cc = some ⟨cl, cld, .cell (some (.ref C)), csl⟩) :
    ∃ (oc : Value) (od : Option Addr) (doc pm : Value) (an : Option Addr) (cda : Addr) (ct : Value) (osl : Array (Option Value)) (cc : Addr) (ccl : Value) (cdd : Option Addr) (vs : Array Value) (ccs : Array (Option Value)) (file : Str) (tf : Tok) (cl : Value) (cld : Option Addr) (csl : Array (Option Value)),
      K.lookup fI = some ⟨oc, od, .func (PySem.W.ksFn "__init__" "BadPlace.__init__" (defArgs s_bp) (defBody s_bp) (defScope s_bp) .none .none doc pm an (.ref cda) ct cc), osl⟩ ∧ PySem.W.codeIn K (.ref cda) "BadPlace.__init__" = true ∧
      K.lookup cda = some ⟨ccl, cdd, .fields vs, ccs⟩ ∧ vs[2]? = some (.str file tf) ∧ ((P.main.file : Str) == file) = true ∧ K.lookup cc = some ⟨cl, cld, .cell (some (.ref C)), csl⟩ :=
  ⟨oc1, od1, doc1, pm1, an1, cda, ct1, osl1, cc, ccl, cdd, ws, ccs, file, tf, cl, cld, csl, q1, q2, q3, q4, q5, q6⟩
/-- what the end asks, put together -/
theorem end_facts {w : World} {fa c T CP CB CT CE fI : Addr} (KX : K.In h) (hfa : mg "law" = some (.ref fa)) (X : Txt K mg CP CB CT CE) (B : BPx P K mg CE fI) (B' : BPs K CE)
    (D : DefC K mg "_law_denied_right" s__law_denied_right ["_law_table", "_law_other", "_law_odd", "_law_near"] c) (tC : PySem.W.codeHdIn K c T = true) (tE : h.get? T = some { cls := .none, data := .fields #[] }) (tK : K.lookup T = none) :
    ∃ c T : Addr, K.In h ∧ h.get? T = some { cls := .none, data := .fields #[] } ∧ K.lookup T = none ∧ PySem.W.CodeHd h c T ∧
      ∀ (z : Shared) (base : Heap) (H : Hp) (a : Addr) (cs : List Int), TabB base mg c T → Env0 P w K mg base callerA [] z H → H T = some (.tbl #[]) → SqL K H a (cs.map V.int) →
        codeAny (model P w) callerA (.call (.ref fa) ⟨[.ref a], []⟩) (CR L2.CX0 [] P w H z (fun v _ => v = .bl true) fun _ _ _ => False) z :=
  ⟨c, T, KX, tE, tK, PySem.W.codeHd_of_K KX tC, fun z base H a cs TB e0 hT ha => law_run X B B' D TB hfa e0 hT ha⟩
end
end Wk
set_option linter.all false
open PySem PySem.W PyProof.Rows
local macro_rules | `(tactic| walk_at "ki") => `(tactic| k_is)
local macro_rules | `(tactic| walk_at "kr") => `(tactic| kernel_rfl)
set_option maxRecDepth 100000 in
set_option maxHeartbeats 0 in
theorem PySem.Challenge.cw_areawalks_k31_whole_products_of_tables_holds : PySem.Challenge.rw_areawalks_k31_whole_products_of_tables.Holds := by
  w_on; o_law; k_head; (case hw => w_witness2)
  k_fill
  refine Wk.end_walk (l := PySem.Challenge.rw_areawalks_k31_whole_products_of_tables) rfl (by decide) rfl (fun w h Y => PySem.W.km_in_of Y) ?F
  case F =>
   intro w mg fa h Y KX G hmg
   have TE := PySem.W.km_tabs_of Y
   refine' Wk.end_facts KX hmg ?X ?B ?Bs ?D ?tC ?tE ?tK
   case B =>
    refine' { T := ?T, iC := ?iC, tI := ?tI, gC := ?gC, fn := ?fn, sup := ?sup, hB := ?hB, mr := ?mr, no := ?no, nsu := ?nsu, opq := ?opq, tp := ?tp }
    (case gC => exact PySem.W.mg_of KX G (by walk_at "ki"))
    (case T => refine' Wk.oex_mk ?q1 ?q2 ?q3 ?q4 ?q5 ?q6; (case q1 => walk_at "ki"); (case q2 => walk_at "kr"); (case q3 => walk_at "ki"); (case q4 => walk_at "ki"); (case q5 => walk_at "ki"); (case q6 => walk_at "ki"))
    (case iC => walk_at "ki")
    (case tI => walk_at "ki")
    (case fn => refine' Wk.bpfn_mk ?q1 ?q2 ?q3 ?q4 ?q5 ?q6; (case q1 => walk_at "ki"); (case q2 => walk_at "ki"); (case q3 => walk_at "ki"); (case q4 => rfl); (case q5 => walk_at "kr"); (case q6 => walk_at "ki"))
    (case sup => walk_at "kr")
    (case hB => walk_at "ki")
    (case mr => walk_at "ki")
    (case no => walk_at "ki")
    (case nsu => exact PySem.W.mg_none_of KX G (by walk_at "ki"))
    (case opq => walk_at "ki")
    (case tp => walk_at "kr")
   case Bs => exact { ex := ⟨by walk_at "ki", by walk_at "ki", by walk_at "ki", by walk_at "ki", by walk_at "ki", by walk_at "ki", by walk_at "ki", by walk_at "ki"⟩, xf := ⟨by walk_at "ki", by walk_at "ki", by walk_at "ki", by walk_at "ki"⟩, te := (by walk_at "kr"), ve := (by walk_at "kr"), no := (by walk_at "ki") }
   case X =>
    refine' { n_abs := ?n_abs, n_isinstance := ?n_isinstance, n_int := ?n_int, n_bool := ?n_bool, n_len := ?n_len, n_list := ?n_list, n_tuple := ?n_tuple, n_range := ?n_range, n_max := ?n_max, n_all := ?n_all, n_repr := ?n_repr, n_super := ?n_super, n_ValueError := ?n_ValueError, f_is_integer := ?f_is_integer, f_bezout_of := ?f_bezout_of, f_divisor_of := ?f_divisor_of, f_pairs_below := ?f_pairs_below, f_row_sum := ?f_row_sum, f_row_times := ?f_row_times, f_steered_one := ?f_steered_one, f_steered := ?f_steered, f_forms_of := ?f_forms_of, f_form_at := ?f_form_at, f_need_place := ?f_need_place, f_need_places := ?f_need_places, f_x_of := ?f_x_of, f_y_of := ?f_y_of, f_area_of := ?f_area_of, f_put_right := ?f_put_right, f_gathered := ?f_gathered, f_settled := ?f_settled, f_need_table := ?f_need_table, f_both_areas := ?f_both_areas, f_in_product := ?f_in_product, f_parted := ?f_parted, f_law_begin := ?f_law_begin, f_law_draw := ?f_law_draw, f_law_pick := ?f_law_pick, f_law_ten := ?f_law_ten, f_law_long := ?f_law_long, f_law_size := ?f_law_size, f_law_number := ?f_law_number, f_law_gcd := ?f_law_gcd, f_law_whole_is := ?f_law_whole_is, f_law_truth := ?f_law_truth, f_law_mul := ?f_law_mul, f_law_undo := ?f_law_undo, f_law_pow := ?f_law_pow, f_law_prod := ?f_law_prod, f_law_place := ?f_law_place, f_law_at := ?f_law_at, f_law_row := ?f_law_row, f_law_ledge_right := ?f_law_ledge_right, f_law_figures := ?f_law_figures, f_law_brewed := ?f_law_brewed, f_law_table_right := ?f_law_table_right, f_law_hidden := ?f_law_hidden, f_law_made := ?f_law_made, f_law_told := ?f_law_told, f_law_kept_value := ?f_law_kept_value, f_law_place_refused := ?f_law_place_refused, f_law_parts_right := ?f_law_parts_right, f_law_ring_table := ?f_law_ring_table, f_law_all_rows := ?f_law_all_rows, f_law_ring_right := ?f_law_ring_right, f_law_denied_right := ?f_law_denied_right, f_law := ?f_law, m_Place_mul := ?m_Place_mul, m_Place_invert := ?m_Place_invert, m_Place_power := ?m_Place_power, m_Brew_line := ?m_Brew_line, m_Brew_undone := ?m_Brew_undone, m_Brew_led_down := ?m_Brew_led_down, m_Table_eq := ?m_Table_eq, m_Table_contains := ?m_Table_contains, m_Table_ends := ?m_Table_ends, m_Table_figures := ?m_Table_figures, m_Table_over := ?m_Table_over, k_Place := ?k_Place, k_Brew := ?k_Brew, k_Table := ?k_Table, cl_Place := ?cl_Place, cl_Brew := ?cl_Brew, cl_Table := ?cl_Table, a_CP_x := ?a_CP_x, a_CP_y := ?a_CP_y, a_CP_area := ?a_CP_area, a_CB_stock := ?a_CB_stock, a_CB_lines := ?a_CB_lines, a_CT_told := ?a_CT_told, a_CT_ledge := ?a_CT_ledge, a_CT_home := ?a_CT_home, a_CT_recipe := ?a_CT_recipe, a_CT_made := ?a_CT_made, plFirst := ?plFirst, g_Place := ?g_Place, g_Table := ?g_Table, isP := ?isP, isT := ?isT, kPT := ?kPT, kTP := ?kTP, kOdd := ?kOdd, most := ?most }
    (case n_abs => exact PySem.W.mg_none_of KX G (by walk_at "ki"))
    (case n_isinstance => exact PySem.W.mg_none_of KX G (by walk_at "ki"))
    (case n_int => exact PySem.W.mg_none_of KX G (by walk_at "ki"))
    (case n_bool => exact PySem.W.mg_none_of KX G (by walk_at "ki"))
    (case n_len => exact PySem.W.mg_none_of KX G (by walk_at "ki"))
    (case n_list => exact PySem.W.mg_none_of KX G (by walk_at "ki"))
    (case n_tuple => exact PySem.W.mg_none_of KX G (by walk_at "ki"))
    (case n_range => exact PySem.W.mg_none_of KX G (by walk_at "ki"))
    (case n_max => exact PySem.W.mg_none_of KX G (by walk_at "ki"))
    (case n_all => exact PySem.W.mg_none_of KX G (by walk_at "ki"))
    (case n_repr => exact PySem.W.mg_none_of KX G (by walk_at "ki"))
    (case n_super => exact PySem.W.mg_none_of KX G (by walk_at "ki"))
    (case n_ValueError => exact PySem.W.mg_none_of KX G (by walk_at "ki"))
    (case g_Place => exact PySem.W.mg_of KX G (by walk_at "ki"))
    (case g_Table => exact PySem.W.mg_of KX G (by walk_at "ki"))
    (case cl_Place => exact ⟨by walk_at "ki", by walk_at "ki", by walk_at "ki", by walk_at "ki"⟩)
    (case cl_Table => exact ⟨by walk_at "ki", by walk_at "ki", by walk_at "ki", by walk_at "ki"⟩)
    (case k_Place => refine' Wk.mk_at KX G ?u1 ?u2 ?u3 ?u4 ?u5 ?u6 ?u7 ?u8 Wk.ba_k_Place; (case u1 => walk_at "ki"); (case u2 => walk_at "ki"); (case u3 => walk_at "ki"); (case u4 => walk_at "ki"); (case u5 => walk_at "ki"); (case u6 => walk_at "ki"); (case u7 => walk_at "ki"); (case u8 => walk_at "ki"))
    (case k_Brew => refine' Wk.mk_at KX G ?u1 ?u2 ?u3 ?u4 ?u5 ?u6 ?u7 ?u8 Wk.ba_k_Brew; (case u1 => walk_at "ki"); (case u2 => walk_at "ki"); (case u3 => walk_at "ki"); (case u4 => walk_at "ki"); (case u5 => walk_at "ki"); (case u6 => walk_at "ki"); (case u7 => walk_at "ki"); (case u8 => walk_at "ki"))
    (case k_Table => refine' Wk.mk_at KX G ?u1 ?u2 ?u3 ?u4 ?u5 ?u6 ?u7 ?u8 Wk.ba_k_Table; (case u1 => walk_at "ki"); (case u2 => walk_at "ki"); (case u3 => walk_at "ki"); (case u4 => walk_at "ki"); (case u5 => walk_at "ki"); (case u6 => walk_at "ki"); (case u7 => walk_at "ki"); (case u8 => walk_at "ki"))
    (case cl_Brew => exact ⟨by walk_at "ki", by walk_at "ki", by walk_at "ki", by walk_at "ki"⟩)
    (case f_is_integer => refine' Wk.def_at KX G ?u1 ?u2 ?u3 ?u4 Wk.ba_is_integer; (case u1 => walk_at "ki"); (case u2 => walk_at "ki"); (case u3 => walk_at "ki"); (case u4 => walk_at "ki"))
    (case f_bezout_of => refine' Wk.def_at KX G ?u1 ?u2 ?u3 ?u4 Wk.ba_bezout_of; (case u1 => walk_at "ki"); (case u2 => walk_at "ki"); (case u3 => walk_at "ki"); (case u4 => walk_at "ki"))
    (case f_divisor_of => refine' Wk.def_at KX G ?u1 ?u2 ?u3 ?u4 Wk.ba_divisor_of; (case u1 => walk_at "ki"); (case u2 => walk_at "ki"); (case u3 => walk_at "ki"); (case u4 => walk_at "ki"))
    (case f_pairs_below => refine' Wk.def_at KX G ?u1 ?u2 ?u3 ?u4 Wk.ba_pairs_below; (case u1 => walk_at "ki"); (case u2 => walk_at "ki"); (case u3 => walk_at "ki"); (case u4 => walk_at "ki"))
    (case f_row_sum => refine' Wk.def_at KX G ?u1 ?u2 ?u3 ?u4 Wk.ba_row_sum; (case u1 => walk_at "ki"); (case u2 => walk_at "ki"); (case u3 => walk_at "ki"); (case u4 => walk_at "ki"))
    (case f_row_times => refine' Wk.def_at KX G ?u1 ?u2 ?u3 ?u4 Wk.ba_row_times; (case u1 => walk_at "ki"); (case u2 => walk_at "ki"); (case u3 => walk_at "ki"); (case u4 => walk_at "ki"))
    (case f_steered_one => refine' Wk.def_at KX G ?u1 ?u2 ?u3 ?u4 Wk.ba_steered_one; (case u1 => walk_at "ki"); (case u2 => walk_at "ki"); (case u3 => walk_at "ki"); (case u4 => walk_at "ki"))
    (case f_steered => refine' Wk.def_at KX G ?u1 ?u2 ?u3 ?u4 Wk.ba_steered; (case u1 => walk_at "ki"); (case u2 => walk_at "ki"); (case u3 => walk_at "ki"); (case u4 => walk_at "ki"))
    (case f_forms_of => refine' Wk.def_at KX G ?u1 ?u2 ?u3 ?u4 Wk.ba_forms_of; (case u1 => walk_at "ki"); (case u2 => walk_at "ki"); (case u3 => walk_at "ki"); (case u4 => walk_at "ki"))
    (case f_form_at => refine' Wk.def_at KX G ?u1 ?u2 ?u3 ?u4 Wk.ba_form_at; (case u1 => walk_at "ki"); (case u2 => walk_at "ki"); (case u3 => walk_at "ki"); (case u4 => walk_at "ki"))
    (case f_need_place => refine' Wk.def_at KX G ?u1 ?u2 ?u3 ?u4 Wk.ba_need_place; (case u1 => walk_at "ki"); (case u2 => walk_at "ki"); (case u3 => walk_at "ki"); (case u4 => walk_at "ki"))
    (case f_need_places => refine' Wk.def_at KX G ?u1 ?u2 ?u3 ?u4 Wk.ba_need_places; (case u1 => walk_at "ki"); (case u2 => walk_at "ki"); (case u3 => walk_at "ki"); (case u4 => walk_at "ki"))
    (case f_x_of => refine' Wk.def_at KX G ?u1 ?u2 ?u3 ?u4 Wk.ba_x_of; (case u1 => walk_at "ki"); (case u2 => walk_at "ki"); (case u3 => walk_at "ki"); (case u4 => walk_at "ki"))
    (case f_y_of => refine' Wk.def_at KX G ?u1 ?u2 ?u3 ?u4 Wk.ba_y_of; (case u1 => walk_at "ki"); (case u2 => walk_at "ki"); (case u3 => walk_at "ki"); (case u4 => walk_at "ki"))
    (case f_area_of => refine' Wk.def_at KX G ?u1 ?u2 ?u3 ?u4 Wk.ba_area_of; (case u1 => walk_at "ki"); (case u2 => walk_at "ki"); (case u3 => walk_at "ki"); (case u4 => walk_at "ki"))
    (case f_put_right => refine' Wk.def_at KX G ?u1 ?u2 ?u3 ?u4 Wk.ba_put_right; (case u1 => walk_at "ki"); (case u2 => walk_at "ki"); (case u3 => walk_at "ki"); (case u4 => walk_at "ki"))
    (case f_gathered => refine' Wk.def_at KX G ?u1 ?u2 ?u3 ?u4 Wk.ba_gathered; (case u1 => walk_at "ki"); (case u2 => walk_at "ki"); (case u3 => walk_at "ki"); (case u4 => walk_at "ki"))
    (case f_settled => refine' Wk.def_at KX G ?u1 ?u2 ?u3 ?u4 Wk.ba_settled; (case u1 => walk_at "ki"); (case u2 => walk_at "ki"); (case u3 => walk_at "ki"); (case u4 => walk_at "ki"))
    (case f_need_table => refine' Wk.def_at KX G ?u1 ?u2 ?u3 ?u4 Wk.ba_need_table; (case u1 => walk_at "ki"); (case u2 => walk_at "ki"); (case u3 => walk_at "ki"); (case u4 => walk_at "ki"))
    (case f_both_areas => refine' Wk.def_at KX G ?u1 ?u2 ?u3 ?u4 Wk.ba_both_areas; (case u1 => walk_at "ki"); (case u2 => walk_at "ki"); (case u3 => walk_at "ki"); (case u4 => walk_at "ki"))
    (case f_in_product => refine' Wk.def_at KX G ?u1 ?u2 ?u3 ?u4 Wk.ba_in_product; (case u1 => walk_at "ki"); (case u2 => walk_at "ki"); (case u3 => walk_at "ki"); (case u4 => walk_at "ki"))
    (case f_parted => refine' Wk.def_at KX G ?u1 ?u2 ?u3 ?u4 Wk.ba_parted; (case u1 => walk_at "ki"); (case u2 => walk_at "ki"); (case u3 => walk_at "ki"); (case u4 => walk_at "ki"))
    (case f_law_begin => refine' Wk.def_at KX G ?u1 ?u2 ?u3 ?u4 Wk.ba_law_begin; (case u1 => walk_at "ki"); (case u2 => walk_at "ki"); (case u3 => walk_at "ki"); (case u4 => walk_at "ki"))
    (case f_law_draw => refine' Wk.def_at KX G ?u1 ?u2 ?u3 ?u4 Wk.ba_law_draw; (case u1 => walk_at "ki"); (case u2 => walk_at "ki"); (case u3 => walk_at "ki"); (case u4 => walk_at "ki"))
    (case f_law_pick => refine' Wk.def_at KX G ?u1 ?u2 ?u3 ?u4 Wk.ba_law_pick; (case u1 => walk_at "ki"); (case u2 => walk_at "ki"); (case u3 => walk_at "ki"); (case u4 => walk_at "ki"))
    (case f_law_ten => refine' Wk.def_at KX G ?u1 ?u2 ?u3 ?u4 Wk.ba_law_ten; (case u1 => walk_at "ki"); (case u2 => walk_at "ki"); (case u3 => walk_at "ki"); (case u4 => walk_at "ki"))
    (case f_law_long => refine' Wk.def_at KX G ?u1 ?u2 ?u3 ?u4 Wk.ba_law_long; (case u1 => walk_at "ki"); (case u2 => walk_at "ki"); (case u3 => walk_at "ki"); (case u4 => walk_at "ki"))
    (case f_law_size => refine' Wk.def_at KX G ?u1 ?u2 ?u3 ?u4 Wk.ba_law_size; (case u1 => walk_at "ki"); (case u2 => walk_at "ki"); (case u3 => walk_at "ki"); (case u4 => walk_at "ki"))
    (case f_law_number => refine' Wk.def_at KX G ?u1 ?u2 ?u3 ?u4 Wk.ba_law_number; (case u1 => walk_at "ki"); (case u2 => walk_at "ki"); (case u3 => walk_at "ki"); (case u4 => walk_at "ki"))
    (case f_law_gcd => refine' Wk.def_at KX G ?u1 ?u2 ?u3 ?u4 Wk.ba_law_gcd; (case u1 => walk_at "ki"); (case u2 => walk_at "ki"); (case u3 => walk_at "ki"); (case u4 => walk_at "ki"))
    (case f_law_whole_is => refine' Wk.def_at KX G ?u1 ?u2 ?u3 ?u4 Wk.ba_law_whole_is; (case u1 => walk_at "ki"); (case u2 => walk_at "ki"); (case u3 => walk_at "ki"); (case u4 => walk_at "ki"))
    (case f_law_truth => refine' Wk.def_at KX G ?u1 ?u2 ?u3 ?u4 Wk.ba_law_truth; (case u1 => walk_at "ki"); (case u2 => walk_at "ki"); (case u3 => walk_at "ki"); (case u4 => walk_at "ki"))
    (case f_law_mul => refine' Wk.def_at KX G ?u1 ?u2 ?u3 ?u4 Wk.ba_law_mul; (case u1 => walk_at "ki"); (case u2 => walk_at "ki"); (case u3 => walk_at "ki"); (case u4 => walk_at "ki"))
    (case f_law_undo => refine' Wk.def_at KX G ?u1 ?u2 ?u3 ?u4 Wk.ba_law_undo; (case u1 => walk_at "ki"); (case u2 => walk_at "ki"); (case u3 => walk_at "ki"); (case u4 => walk_at "ki"))
    (case f_law_pow => refine' Wk.def_at KX G ?u1 ?u2 ?u3 ?u4 Wk.ba_law_pow; (case u1 => walk_at "ki"); (case u2 => walk_at "ki"); (case u3 => walk_at "ki"); (case u4 => walk_at "ki"))
    (case f_law_prod => refine' Wk.def_at KX G ?u1 ?u2 ?u3 ?u4 Wk.ba_law_prod; (case u1 => walk_at "ki"); (case u2 => walk_at "ki"); (case u3 => walk_at "ki"); (case u4 => walk_at "ki"))
    (case f_law_place => refine' Wk.def_at KX G ?u1 ?u2 ?u3 ?u4 Wk.ba_law_place; (case u1 => walk_at "ki"); (case u2 => walk_at "ki"); (case u3 => walk_at "ki"); (case u4 => walk_at "ki"))
    (case f_law_at => refine' Wk.def_at KX G ?u1 ?u2 ?u3 ?u4 Wk.ba_law_at; (case u1 => walk_at "ki"); (case u2 => walk_at "ki"); (case u3 => walk_at "ki"); (case u4 => walk_at "ki"))
    (case f_law_row => refine' Wk.def_at KX G ?u1 ?u2 ?u3 ?u4 Wk.ba_law_row; (case u1 => walk_at "ki"); (case u2 => walk_at "ki"); (case u3 => walk_at "ki"); (case u4 => walk_at "ki"))
    (case f_law_ledge_right => refine' Wk.def_at KX G ?u1 ?u2 ?u3 ?u4 Wk.ba_law_ledge_right; (case u1 => walk_at "ki"); (case u2 => walk_at "ki"); (case u3 => walk_at "ki"); (case u4 => walk_at "ki"))
    (case f_law_figures => refine' Wk.def_at KX G ?u1 ?u2 ?u3 ?u4 Wk.ba_law_figures; (case u1 => walk_at "ki"); (case u2 => walk_at "ki"); (case u3 => walk_at "ki"); (case u4 => walk_at "ki"))
    (case f_law_brewed => refine' Wk.def_at KX G ?u1 ?u2 ?u3 ?u4 Wk.ba_law_brewed; (case u1 => walk_at "ki"); (case u2 => walk_at "ki"); (case u3 => walk_at "ki"); (case u4 => walk_at "ki"))
    (case f_law_table_right => refine' Wk.def_at KX G ?u1 ?u2 ?u3 ?u4 Wk.ba_law_table_right; (case u1 => walk_at "ki"); (case u2 => walk_at "ki"); (case u3 => walk_at "ki"); (case u4 => walk_at "ki"))
    (case f_law_hidden => refine' Wk.def_at KX G ?u1 ?u2 ?u3 ?u4 Wk.ba_law_hidden; (case u1 => walk_at "ki"); (case u2 => walk_at "ki"); (case u3 => walk_at "ki"); (case u4 => walk_at "ki"))
    (case f_law_made => refine' Wk.def_at KX G ?u1 ?u2 ?u3 ?u4 Wk.ba_law_made; (case u1 => walk_at "ki"); (case u2 => walk_at "ki"); (case u3 => walk_at "ki"); (case u4 => walk_at "ki"))
    (case f_law_told => refine' Wk.def_at KX G ?u1 ?u2 ?u3 ?u4 Wk.ba_law_told; (case u1 => walk_at "ki"); (case u2 => walk_at "ki"); (case u3 => walk_at "ki"); (case u4 => walk_at "ki"))
    (case f_law_kept_value => refine' Wk.def_at KX G ?u1 ?u2 ?u3 ?u4 Wk.ba_law_kept_value; (case u1 => walk_at "ki"); (case u2 => walk_at "ki"); (case u3 => walk_at "ki"); (case u4 => walk_at "ki"))
    (case f_law_place_refused => refine' Wk.def_at KX G ?u1 ?u2 ?u3 ?u4 Wk.ba_law_place_refused; (case u1 => walk_at "ki"); (case u2 => walk_at "ki"); (case u3 => walk_at "ki"); (case u4 => walk_at "ki"))
    (case f_law_parts_right => refine' Wk.def_at KX G ?u1 ?u2 ?u3 ?u4 Wk.ba_law_parts_right; (case u1 => walk_at "ki"); (case u2 => walk_at "ki"); (case u3 => walk_at "ki"); (case u4 => walk_at "ki"))
    (case f_law_ring_table => refine' Wk.def_at KX G ?u1 ?u2 ?u3 ?u4 Wk.ba_law_ring_table; (case u1 => walk_at "ki"); (case u2 => walk_at "ki"); (case u3 => walk_at "ki"); (case u4 => walk_at "ki"))
    (case f_law_all_rows => refine' Wk.def_at KX G ?u1 ?u2 ?u3 ?u4 Wk.ba_law_all_rows; (case u1 => walk_at "ki"); (case u2 => walk_at "ki"); (case u3 => walk_at "ki"); (case u4 => walk_at "ki"))
    (case f_law_ring_right => refine' Wk.def_at KX G ?u1 ?u2 ?u3 ?u4 Wk.ba_law_ring_right; (case u1 => walk_at "ki"); (case u2 => walk_at "ki"); (case u3 => walk_at "ki"); (case u4 => walk_at "ki"))
    (case f_law_denied_right => refine' Wk.def_at KX G ?u1 ?u2 ?u3 ?u4 Wk.ba_law_denied_right; (case u1 => walk_at "ki"); (case u2 => walk_at "ki"); (case u3 => walk_at "ki"); (case u4 => walk_at "ki"))
    (case f_law => refine' Wk.def_at KX G ?u1 ?u2 ?u3 ?u4 Wk.ba_law; (case u1 => walk_at "ki"); (case u2 => walk_at "ki"); (case u3 => walk_at "ki"); (case u4 => walk_at "ki"))
    (case m_Place_mul => refine' Wk.mth_at ?u1 ?u2 ?u3 ?u4 ?u5 ?c1 Wk.ba_Place_mul; (case c1 => exact ⟨by walk_at "ki", by walk_at "ki", by walk_at "ki", by walk_at "ki"⟩); (case u1 => walk_at "ki"); (case u2 => walk_at "ki"); (case u3 => walk_at "ki"); (case u4 => walk_at "ki"); (case u5 => walk_at "ki"))
    (case m_Place_invert => refine' Wk.mth_at ?u1 ?u2 ?u3 ?u4 ?u5 ?c1 Wk.ba_Place_invert; (case c1 => exact ⟨by walk_at "ki", by walk_at "ki", by walk_at "ki", by walk_at "ki"⟩); (case u1 => walk_at "ki"); (case u2 => walk_at "ki"); (case u3 => walk_at "ki"); (case u4 => walk_at "ki"); (case u5 => walk_at "ki"))
    (case m_Place_power => refine' Wk.mth_at ?u1 ?u2 ?u3 ?u4 ?u5 ?c1 Wk.ba_Place_power; (case c1 => exact ⟨by walk_at "ki", by walk_at "ki", by walk_at "ki", by walk_at "ki"⟩); (case u1 => walk_at "ki"); (case u2 => walk_at "ki"); (case u3 => walk_at "ki"); (case u4 => walk_at "ki"); (case u5 => walk_at "ki"))
    (case m_Brew_line => refine' Wk.mth_at ?u1 ?u2 ?u3 ?u4 ?u5 ?c1 Wk.ba_Brew_line; (case c1 => exact ⟨by walk_at "ki", by walk_at "ki", by walk_at "ki", by walk_at "ki"⟩); (case u1 => walk_at "ki"); (case u2 => walk_at "ki"); (case u3 => walk_at "ki"); (case u4 => walk_at "ki"); (case u5 => walk_at "ki"))
    (case m_Brew_undone => refine' Wk.mth_at ?u1 ?u2 ?u3 ?u4 ?u5 ?c1 Wk.ba_Brew_undone; (case c1 => exact ⟨by walk_at "ki", by walk_at "ki", by walk_at "ki", by walk_at "ki"⟩); (case u1 => walk_at "ki"); (case u2 => walk_at "ki"); (case u3 => walk_at "ki"); (case u4 => walk_at "ki"); (case u5 => walk_at "ki"))
    (case m_Brew_led_down => refine' Wk.mth_at ?u1 ?u2 ?u3 ?u4 ?u5 ?c1 Wk.ba_Brew_led_down; (case c1 => exact ⟨by walk_at "ki", by walk_at "ki", by walk_at "ki", by walk_at "ki"⟩); (case u1 => walk_at "ki"); (case u2 => walk_at "ki"); (case u3 => walk_at "ki"); (case u4 => walk_at "ki"); (case u5 => walk_at "ki"))
    (case m_Table_eq => refine' Wk.mth_at ?u1 ?u2 ?u3 ?u4 ?u5 ?c1 Wk.ba_Table_eq; (case c1 => exact ⟨by walk_at "ki", by walk_at "ki", by walk_at "ki", by walk_at "ki"⟩); (case u1 => walk_at "ki"); (case u2 => walk_at "ki"); (case u3 => walk_at "ki"); (case u4 => walk_at "ki"); (case u5 => walk_at "ki"))
    (case m_Table_contains => refine' Wk.mth_at ?u1 ?u2 ?u3 ?u4 ?u5 ?c1 Wk.ba_Table_contains; (case c1 => exact ⟨by walk_at "ki", by walk_at "ki", by walk_at "ki", by walk_at "ki"⟩); (case u1 => walk_at "ki"); (case u2 => walk_at "ki"); (case u3 => walk_at "ki"); (case u4 => walk_at "ki"); (case u5 => walk_at "ki"))
    (case m_Table_ends => refine' Wk.mth_at ?u1 ?u2 ?u3 ?u4 ?u5 ?c1 Wk.ba_Table_ends; (case c1 => exact ⟨by walk_at "ki", by walk_at "ki", by walk_at "ki", by walk_at "ki"⟩); (case u1 => walk_at "ki"); (case u2 => walk_at "ki"); (case u3 => walk_at "ki"); (case u4 => walk_at "ki"); (case u5 => walk_at "ki"))
    (case m_Table_figures => refine' Wk.mth_at ?u1 ?u2 ?u3 ?u4 ?u5 ?c1 Wk.ba_Table_figures; (case c1 => exact ⟨by walk_at "ki", by walk_at "ki", by walk_at "ki", by walk_at "ki"⟩); (case u1 => walk_at "ki"); (case u2 => walk_at "ki"); (case u3 => walk_at "ki"); (case u4 => walk_at "ki"); (case u5 => walk_at "ki"))
    (case m_Table_over => refine' Wk.mth_at ?u1 ?u2 ?u3 ?u4 ?u5 ?c1 Wk.ba_Table_over; (case c1 => exact ⟨by walk_at "ki", by walk_at "ki", by walk_at "ki", by walk_at "ki"⟩); (case u1 => walk_at "ki"); (case u2 => walk_at "ki"); (case u3 => walk_at "ki"); (case u4 => walk_at "ki"); (case u5 => walk_at "ki"))
    (case a_CP_x => unfold L2.NoAttr; walk_at "ki")
    (case a_CP_y => unfold L2.NoAttr; walk_at "ki")
    (case a_CP_area => unfold L2.NoAttr; walk_at "ki")
    (case a_CB_stock => unfold L2.NoAttr; walk_at "ki")
    (case a_CB_lines => unfold L2.NoAttr; walk_at "ki")
    (case a_CT_told => unfold L2.NoAttr; walk_at "ki")
    (case a_CT_ledge => unfold L2.NoAttr; walk_at "ki")
    (case a_CT_home => unfold L2.NoAttr; walk_at "ki")
    (case a_CT_recipe => unfold L2.NoAttr; walk_at "ki")
    (case a_CT_made => unfold L2.NoAttr; walk_at "ki")
    (case plFirst => walk_at "ki")
    (case isP => exact ⟨⟨by walk_at "ki", by walk_at "ki", by walk_at "ki", by walk_at "ki"⟩, by walk_at "ki", by walk_at "ki", by walk_at "ki", by walk_at "ki", by walk_at "kr"⟩)
    (case isT => exact ⟨⟨by walk_at "ki", by walk_at "ki", by walk_at "ki", by walk_at "ki"⟩, by walk_at "ki", by walk_at "ki", by walk_at "ki", by walk_at "ki", by walk_at "kr"⟩)
    (case kPT => walk_at "kr")
    (case kTP => walk_at "kr")
    (case kOdd => exact Wk.odd_of (by walk_at "kr") (by walk_at "kr") (by walk_at "kr") (by walk_at "kr") (by walk_at "kr") (by walk_at "kr") (by walk_at "kr") (by walk_at "kr") (by walk_at "kr") (by walk_at "kr") (by walk_at "kr") (by walk_at "kr"))
    (case most => exact ⟨_, PySem.W.mg_of KX G (by walk_at "ki"), ⟨_, rfl⟩⟩)
   case D => refine' Wk.defc_at KX G ?u1 ?u2 ?u3 ?u4 Wk.ba_law_denied_right; (case u1 => walk_at "ki"); (case u2 => walk_at "ki"); (case u3 => walk_at "ki"); (case u4 => walk_at "ki")
   case tE => exact TE _ List.mem_cons_self
   case tK => walk_at "kr"
   case tC => walk_at "kr"
