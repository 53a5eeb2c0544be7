import PyProof.Rows.All
import Wide.All
import OpenK.AllK
import Wide.FinOn
import HandS.ForMost
import HandS.Deep
import HandS.Wide
import HandS.Gcd
import HandS.TupAny
import HandS.IsInst
import HandS.SortRule
import HandS.SortInts
import HandS.Walk
import HandS.Zip
import HandS.Conv
import HandS.Exc
import HandS.TryMany
import HandS.ExcOwn
import HandS.WordsExc
import HandS.Defaults
import HandS.FStr
import HandS.Style
import HandS.RaiseMore
import KE.GoesEnum
import KE.DataMinMax
import KE.SortData
import HandS.TupSets
import HandS.ExcIs
import HandS.Text
import HandS.More
import HandS.Star
import HandS.Flow
import PySem.Challenge.RW_cushioned_k61_whole_checked_texts
set_option Elab.async false
set_option linter.all false
set_option maxRecDepth 100000
set_option maxHeartbeats 4000000
set_option exponentiation.threshold 3000

namespace Cu
/-! whole numbers: divisibility and remainders -/
theorem emod_eq_iff {t m r : Int} (h0 : 0 ≤ r) (h1 : r < m) : t % m = r ↔ m ∣ t - r := by
  constructor
  · intro h
    rw [← h]
    exact Int.dvd_self_sub_emod
  · intro h
    have e : t % m = r % m := Int.emod_eq_emod_iff_emod_sub_eq_zero.mpr (Int.emod_eq_zero_of_dvd h)
    rw [e, Int.emod_eq_of_lt h0 h1]
theorem dvd_iff_emod {m t : Int} : t % m = 0 ↔ m ∣ t := ⟨Int.dvd_of_emod_eq_zero, Int.emod_eq_zero_of_dvd⟩
theorem emod_emod_iff {a b m : Int} : a % m = b % m ↔ m ∣ a - b := by
  rw [Int.emod_eq_emod_iff_emod_sub_eq_zero, dvd_iff_emod]

/-- the numbers of a class -/
def InC (c : Int × Int) (t : Int) : Prop := t % c.2 = c.1
def OkC (c : Int × Int) : Prop := 0 ≤ c.1 ∧ c.1 < c.2
theorem OkC.pos {c : Int × Int} (h : OkC c) : 0 < c.2 := Int.lt_of_le_of_lt h.1 h.2
theorem inC_iff {c : Int × Int} (h : OkC c) {t : Int} : InC c t ↔ c.2 ∣ t - c.1 := emod_eq_iff h.1 h.2

/-! the inverse -/
/-- what the loop of inverse keeps: n the number, m the modulus -/
structure InvI (n m left right fac fol : Int) : Prop where
  l : 0 < left
  r : 0 ≤ right
  g : Int.gcd left right = Int.gcd n m
  a : m ∣ left - fac * n
  b : m ∣ right - fol * n
  bnd : fac.natAbs * right.natAbs + fol.natAbs * left.natAbs ≤ m.natAbs
  ll : left.natAbs ≤ max n.natAbs m.natAbs
  rr : right.natAbs ≤ max n.natAbs m.natAbs
  ff : fac.natAbs ≤ max 1 m.natAbs
theorem InvI.start {n m : Int} (hn : 0 < n) (hm : 0 < m) : InvI n m n m 1 0 := by
  refine ⟨hn, Int.le_of_lt hm, rfl, ?_, ?_, ?_, ?_, ?_, ?_⟩
  · simp
  · simp
  · simp
  · exact Nat.le_max_left _ _
  · exact Nat.le_max_right _ _
  · exact Nat.le_max_left _ _
theorem InvI.fol_le {n m left right fac fol : Int} (h : InvI n m left right fac fol) : fol.natAbs ≤ m.natAbs := by
  have h1 := h.bnd
  have h2 := h.l
  have h3 : 1 ≤ left.natAbs := by omega
  have h4 : fol.natAbs * 1 ≤ fol.natAbs * left.natAbs := Nat.mul_le_mul_left _ h3
  omega
theorem InvI.turn {n m left right fac fol : Int} (h : InvI n m left right fac fol) (hr : 0 < right) :
    InvI n m right (left - left / right * right) fol (fac - left / right * fol) := by
  have e : left - left / right * right = left % right := by
    have := Int.mul_ediv_add_emod left right
    rw [Int.mul_comm] at this
    omega
  have hq : 0 ≤ left / right := Int.ediv_nonneg (Int.le_of_lt h.l) (Int.le_of_lt hr)
  have hm0 : 0 ≤ left % right := Int.emod_nonneg _ (by omega)
  have hm1 : left % right < right := Int.emod_lt_of_pos _ hr
  refine ⟨hr, by rw [e]; exact hm0, ?_, h.b, ?_, ?_, h.rr, ?_, ?_⟩
  · rw [e, ← h.g]
    have e1 : left % right = left - left / right * right := e.symm
    rw [e1, Int.gcd_sub_mul_right_right, Int.gcd_comm]
  · have h1 := h.a
    have h2 := h.b
    have e2 : left - left / right * right - (fac - left / right * fol) * n = (left - fac * n) - (left / right) * (right - fol * n) := by
      rw [Int.sub_mul, Int.mul_sub, Int.mul_assoc]
      omega
    rw [e2]
    exact Int.dvd_sub h1 (Int.dvd_mul_of_dvd_right h2)
  · have hb := h.bnd
    have t1 : (fac - left / right * fol).natAbs ≤ fac.natAbs + (left / right).natAbs * fol.natAbs := by
      rw [← Int.natAbs_mul]
      omega
    have t2 : (fac - left / right * fol).natAbs * right.natAbs ≤ (fac.natAbs + (left / right).natAbs * fol.natAbs) * right.natAbs := Nat.mul_le_mul_right _ t1
    have e3 : left.natAbs = (left - left / right * right).natAbs + (left / right).natAbs * right.natAbs := by
      rw [← Int.natAbs_mul]
      have : 0 ≤ left / right * right := Int.mul_nonneg hq (Int.le_of_lt hr)
      rw [e]
      omega
    have e4 : fol.natAbs * left.natAbs = fol.natAbs * (left - left / right * right).natAbs + fol.natAbs * ((left / right).natAbs * right.natAbs) := by
      rw [← Nat.mul_add, ← e3]
    have e5 : (fac.natAbs + (left / right).natAbs * fol.natAbs) * right.natAbs = fac.natAbs * right.natAbs + fol.natAbs * ((left / right).natAbs * right.natAbs) := by
      rw [Nat.add_mul, Nat.mul_comm (left / right).natAbs fol.natAbs, Nat.mul_assoc]
    omega
  · have := h.ll
    have : (left - left / right * right).natAbs ≤ left.natAbs := by
      rw [e]
      have h1 := Int.mul_ediv_add_emod left right
      have h2 : 0 ≤ right * (left / right) := Int.mul_nonneg (Int.le_of_lt hr) hq
      have h3 := h.l
      omega
    omega
  · have := h.fol_le
    omega
/-- behind the loop -/
theorem InvI.done {n m left fac fol : Int} (h : InvI n m left 0 fac fol) (hg : Int.gcd n m = 1) : m ∣ fac % m * n - 1 := by
  have e : left = 1 := by
    have h1 := h.g
    rw [hg, Int.gcd_zero_right] at h1
    have := h.l
    omega
  obtain ⟨k, hk⟩ := h.a
  rw [e] at hk
  have e2 := Int.mul_ediv_add_emod fac m
  refine ⟨-(k + fac / m * n), ?_⟩
  grind
/-! two classes at once -/
/-- what chinese hands back where the remainders agree: iv an inverse of m1 / g modulo m2 / g -/
def chinV (r1 m1 r2 m2 g iv : Int) : Int := (r1 + m1 * ((r2 - r1) / g * iv % (m2 / g))) % (m1 / g * m2)
theorem chin_no {r1 m1 r2 m2 t : Int} (h : (r2 - r1) % ((Int.gcd m1 m2 : Nat) : Int) ≠ 0) (h1 : m1 ∣ t - r1) (h2 : m2 ∣ t - r2) : False := by
  apply h
  apply Int.emod_eq_zero_of_dvd
  have a := Int.dvd_trans (Int.gcd_dvd_left m1 m2) h1
  have b := Int.dvd_trans (Int.gcd_dvd_right m1 m2) h2
  have c := Int.dvd_sub a b
  have e : t - r1 - (t - r2) = r2 - r1 := by omega
  rw [e] at c
  exact c
theorem chin_yes {r1 m1 r2 m2 g iv : Int} (hm1 : 0 < m1) (hm2 : 0 < m2) (hg : g = ((Int.gcd m1 m2 : Nat) : Int)) (h : (r2 - r1) % g = 0) (hi : m2 / g ∣ iv * (m1 / g) - 1) (t : Int) :
    m1 / g * m2 ∣ t - chinV r1 m1 r2 m2 g iv ↔ m1 ∣ t - r1 ∧ m2 ∣ t - r2 := by
  have g0 : 0 < g := by
    rw [hg]
    have := Int.gcd_pos_of_ne_zero_left m2 (show m1 ≠ 0 by omega)
    omega
  obtain ⟨a, ha⟩ : g ∣ m1 := hg ▸ Int.gcd_dvd_left m1 m2
  obtain ⟨b, hb⟩ : g ∣ m2 := hg ▸ Int.gcd_dvd_right m1 m2
  obtain ⟨d, hd⟩ : g ∣ r2 - r1 := Int.dvd_of_emod_eq_zero h
  have ea : m1 / g = a := by rw [ha]; exact Int.mul_ediv_cancel_left _ (by omega)
  have eb : m2 / g = b := by rw [hb]; exact Int.mul_ediv_cancel_left _ (by omega)
  have ed : (r2 - r1) / g = d := by rw [hd]; exact Int.mul_ediv_cancel_left _ (by omega)
  unfold chinV
  rw [ea, eb, ed]
  rw [ea, eb] at hi
  obtain ⟨j, hj⟩ := hi
  have e1 := Int.mul_ediv_add_emod (d * iv) b
  have e2 := Int.mul_ediv_add_emod (r1 + m1 * (d * iv % b)) (a * m2)
  have e0 : m1 = g * a := ha
  have e0' : m2 = g * b := hb
  generalize hq : d * iv / b = q at e1
  generalize hs : d * iv % b = s at e1 e2
  generalize hp : (r1 + m1 * s) / (a * m2) = p at e2
  generalize hv : (r1 + m1 * s) % (a * m2) = v at e2
  show a * m2 ∣ t - v ↔ _
  have x1 : v - r1 = m1 * (s - b * p) := by grind
  have x2 : v - r2 = m2 * (d * j - a * q - a * p) := by grind
  constructor
  · rintro ⟨k, hk⟩
    exact ⟨⟨b * k + s - b * p, by grind⟩, ⟨a * k + (d * j - a * q - a * p), by grind⟩⟩
  · rintro ⟨⟨k1, h1⟩, ⟨k2, h2⟩⟩
    -- t - v = m1 * y, = m2 * z
    have y1 : t - v = m1 * (k1 - s + b * p) := by grind
    have z1 : t - v = m2 * (k2 - (d * j - a * q - a * p)) := by grind
    generalize k1 - s + b * p = y at y1
    generalize k2 - (d * j - a * q - a * p) = z at z1
    -- a * y = b * z
    have c : a * y = b * z := by
      have c1 : g * (a * y) = g * (b * z) := by rw [← Int.mul_assoc, ← Int.mul_assoc, ← e0, ← e0', ← y1, ← z1]
      exact Int.eq_of_mul_eq_mul_left (by omega) c1
    -- b divides y
    have c2 : y = b * (iv * z - j * y) := by
      clear y1 z1 h1 h2 x1 x2 e1 e2 hv hp hs hq e0 e0' ed ea eb hd ha hb h hg g0 hm1 hm2
      grind
    refine ⟨iv * z - j * y, ?_⟩
    rw [y1]
    have c3 : m1 * b = a * m2 := by rw [e0, e0']; grind
    rw [← c3, Int.mul_assoc, ← c2]
end Cu

namespace Cu
/-- no minute in common, told by the remainders -/
def ApartC (c d : Int × Int) : Prop := ¬ (((Int.gcd c.2 d.2 : Nat) : Int) ∣ c.1 - d.1)
theorem ApartC.symm {c d : Int × Int} (h : ApartC c d) : ApartC d c := fun z => h (by
  rw [Int.gcd_comm]
  have e : c.1 - d.1 = -(d.1 - c.1) := by omega
  rw [e]
  exact (Int.dvd_neg).mpr z)
theorem ApartC.no {c d : Int × Int} (hc : OkC c) (hd : OkC d) (h : ApartC c d) {t : Int} (h1 : InC c t) (h2 : InC d t) : False := by
  apply h
  have a := (inC_iff hc).mp h1
  have b := (inC_iff hd).mp h2
  have g1 := Int.dvd_trans (Int.gcd_dvd_left c.2 d.2) a
  have g2 := Int.dvd_trans (Int.gcd_dvd_right c.2 d.2) b
  have := Int.dvd_sub g2 g1
  have e : t - d.1 - (t - c.1) = c.1 - d.1 := by omega
  rwa [e] at this
theorem ApartC.lift {a b c d : Int × Int} (h : ApartC a b) (h1 : a.2 ∣ c.2) (h2 : b.2 ∣ d.2) (h3 : a.2 ∣ c.1 - a.1) (h4 : b.2 ∣ d.1 - b.1) : ApartC c d := fun z => by
  apply h
  have g1 : ((Int.gcd a.2 b.2 : Nat) : Int) ∣ c.2 := Int.dvd_trans (Int.gcd_dvd_left _ _) h1
  have g2 : ((Int.gcd a.2 b.2 : Nat) : Int) ∣ d.2 := Int.dvd_trans (Int.gcd_dvd_right _ _) h2
  have g3 : ((Int.gcd a.2 b.2 : Nat) : Int) ∣ ((Int.gcd c.2 d.2 : Nat) : Int) := Int.dvd_coe_gcd g1 g2
  have k1 := Int.dvd_trans g3 z
  have k2 : ((Int.gcd a.2 b.2 : Nat) : Int) ∣ c.1 - a.1 := Int.dvd_trans (Int.gcd_dvd_left _ _) h3
  have k3 : ((Int.gcd a.2 b.2 : Nat) : Int) ∣ d.1 - b.1 := Int.dvd_trans (Int.gcd_dvd_right _ _) h4
  have := Int.dvd_add (Int.dvd_sub k1 k2) k3
  have e : c.1 - d.1 - (c.1 - a.1) + (d.1 - b.1) = a.1 - b.1 := by omega
  rwa [e] at this
/-! solved -/
def solvedV (f r m : Int) : List (Int × Int) := if f = 0 then (if r % m = 0 then [(0, 1)] else []) else if f = 1 then [(r % m, m)] else [((-r) % m, m)]
theorem solved_len (f r m : Int) : (solvedV f r m).length ≤ 1 := by
  unfold solvedV
  split
  · split <;> simp
  · split <;> simp
theorem solved_mem {f r m : Int} (hf : f = -1 ∨ f = 0 ∨ f = 1) (t : Int) : (∃ c ∈ solvedV f r m, InC c t) ↔ m ∣ f * t - r := by
  rcases hf with rfl | rfl | rfl
  · have e : solvedV (-1) r m = [((-r) % m, m)] := rfl
    rw [e]
    simp only [List.mem_singleton, exists_eq_left, InC]
    rw [emod_emod_iff]
    have e2 : t - -r = -(-1 * t - r) := by omega
    rw [e2, Int.dvd_neg]
  · have e : solvedV 0 r m = if r % m = 0 then [(0, 1)] else [] := rfl
    rw [e]
    have e3 : (0 : Int) * t - r = -r := by omega
    rw [e3, Int.dvd_neg, ← dvd_iff_emod]
    by_cases h : r % m = 0
    · rw [if_pos h]
      simp [InC, h, Int.emod_one]
    · rw [if_neg h]
      simp [h]
  · have e : solvedV 1 r m = [(r % m, m)] := rfl
    rw [e]
    simp only [List.mem_singleton, exists_eq_left, InC]
    rw [emod_emod_iff, Int.one_mul]
theorem solved_ok {f r m : Int} (hf : f = -1 ∨ f = 0 ∨ f = 1) (hm : 0 < m) {c : Int × Int} (h : c ∈ solvedV f r m) : OkC c ∧ c.2 ≤ m ∧ (c = (0, 1) ∨ c.2 = m) := by
  rcases hf with rfl | rfl | rfl
  · have e : solvedV (-1) r m = [((-r) % m, m)] := rfl
    rw [e, List.mem_singleton] at h
    subst h
    exact ⟨⟨Int.emod_nonneg _ (by omega), Int.emod_lt_of_pos _ hm⟩, Int.le_refl _, .inr rfl⟩
  · have e : solvedV 0 r m = if r % m = 0 then [(0, 1)] else [] := rfl
    rw [e] at h
    split at h
    · rw [List.mem_singleton] at h
      subst h
      exact ⟨⟨Int.le_refl _, by decide⟩, by show (1 : Int) ≤ m; omega, .inl rfl⟩
    · cases h
  · have e : solvedV 1 r m = [(r % m, m)] := rfl
    rw [e, List.mem_singleton] at h
    subst h
    exact ⟨⟨Int.emod_nonneg _ (by omega), Int.emod_lt_of_pos _ hm⟩, Int.le_refl _, .inr rfl⟩
/-- the ball's unfolded place u stands at p between 0 and s -/
def Hit (s u p : Int) : Prop := 2 * s ∣ u - p ∨ 2 * s ∣ u + p
/-- what a list of classes tells -/
structure OkL (cs : List (Int × Int)) (B : Int) (S : Int → Prop) : Prop where
  ok : ∀ c ∈ cs, OkC c ∧ c.2 ≤ B
  ap : cs.Pairwise ApartC
  mem : ∀ t, (∃ c ∈ cs, InC c t) ↔ S t
theorem OkL.perm {cs ds : List (Int × Int)} {B : Int} {S : Int → Prop} (h : OkL cs B S) (p : ds.Perm cs) : OkL ds B S where
  ok := fun c hc => h.ok c (p.mem_iff.mp hc)
  ap := (p.pairwise_iff fun {a b} (q : ApartC a b) => q.symm).mpr h.ap
  mem := fun t => by
    rw [← h.mem t]
    constructor
    · rintro ⟨c, h1, h2⟩; exact ⟨c, p.mem_iff.mp h1, h2⟩
    · rintro ⟨c, h1, h2⟩; exact ⟨c, p.mem_iff.mpr h1, h2⟩
theorem point_okL {s a f g : Int} (hs : 0 < s) (hf : f = -1 ∨ f = 0 ∨ f = 1) {zs : List (Int × Int)}
    (h : (zs = [(0, 1)] ∧ ((0, 1) ∈ solvedV f (g - a) (2 * s) ∨ (0, 1) ∈ solvedV f (-g - a) (2 * s))) ∨ ((0, 1) ∉ solvedV f (g - a) (2 * s) ∧ (0, 1) ∉ solvedV f (-g - a) (2 * s) ∧ zs.Nodup ∧ ∀ c, c ∈ zs ↔ c ∈ solvedV f (g - a) (2 * s) ∨ c ∈ solvedV f (-g - a) (2 * s))) :
    OkL zs (2 * s) fun t => Hit s (a + f * t) g := by
  have m1 := solved_mem (r := g - a) (m := 2 * s) hf
  have m2 := solved_mem (r := -g - a) (m := 2 * s) hf
  have e1 : ∀ t, f * t - (g - a) = a + f * t - g := fun t => by omega
  have e2 : ∀ t, f * t - (-g - a) = a + f * t + g := fun t => by omega
  have all : ∀ t, InC (0, 1) t := fun t => by simp [InC, Int.emod_one]
  rcases h with ⟨rfl, h⟩ | ⟨h1, h2, nd, hm⟩
  · refine ⟨fun c hc => ?_, List.pairwise_singleton _ _, fun t => ?_⟩
    · rw [List.mem_singleton.mp hc]
      exact ⟨⟨Int.le_refl _, by decide⟩, by show (1 : Int) ≤ 2 * s; omega⟩
    · unfold Hit
      rw [← e1, ← e2, ← m1, ← m2]
      constructor
      · rintro _
        rcases h with h | h
        · exact .inl ⟨_, h, all t⟩
        · exact .inr ⟨_, h, all t⟩
      · rintro _
        exact ⟨_, List.mem_singleton.mpr rfl, all t⟩
  · have ok : ∀ c ∈ zs, OkC c ∧ c.2 ≤ 2 * s ∧ c.2 = 2 * s := fun c hc => by
      rcases (hm c).mp hc with q | q
      · obtain ⟨q1, q2, q3⟩ := solved_ok hf (by omega) q
        refine ⟨q1, q2, q3.resolve_left fun z => h1 (z ▸ q)⟩
      · obtain ⟨q1, q2, q3⟩ := solved_ok hf (by omega) q
        refine ⟨q1, q2, q3.resolve_left fun z => h2 (z ▸ q)⟩
    refine ⟨fun c hc => ⟨(ok c hc).1, (ok c hc).2.1⟩, ?_, fun t => ?_⟩
    · refine List.Pairwise.imp_of_mem (R := fun a b => a ≠ b) ?_ nd
      intro c d hc hd ne z
      obtain ⟨⟨c1, c2⟩, _, c3⟩ := ok c hc
      obtain ⟨⟨d1, d2⟩, _, d3⟩ := ok d hd
      rw [c3, d3] at z
      have eg : ((Int.gcd (2 * s) (2 * s) : Nat) : Int) = 2 * s := by
        rw [Int.gcd_self]
        omega
      rw [eg] at z
      obtain ⟨k, hk⟩ := z
      have hk0 : k = 0 := by
        rcases Int.lt_trichotomy k 0 with q | q | q
        · have := Int.mul_le_mul_of_nonneg_left (show k ≤ -1 by omega) (show 0 ≤ 2 * s by omega)
          omega
        · exact q
        · have := Int.mul_le_mul_of_nonneg_left (show 1 ≤ k by omega) (show 0 ≤ 2 * s by omega)
          omega
      rw [hk0] at hk
      exact ne (Prod.ext (by omega) (by omega))
    · unfold Hit
      rw [← e1, ← e2, ← m1, ← m2]
      constructor
      · rintro ⟨c, hc, ht⟩
        rcases (hm c).mp hc with q | q
        · exact .inl ⟨c, q, ht⟩
        · exact .inr ⟨c, q, ht⟩
      · rintro (⟨c, hc, ht⟩ | ⟨c, hc, ht⟩)
        · exact ⟨c, (hm c).mpr (.inl hc), ht⟩
        · exact ⟨c, (hm c).mpr (.inr hc), ht⟩
/-! crossed -/
/-- c is what a and b have in common -/
structure Both (a b c : Int × Int) : Prop where
  ok : OkC c
  d1 : a.2 ∣ c.2
  d2 : b.2 ∣ c.2
  t : ∀ t, InC c t ↔ InC a t ∧ InC b t
theorem Both.mk' {a b : Int × Int} (ha : OkC a) (hb : OkC b) {v M : Int} (h0 : 0 ≤ v) (h1 : v < M) (d1 : a.2 ∣ M) (d2 : b.2 ∣ M) (h : ∀ t, M ∣ t - v ↔ a.2 ∣ t - a.1 ∧ b.2 ∣ t - b.1) : Both a b (v, M) :=
  ⟨⟨h0, h1⟩, d1, d2, fun t => by rw [inC_iff ha, inC_iff hb, inC_iff (c := (v, M)) ⟨h0, h1⟩]; exact h t⟩
theorem Both.self {a b c : Int × Int} (h : Both a b c) : InC c c.1 := Int.emod_eq_of_lt h.ok.1 h.ok.2
structure CrI (ps : List ((Int × Int) × (Int × Int))) (acc : List (Int × Int)) (B : Int) : Prop where
  ok : ∀ c ∈ acc, c.2 ≤ B ∧ ∃ p ∈ ps, Both p.1 p.2 c
  len : acc.length ≤ ps.length
  ap : acc.Pairwise ApartC
  mem : ∀ t, (∃ c ∈ acc, InC c t) ↔ ∃ p ∈ ps, InC p.1 t ∧ InC p.2 t
theorem CrI.nil (B : Int) : CrI [] [] B := ⟨fun c h => by simp at h, Nat.le_refl _, .nil, fun t => by simp⟩
theorem CrI.skip {ps : List ((Int × Int) × (Int × Int))} {acc : List (Int × Int)} {B : Int} (h : CrI ps acc B) {q : (Int × Int) × (Int × Int)} (hq : ∀ t, ¬ (InC q.1 t ∧ InC q.2 t)) : CrI (ps ++ [q]) acc B where
  ok := fun c hc => let ⟨h1, p, h2, h3⟩ := h.ok c hc; ⟨h1, p, List.mem_append_left _ h2, h3⟩
  len := by rw [List.length_append]; have := h.len; omega
  ap := h.ap
  mem := fun t => by
    rw [h.mem t]
    constructor
    · rintro ⟨p, h1, h2⟩; exact ⟨p, List.mem_append_left _ h1, h2⟩
    · rintro ⟨p, h1, h2⟩
      rcases List.mem_append.mp h1 with z | z
      · exact ⟨p, z, h2⟩
      · rw [List.mem_singleton.mp z] at h2
        exact absurd h2 (hq t)
theorem CrI.add {ps : List ((Int × Int) × (Int × Int))} {acc : List (Int × Int)} {B : Int} (h : CrI ps acc B) {q : (Int × Int) × (Int × Int)} (okp : ∀ p ∈ ps, OkC p.1 ∧ OkC p.2) (h1 : OkC q.1) (h2 : OkC q.2) {c : Int × Int} (hc : Both q.1 q.2 c) (hB : c.2 ≤ B)
    (hap : ∀ p ∈ ps, ApartC p.1 q.1 ∨ ApartC p.2 q.2) : CrI (ps ++ [q]) (acc ++ [c]) B where
  ok := fun d hd => by
    rcases List.mem_append.mp hd with z | z
    · obtain ⟨k1, p, k2, k3⟩ := h.ok d z
      exact ⟨k1, p, List.mem_append_left _ k2, k3⟩
    · rw [List.mem_singleton.mp z]
      exact ⟨hB, q, List.mem_append_right _ (List.mem_singleton.mpr rfl), hc⟩
  len := by rw [List.length_append, List.length_append]; have := h.len; simp; omega
  ap := by
    rw [List.pairwise_append]
    refine ⟨h.ap, List.pairwise_singleton _ _, fun d hd e he => ?_⟩
    rw [List.mem_singleton.mp he]
    obtain ⟨_, p, hp, hb⟩ := h.ok d hd
    have e1 := (inC_iff (okp p hp).1).mp ((hb.t _).mp hb.self).1
    have e2 := (inC_iff (okp p hp).2).mp ((hb.t _).mp hb.self).2
    have e3 := (inC_iff h1).mp ((hc.t _).mp hc.self).1
    have e4 := (inC_iff h2).mp ((hc.t _).mp hc.self).2
    rcases hap p hp with z | z
    · exact z.lift hb.d1 hc.d1 e1 e3
    · exact z.lift hb.d2 hc.d2 e2 e4
  mem := fun t => by
    constructor
    · rintro ⟨d, hd, ht⟩
      rcases List.mem_append.mp hd with z | z
      · obtain ⟨p, k1, k2⟩ := (h.mem t).mp ⟨d, z, ht⟩
        exact ⟨p, List.mem_append_left _ k1, k2⟩
      · rw [List.mem_singleton.mp z] at ht
        exact ⟨q, List.mem_append_right _ (List.mem_singleton.mpr rfl), (hc.t t).mp ht⟩
    · rintro ⟨p, hp, ht⟩
      rcases List.mem_append.mp hp with z | z
      · obtain ⟨d, k1, k2⟩ := (h.mem t).mpr ⟨p, z, ht⟩
        exact ⟨d, List.mem_append_left _ k1, k2⟩
      · rw [List.mem_singleton.mp z] at ht
        exact ⟨c, List.mem_append_right _ (List.mem_singleton.mpr rfl), (hc.t t).mpr ht⟩
end Cu

namespace Cu
/-- all pairs, the first i of one and then the first j with a -/
def prs (xs ys : List (Int × Int)) (i : Nat) : List ((Int × Int) × (Int × Int)) := (xs.take i).flatMap fun a => ys.map fun b => (a, b)
theorem prs_succ {xs ys : List (Int × Int)} {i : Nat} {a : Int × Int} (h : xs[i]? = some a) : prs xs ys (i + 1) = prs xs ys i ++ ys.map fun b => (a, b) := by
  unfold prs
  rw [List.take_add_one, h, List.flatMap_append]
  simp
theorem prs_mem {xs ys : List (Int × Int)} {i : Nat} {p : (Int × Int) × (Int × Int)} (h : p ∈ prs xs ys i) : p.1 ∈ xs.take i ∧ p.2 ∈ ys := by
  unfold prs at h
  obtain ⟨a, ha, hp⟩ := List.mem_flatMap.mp h
  obtain ⟨b, hb, rfl⟩ := List.mem_map.mp hp
  exact ⟨ha, hb⟩
theorem apart_take {xs : List (Int × Int)} (h : xs.Pairwise ApartC) {i : Nat} {a b : Int × Int} (ha : xs[i]? = some a) (hb : b ∈ xs.take i) : ApartC b a := by
  obtain ⟨k, hk, rfl⟩ := List.mem_iff_getElem.mp hb
  rw [List.length_take] at hk
  obtain ⟨hi, rfl⟩ := List.getElem?_eq_some_iff.mp ha
  rw [List.getElem_take]
  exact List.pairwise_iff_getElem.mp h k i (by omega) hi (by omega)
theorem prs_all {xs ys : List (Int × Int)} : ∀ t, (∃ p ∈ prs xs ys xs.length, InC p.1 t ∧ InC p.2 t) ↔ (∃ a ∈ xs, InC a t) ∧ ∃ b ∈ ys, InC b t := fun t => by
  unfold prs
  rw [List.take_length]
  constructor
  · rintro ⟨p, hp, h1, h2⟩
    obtain ⟨a, ha, hp⟩ := List.mem_flatMap.mp hp
    obtain ⟨b, hb, rfl⟩ := List.mem_map.mp hp
    exact ⟨⟨a, ha, h1⟩, b, hb, h2⟩
  · rintro ⟨⟨a, ha, h1⟩, b, hb, h2⟩
    exact ⟨(a, b), List.mem_flatMap.mpr ⟨a, ha, List.mem_map.mpr ⟨b, hb, rfl⟩⟩, h1, h2⟩
theorem prs_len (xs ys : List (Int × Int)) : (prs xs ys xs.length).length = xs.length * ys.length := by
  unfold prs
  rw [List.take_length]
  induction xs with
  | nil => simp
  | cons a xs ih => rw [List.flatMap_cons, List.length_append, List.length_map, ih, List.length_cons, Nat.add_mul]; omega
/-! the next minute of a class -/
def nxt (f : Int) (c : Int × Int) : Int := f + (c.1 - f) % c.2
theorem nxt_ge {f : Int} {c : Int × Int} (h : OkC c) : f ≤ nxt f c := by
  have := Int.emod_nonneg (c.1 - f) (show c.2 ≠ 0 by have := h.pos; omega)
  unfold nxt
  omega
theorem nxt_lt {f : Int} {c : Int × Int} (h : OkC c) : nxt f c < f + c.2 := by
  have := Int.emod_lt_of_pos (c.1 - f) h.pos
  unfold nxt
  omega
theorem nxt_in {f : Int} {c : Int × Int} (h : OkC c) : InC c (nxt f c) := by
  rw [inC_iff h]
  unfold nxt
  have := Int.dvd_self_sub_emod (x := c.1 - f) (m := c.2)
  have e : f + (c.1 - f) % c.2 - c.1 = -(c.1 - f - (c.1 - f) % c.2) := by omega
  rw [e, Int.dvd_neg]
  exact this
theorem inC_step {c : Int × Int} (h : OkC c) {t u : Int} (h1 : InC c t) (h2 : InC c u) : c.2 ∣ t - u := by
  have a := (inC_iff h).mp h1
  have b := (inC_iff h).mp h2
  have := Int.dvd_sub a b
  have e : t - c.1 - (u - c.1) = t - u := by omega
  rwa [e] at this
theorem nxt_le {f : Int} {c : Int × Int} (h : OkC c) {t : Int} (ht : f ≤ t) (hc : InC c t) : nxt f c ≤ t := by
  have a := inC_step h (nxt_in (f := f) h) hc
  have b := nxt_lt (f := f) h
  rcases Int.lt_or_le t (nxt f c) with z | z
  · obtain ⟨k, hk⟩ := a
    have p := h.pos
    have k1 : 1 ≤ k := by
      rcases Int.lt_or_le k 1 with q | q
      · have := Int.mul_le_mul_of_nonneg_left (show k ≤ 0 by omega) (Int.le_of_lt p)
        omega
      · exact q
    have := Int.mul_le_mul_of_nonneg_left k1 (Int.le_of_lt p)
    omega
  · exact z
instance decInC (c : Int × Int) (t : Int) : Decidable (InC c t) := inferInstanceAs (Decidable (t % c.2 = c.1))
/-! the number of minutes -/
def cnt1 (st m : Int) (c : Int × Int) : Int := if nxt st c ≤ m then (m - nxt st c) / c.2 + 1 else 0
def cntL (st m : Int) (cs : List (Int × Int)) : Int := (cs.map (cnt1 st m)).sum
theorem cntL_nil (st m : Int) : cntL st m [] = 0 := rfl
theorem cntL_snoc (st m : Int) (cs : List (Int × Int)) (c : Int × Int) : cntL st m (cs ++ [c]) = cntL st m cs + cnt1 st m c := by
  unfold cntL
  rw [List.map_append, List.sum_append]
  simp
theorem cntL_cons (st m : Int) (cs : List (Int × Int)) (c : Int × Int) : cntL st m (c :: cs) = cnt1 st m c + cntL st m cs := by
  unfold cntL
  rw [List.map_cons, List.sum_cons]
theorem cnt1_step {st m : Int} {c : Int × Int} (h : OkC c) : cnt1 st m c - cnt1 st (m - 1) c = if st ≤ m ∧ InC c m then 1 else 0 := by
  have p := h.pos
  have n1 := nxt_ge (f := st) h
  have n2 := nxt_in (f := st) h
  unfold cnt1
  by_cases hm : st ≤ m ∧ InC c m
  · rw [if_pos hm]
    have l := nxt_le h hm.1 hm.2
    rw [if_pos l]
    have dv := inC_step h hm.2 n2
    obtain ⟨k, hk⟩ := dv
    have e1 : (m - nxt st c) / c.2 = k := by rw [hk]; exact Int.mul_ediv_cancel_left _ (by omega)
    by_cases q : nxt st c ≤ m - 1
    · rw [if_pos q, e1]
      have e2 : (m - 1 - nxt st c) / c.2 = k - 1 := by
        have e3 : m - 1 - nxt st c = (c.2 - 1) + c.2 * (k - 1) := by rw [Int.mul_sub]; omega
        rw [e3, Int.add_mul_ediv_left _ _ (by omega), Int.ediv_eq_zero_of_lt (by omega) (by omega)]
        omega
      rw [e2]
      omega
    · rw [if_neg q, e1]
      have : nxt st c = m := by omega
      have hk0 : c.2 * k = 0 := by omega
      have : k = 0 := (Int.mul_eq_zero.mp hk0).resolve_left (by omega)
      omega
  · rw [if_neg hm]
    by_cases q : nxt st c ≤ m - 1
    · rw [if_pos q, if_pos (by omega)]
      have hn : ¬ InC c m := fun z => hm ⟨by omega, z⟩
      have e : (m - nxt st c) / c.2 = (m - 1 - nxt st c) / c.2 := by
        have d1 := Int.mul_ediv_add_emod (m - 1 - nxt st c) c.2
        have d2 := Int.emod_nonneg (m - 1 - nxt st c) (show c.2 ≠ 0 by omega)
        have d3 := Int.emod_lt_of_pos (m - 1 - nxt st c) p
        generalize (m - 1 - nxt st c) / c.2 = k at *
        generalize (m - 1 - nxt st c) % c.2 = r at *
        by_cases hr : r = c.2 - 1
        · exfalso
          apply hn
          have dv : c.2 ∣ m - nxt st c := ⟨k + 1, by rw [Int.mul_add]; omega⟩
          rw [inC_iff h]
          have d4 := Int.dvd_add dv ((inC_iff h).mp n2)
          have e : m - nxt st c + (nxt st c - c.1) = m - c.1 := by omega
          rwa [e] at d4
        · have e3 : m - nxt st c = (r + 1) + c.2 * k := by omega
          rw [e3, Int.add_mul_ediv_left _ _ (by omega), Int.ediv_eq_zero_of_lt (by omega) (by omega)]
          omega
      rw [e]
      omega
    · by_cases q2 : nxt st c ≤ m
      · exfalso
        have : nxt st c = m := by omega
        exact hm ⟨by omega, this ▸ n2⟩
      · rw [if_neg q, if_neg q2]
        omega
/-- one minute more: one more, if the minute is of a class -/
theorem cntL_step {st m : Int} : ∀ {cs : List (Int × Int)}, (∀ c ∈ cs, OkC c) → cs.Pairwise ApartC → ∀ b : Bool, (b = true ↔ st ≤ m ∧ ∃ c ∈ cs, InC c m) → cntL st m cs - cntL st (m - 1) cs = if b = true then 1 else 0
  | [], _, _, b, hb => by
    have : ¬ b = true := fun z => by obtain ⟨_, c, h, _⟩ := hb.mp z; simp at h
    rw [if_neg this]
    rfl
  | c :: cs, ok, ap, b, hb => by
    rw [cntL_cons, cntL_cons]
    have hc := ok c List.mem_cons_self
    have hs := cnt1_step (st := st) (m := m) hc
    rw [List.pairwise_cons] at ap
    by_cases h : st ≤ m ∧ InC c m
    · rw [if_pos h] at hs
      have ih := cntL_step (st := st) (m := m) (fun d hd => ok d (List.mem_cons_of_mem _ hd)) ap.2 false ⟨fun z => (nomatch z), fun ⟨_, d, hd, ht⟩ => ((ap.1 d hd).no hc (ok d (List.mem_cons_of_mem _ hd)) h.2 ht).elim⟩
      rw [if_neg (by decide)] at ih
      rw [if_pos (hb.mpr ⟨h.1, c, List.mem_cons_self, h.2⟩)]
      omega
    · rw [if_neg h] at hs
      have ih := cntL_step (st := st) (m := m) (fun d hd => ok d (List.mem_cons_of_mem _ hd)) ap.2 b ⟨fun z => by
        obtain ⟨h1, d, hd, ht⟩ := hb.mp z
        rcases List.mem_cons.mp hd with rfl | hd
        · exact absurd ⟨h1, ht⟩ h
        · exact ⟨h1, d, hd, ht⟩, fun ⟨h1, d, hd, ht⟩ => hb.mpr ⟨h1, d, List.mem_cons_of_mem _ hd, ht⟩⟩
      omega
end Cu

namespace Cu
theorem cnt1_low {st m : Int} {c : Int × Int} (h : OkC c) (hm : m < st) : cnt1 st m c = 0 := by
  have := nxt_ge (f := st) h
  unfold cnt1
  rw [if_neg (by omega)]
theorem cntL_low {st m : Int} (hm : m < st) : ∀ {cs : List (Int × Int)}, (∀ c ∈ cs, OkC c) → cntL st m cs = 0
  | [], _ => rfl
  | c :: cs, ok => by
    rw [cntL_cons, cnt1_low (ok c List.mem_cons_self) hm, cntL_low hm fun d hd => ok d (List.mem_cons_of_mem _ hd)]
    rfl
/-- the number is told by the minutes alone -/
theorem cntL_eq {cs ds : List (Int × Int)} {B C : Int} {S : Int → Prop} (h : OkL cs B S) (h' : OkL ds C S) (st : Int) : ∀ (n : Nat) (m : Int), m = st + n - 1 → cntL st m cs = cntL st m ds := by
  intro n
  induction n with
  | zero =>
    intro m hm
    rw [cntL_low (by omega) fun c hc => (h.ok c hc).1, cntL_low (by omega) fun c hc => (h'.ok c hc).1]
  | succ n ih =>
    intro m hm
    have e := ih (m - 1) (by omega)
    have a := cntL_step (st := st) (m := m) (fun c hc => (h.ok c hc).1) h.ap (decide (∃ c ∈ cs, InC c m)) (by
      rw [decide_eq_true_eq]
      exact ⟨fun z => ⟨by omega, z⟩, fun z => z.2⟩)
    have b := cntL_step (st := st) (m := m) (fun c hc => (h'.ok c hc).1) h'.ap (decide (∃ c ∈ cs, InC c m)) (by
      rw [decide_eq_true_eq, h.mem, h'.mem]
      exact ⟨fun z => ⟨by omega, z⟩, fun z => z.2⟩)
    omega
theorem cntL_same {cs ds : List (Int × Int)} {B C : Int} {S : Int → Prop} (h : OkL cs B S) (h' : OkL ds C S) (st m : Int) : cntL st m cs = cntL st m ds := by
  by_cases hm : m < st
  · rw [cntL_low hm fun c hc => (h.ok c hc).1, cntL_low hm fun c hc => (h'.ok c hc).1]
  · exact cntL_eq h h' st (m - st + 1).toNat m (by omega)
/-! folding -/
def foldZ (s u : Int) : Int := if 2 * s - u % (2 * s) < u % (2 * s) then 2 * s - u % (2 * s) else u % (2 * s)
theorem foldZ_bd {s u : Int} (hs : 0 < s) : 0 ≤ foldZ s u ∧ foldZ s u ≤ s := by
  have h1 := Int.emod_nonneg u (show 2 * s ≠ 0 by omega)
  have h2 := Int.emod_lt_of_pos u (show 0 < 2 * s by omega)
  unfold foldZ
  split <;> omega
theorem foldZ_hit {s u p : Int} (hs : 0 < s) (h0 : 0 ≤ p) (h1 : p ≤ s) : foldZ s u = p ↔ Hit s u p := by
  have r0 := Int.emod_nonneg u (show 2 * s ≠ 0 by omega)
  have r1 := Int.emod_lt_of_pos u (show 0 < 2 * s by omega)
  have e := Int.mul_ediv_add_emod u (2 * s)
  unfold foldZ Hit
  generalize hr : u % (2 * s) = r at *
  generalize u / (2 * s) = q at *
  have small : ∀ k : Int, -(2 * s) < 2 * s * k → 2 * s * k < 2 * s → k = 0 := fun k a b => by
    rcases Int.lt_trichotomy k 0 with z | z | z
    · have := Int.mul_le_mul_of_nonneg_left (show k ≤ -1 by omega) (show 0 ≤ 2 * s by omega)
      omega
    · exact z
    · have := Int.mul_le_mul_of_nonneg_left (show 1 ≤ k by omega) (show 0 ≤ 2 * s by omega)
      omega
  constructor
  · intro h
    split at h
    · exact .inr ⟨q + 1, by rw [Int.mul_add]; omega⟩
    · exact .inl ⟨q, by omega⟩
  · rintro (⟨k, hk⟩ | ⟨k, hk⟩)
    · have e2 : r - p = 2 * s * (k - q) := by rw [Int.mul_sub]; omega
      have z := small (k - q) (by omega) (by omega)
      rw [z] at e2
      have : r = p := by omega
      split <;> omega
    · have e2 : r + p = 2 * s * (k - q) := by rw [Int.mul_sub]; omega
      have z : k - q = 0 ∨ k - q = 1 := by
        rcases Int.lt_trichotomy (k - q) 0 with z | z | z
        · have := Int.mul_le_mul_of_nonneg_left (show k - q ≤ -1 by omega) (show 0 ≤ 2 * s by omega)
          omega
        · exact .inl z
        · have : k - q ≤ 1 := by
            rcases Int.lt_or_le 1 (k - q) with y | y
            · have := Int.mul_le_mul_of_nonneg_left (show 2 ≤ k - q by omega) (show 0 ≤ 2 * s by omega)
              omega
            · exact y
          exact .inr (by omega)
      rcases z with z | z
      · rw [z] at e2
        split <;> omega
      · rw [z] at e2
        split <;> omega
theorem Hit.par {s u p : Int} (h : Hit s u p) : (u - p) % 2 = 0 := by
  rcases h with ⟨k, hk⟩ | ⟨k, hk⟩
  · have : u - p = 2 * (s * k) := by rw [hk, Int.mul_assoc]
    omega
  · have : u + p = 2 * (s * k) := by rw [hk, Int.mul_assoc]
    omega
theorem Hit.shift {s u p k : Int} (h : Hit s u p) : Hit s (u + 2 * s * k) p := by
  rcases h with h | h
  · left
    have e : u + 2 * s * k - p = (u - p) + 2 * s * k := by omega
    rw [e]
    exact Int.dvd_add h ⟨k, rfl⟩
  · right
    have e : u + 2 * s * k + p = (u + p) + 2 * s * k := by omega
    rw [e]
    exact Int.dvd_add h ⟨k, rfl⟩
/-! lists -/
theorem list_choose {α β : Type} {F : β → α} : ∀ {ys : List α} {P : Nat → β → Prop}, (∀ (i : Nat) (y : α), ys[i]? = some y → ∃ t, y = F t ∧ P i t) → ∃ ts : List β, ys = ts.map F ∧ ∀ (i : Nat) (t : β), ts[i]? = some t → P i t
  | [], P, h => ⟨[], rfl, fun i t e => by simp at e⟩
  | y :: ys, P, h => by
    obtain ⟨t, e1, e2⟩ := h 0 y rfl
    obtain ⟨ts, f1, f2⟩ := list_choose (ys := ys) (P := fun i t => P (i + 1) t) fun i y' e => h (i + 1) y' (by simpa using e)
    refine ⟨t :: ts, by rw [List.map_cons, ← e1, ← f1], fun i t' e => ?_⟩
    cases i with
    | zero =>
      have : t = t' := Option.some.inj e
      exact this ▸ e2
    | succ i => exact f2 i t' (by simpa using e)
/-- the first that passes -/
theorem filter_first {α : Type} {p : α → Bool} : ∀ {xs : List α} {i : Nat} {x : α}, xs[i]? = some x → p x = true → (∀ j y, xs[j]? = some y → p y = true → i ≤ j) → ∃ r, xs.filter p = x :: r
  | [], i, x, h, _, _ => by simp at h
  | y :: ys, 0, x, h, hp, _ => by
    have : y = x := Option.some.inj h
    subst this
    exact ⟨ys.filter p, by rw [List.filter_cons, if_pos hp]⟩
  | y :: ys, i + 1, x, h, hp, hm => by
    have hy : ¬ p y = true := fun z => by have := hm 0 y rfl z; omega
    obtain ⟨r, hr⟩ := filter_first (xs := ys) (i := i) (x := x) (by simpa using h) hp fun j z hz hpz => by
      have := hm (j + 1) z (by simpa using hz) hpz
      omega
    exact ⟨r, by rw [List.filter_cons, if_neg hy, hr]⟩
end Cu

namespace Cu
theorem Hit.of_even {s u v p : Int} (h : 2 * s ∣ u - v ∨ 2 * s ∣ u + v) (k : Hit s v p) : Hit s u p := by
  rcases h with h | h
  · rcases k with k | k
    · left
      have e : u - p = (u - v) + (v - p) := by omega
      rw [e]; exact Int.dvd_add h k
    · right
      have e : u + p = (u - v) + (v + p) := by omega
      rw [e]; exact Int.dvd_add h k
  · rcases k with k | k
    · right
      have e : u + p = (u + v) - (v - p) := by omega
      rw [e]; exact Int.dvd_sub h k
    · left
      have e : u - p = (u + v) - (v + p) := by omega
      rw [e]; exact Int.dvd_sub h k
theorem foldZ_even {s u v : Int} (hs : 0 < s) (h : 2 * s ∣ u - v ∨ 2 * s ∣ u + v) : foldZ s u = foldZ s v := by
  have b := foldZ_bd (s := s) (u := v) hs
  rw [foldZ_hit hs b.1 b.2]
  exact Hit.of_even h ((foldZ_hit hs b.1 b.2).mp rfl)
theorem foldZ_self {s x : Int} (hs : 0 < s) (h0 : 0 ≤ x) (h1 : x ≤ s) : foldZ s x = x := (foldZ_hit hs h0 h1).mpr (.inl ⟨0, by omega⟩)
/-! the runs by phases -/
def phZ (s x d : Int) : Int := if d = 1 then x else (-x) % (2 * s)
def partZ (s x d k : Int) : Int := if d = 0 then x else foldZ s (phZ s x d + k)
def stepZ (s x d k : Int) : Int := if d = 0 then 0 else if (phZ s x d + k) % (2 * s) < s then 1 else -1
theorem phZ_m1 (s x : Int) : 2 * s ∣ phZ s x (-1) + x := by
  have e : phZ s x (-1) = (-x) % (2 * s) := if_neg (by decide)
  rw [e]
  have := Int.dvd_self_sub_emod (x := -x) (m := 2 * s)
  have e2 : (-x) % (2 * s) + x = -(-x - (-x) % (2 * s)) := by omega
  rw [e2]
  exact Int.dvd_neg.mpr this
theorem phZ_1 (s x : Int) : phZ s x 1 = x := if_pos rfl
theorem partZ_fold {s x d k : Int} (hs : 0 < s) (h0 : 0 ≤ x) (h1 : x ≤ s) (hd : d = -1 ∨ d = 0 ∨ d = 1) : partZ s x d k = foldZ s (x + d * k) := by
  unfold partZ
  rcases hd with rfl | rfl | rfl
  · rw [if_neg (by decide)]
    refine foldZ_even hs (.inr ?_)
    have := phZ_m1 s x
    have e : phZ s x (-1) + k + (x + -1 * k) = phZ s x (-1) + x := by omega
    rw [e]; exact this
  · rw [if_pos rfl]
    have e : x + 0 * k = x := by omega
    rw [e, foldZ_self hs h0 h1]
  · rw [if_neg (by decide), phZ_1]
    have e : x + 1 * k = x + k := by omega
    rw [e]
theorem stepZ_per {s x d k P : Int} (h : d ≠ 0 → 2 * s ∣ P) : stepZ s x d (k + P) = stepZ s x d k := by
  unfold stepZ
  by_cases hd : d = 0
  · rw [if_pos hd, if_pos hd]
  · rw [if_neg hd, if_neg hd]
    obtain ⟨q, hq⟩ := h hd
    have e : (phZ s x d + (k + P)) % (2 * s) = (phZ s x d + k) % (2 * s) := by
      rw [emod_emod_iff]
      exact ⟨q, by omega⟩
    rw [e]
theorem foldZ_per {s x d k P : Int} (hs : 0 < s) (h : d ≠ 0 → 2 * s ∣ P) : foldZ s (x + d * (k + P)) = foldZ s (x + d * k) := by
  refine foldZ_even hs (.inl ?_)
  have e : x + d * (k + P) - (x + d * k) = d * P := by rw [Int.mul_add]; omega
  rw [e]
  by_cases hd : d = 0
  · rw [hd, Int.zero_mul]; exact ⟨0, by omega⟩
  · exact Int.dvd_mul_of_dvd_right (h hd)
/-- the law's own way to fold -/
def lawPart (s u : Int) : Int := if u / s % 2 = 1 then s - (u - u / s * s) else u - u / s * s
theorem lawPart_eq {s u : Int} (hs : 0 < s) : lawPart s u = foldZ s u := by
  have e := Int.mul_ediv_add_emod u s
  have r0 := Int.emod_nonneg u (show s ≠ 0 by omega)
  have r1 := Int.emod_lt_of_pos u hs
  have e2 : u - u / s * s = u % s := by rw [Int.mul_comm]; omega
  unfold lawPart
  rw [e2]
  have q2 := Int.mul_ediv_add_emod (u / s) 2
  generalize hq : u / s = q at *
  generalize hr : u % s = r at *
  symm
  split
  · rename_i h
    rw [foldZ_hit hs (by omega) (by omega)]
    right
    refine ⟨q / 2 + 1, ?_⟩
    have e3 : u + (s - r) = s * q + s := by omega
    have e4 : q = 2 * (q / 2) + 1 := by omega
    generalize q / 2 = z at *
    subst e4
    rw [e3]
    grind
  · rename_i h
    rw [foldZ_hit hs (by omega) (by omega)]
    left
    refine ⟨q / 2, ?_⟩
    have e3 : u - r = s * q := by omega
    have e4 : q = 2 * (q / 2) := by omega
    generalize q / 2 = z at *
    subst e4
    rw [e3]
    grind
/-! where the ball is at an edge -/
def Edge (s x d k : Int) : Prop := s ∣ x + d * k
def emd (s d : Int) : Int := if d = 0 then 1 else s
/-- the class of an edge -/
def ecZ (s x d : Int) : Option (Int × Int) := if d ≠ 0 then some ((-phZ s x d) % s, s) else if x = 0 ∨ x = s then some (0, 1) else none
theorem ecZ_none {s x d : Int} (hs : 0 < s) (h0 : 0 ≤ x) (h1 : x ≤ s) (h : ecZ s x d = none) (k : Int) : ¬ Edge s x d k := by
  unfold ecZ at h
  split at h
  · cases h
  · rename_i hd
    split at h
    · cases h
    · rename_i hx
      have hd' : d = 0 := by omega
      subst hd'
      unfold Edge
      rintro ⟨q, hq⟩
      have hq' : x = s * q := by omega
      rcases Int.lt_trichotomy q 0 with z | z | z
      · have := Int.mul_le_mul_of_nonneg_left (show q ≤ -1 by omega) (Int.le_of_lt hs)
        omega
      · rw [z] at hq'
        omega
      · by_cases q1 : q = 1
        · rw [q1] at hq'
          omega
        · have := Int.mul_le_mul_of_nonneg_left (show 2 ≤ q by omega) (Int.le_of_lt hs)
          omega
theorem ecZ_some {s x d : Int} (hs : 0 < s) (hd : d = -1 ∨ d = 0 ∨ d = 1) {c : Int × Int} (h : ecZ s x d = some c) : OkC c ∧ c.2 = emd s d ∧ ∀ k, InC c k ↔ Edge s x d k := by
  unfold ecZ at h
  split at h
  · rename_i hd0
    have hc := Option.some.inj h
    subst hc
    have ok : OkC ((-phZ s x d) % s, s) := ⟨Int.emod_nonneg _ (by omega), Int.emod_lt_of_pos _ hs⟩
    refine ⟨ok, by unfold emd; rw [if_neg hd0], fun k => ?_⟩
    have e1 : InC ((-phZ s x d) % s, s) k ↔ s ∣ k + phZ s x d := by
      show k % s = (-phZ s x d) % s ↔ _
      rw [emod_emod_iff]
      have : k - -phZ s x d = k + phZ s x d := by omega
      rw [this]
    rw [e1]
    unfold Edge
    rcases hd with rfl | rfl | rfl
    · have h2 := Int.dvd_trans (show s ∣ 2 * s from ⟨2, by omega⟩) (phZ_m1 s x)
      constructor
      · intro h3
        have := Int.dvd_sub h2 h3
        have e : phZ s x (-1) + x - (k + phZ s x (-1)) = x + -1 * k := by omega
        rwa [e] at this
      · intro h3
        have := Int.dvd_sub h2 h3
        have e : phZ s x (-1) + x - (x + -1 * k) = k + phZ s x (-1) := by omega
        rwa [e] at this
    · exact absurd rfl hd0
    · rw [phZ_1]
      have e : x + 1 * k = k + x := by omega
      rw [e]
  · rename_i hd0
    split at h
    · rename_i hx
      have hc := Option.some.inj h
      subst hc
      have hd' : d = 0 := by omega
      subst hd'
      refine ⟨⟨Int.le_refl _, by decide⟩, rfl, fun k => ?_⟩
      unfold InC Edge
      simp only [Int.emod_one, true_iff]
      rcases hx with rfl | rfl
      · exact ⟨0, by omega⟩
      · exact ⟨1, by omega⟩
    · cases h
end Cu

namespace Cu
theorem bmul {a b : Int} {x y : Nat} (ha : a.natAbs ≤ 2 ^ x) (hb : b.natAbs ≤ 2 ^ y) : (a * b).natAbs ≤ 2 ^ (x + y) := by
  rw [Int.natAbs_mul, Nat.pow_add]
  exact Nat.mul_le_mul ha hb
def lcZ (a b : Int) : Int := a * (b / ((Int.gcd a b : Nat) : Int))
theorem lcZ_comm {a b : Int} (ha : 0 < a) (hb : 0 < b) : lcZ a b = lcZ b a := by
  unfold lcZ
  rw [Int.gcd_comm b a]
  have g0 : 0 < ((Int.gcd a b : Nat) : Int) := by
    have := Int.gcd_pos_of_ne_zero_left b (show a ≠ 0 by omega)
    omega
  obtain ⟨p, hp⟩ := Int.gcd_dvd_left a b
  obtain ⟨q, hq⟩ := Int.gcd_dvd_right a b
  generalize ((Int.gcd a b : Nat) : Int) = g at *
  have e1 : b / g = q := by rw [hq]; exact Int.mul_ediv_cancel_left _ (by omega)
  have e2 : a / g = p := by rw [hp]; exact Int.mul_ediv_cancel_left _ (by omega)
  rw [e1, e2, hp, hq]
  grind
/-- the corner's minutes, told since the start -/
def CornerOf (w h x y dx dy : Int) : Option (Int × Int) → Prop
  | none => (∀ k, ¬ (Edge w x dx k ∧ Edge h y dy k)) ∧ (dx ≠ 0 → dy ≠ 0 → ¬ ((Int.gcd w h : Nat) : Int) ∣ x * dx - y * dy)
  | some c => 0 ≤ c.1 ∧ c.1 < c.2 ∧ c.2 = lcZ (emd w dx) (emd h dy) ∧ ∀ k, (Edge w x dx k ∧ Edge h y dy k) ↔ c.2 ∣ k - c.1
theorem emd_pos {s d : Int} (hs : 0 < s) : 0 < emd s d := by unfold emd; split <;> omega
theorem CornerOf.eq {w h x y dx dy : Int} (hw : 0 < w) (hh : 0 < h) {o o' : Option (Int × Int)} (k : CornerOf w h x y dx dy o) (k' : CornerOf h w y x dy dx o') : o = o' := by
  cases o with
  | none =>
    cases o' with
    | none => rfl
    | some c =>
      have := (k'.2.2.2 c.1).mpr ⟨0, by omega⟩
      exact absurd ⟨this.2, this.1⟩ (k.1 c.1)
  | some c =>
    cases o' with
    | none =>
      have := (k.2.2.2 c.1).mpr ⟨0, by omega⟩
      exact absurd ⟨this.2, this.1⟩ (k'.1 c.1)
    | some c' =>
      obtain ⟨a1, a2, a3, a4⟩ := k
      obtain ⟨b1, b2, b3, b4⟩ := k'
      have e : c.2 = c'.2 := by rw [a3, b3, lcZ_comm (emd_pos hw) (emd_pos hh)]
      have h1 := (b4 c'.1).mpr ⟨0, by omega⟩
      have h2 := (a4 c'.1).mp ⟨h1.2, h1.1⟩
      have e1 : c'.1 = c.1 := by
        have := emod_emod_iff.mpr h2
        rw [Int.emod_eq_of_lt b1 (by omega), Int.emod_eq_of_lt a1 a2] at this
        exact this
      have : c = c' := Prod.ext e1.symm e
      rw [this]
/-- a corner tells: the difference is a multiple -/
theorem corner_dvd {w h x y dx dy k : Int} (hx : dx = -1 ∨ dx = 1) (hy : dy = -1 ∨ dy = 1) (e1 : Edge w x dx k) (e2 : Edge h y dy k) : ((Int.gcd w h : Nat) : Int) ∣ x * dx - y * dy := by
  have g1 := Int.dvd_trans (Int.gcd_dvd_left w h) e1
  have g2 := Int.dvd_trans (Int.gcd_dvd_right w h) e2
  have a : x * dx - y * dy = (x + dx * k) * dx - (y + dy * k) * dy := by
    rcases hx with rfl | rfl <;> rcases hy with rfl | rfl <;> omega
  rw [a]
  exact Int.dvd_sub (Int.dvd_mul_of_dvd_left g1) (Int.dvd_mul_of_dvd_left g2)
/-- no corner by the remainders -/
theorem ph_dvd {s x d : Int} (hd : d = -1 ∨ d = 1) : s ∣ (-phZ s x d) % s + x * d := by
  have h1 := Int.dvd_self_sub_emod (x := -phZ s x d) (m := s)
  rcases hd with rfl | rfl
  · have h2 := Int.dvd_trans (show s ∣ 2 * s from ⟨2, by omega⟩) (phZ_m1 s x)
    have := Int.dvd_add h1 h2
    have e : -phZ s x (-1) - -phZ s x (-1) % s + (phZ s x (-1) + x) = -((-phZ s x (-1)) % s + x * -1) := by omega
    rw [e] at this
    exact Int.dvd_neg.mp this
  · rw [phZ_1] at *
    have e : -x - -x % s = -((-x) % s + x * 1) := by omega
    rw [e] at h1
    exact Int.dvd_neg.mp h1
def pcZ (w h dx dy : Int) (c : Bool) : Int :=
  if dx ≠ 0 ∧ dy ≠ 0 then
    (if c = true then ((Int.gcd w h : Nat) : Int) * (w / ((Int.gcd w h : Nat) : Int)) * (h / ((Int.gcd w h : Nat) : Int)) + 1 - (w / ((Int.gcd w h : Nat) : Int) - 1) * (h / ((Int.gcd w h : Nat) : Int) - 1) / 2
    else 2 * ((Int.gcd w h : Nat) : Int) * (w / ((Int.gcd w h : Nat) : Int)) * (h / ((Int.gcd w h : Nat) : Int)) - 2 * (w / ((Int.gcd w h : Nat) : Int)) * (h / ((Int.gcd w h : Nat) : Int)) + w / ((Int.gcd w h : Nat) : Int) + h / ((Int.gcd w h : Nat) : Int))
  else 1 + (if dx ≠ 0 then w else h)
theorem pcZ_comm {w h dx dy : Int} (hd : ¬ (dx = 0 ∧ dy = 0)) (c : Bool) : pcZ h w dy dx c = pcZ w h dx dy c := by
  unfold pcZ
  rw [Int.gcd_comm h w]
  generalize ((Int.gcd w h : Nat) : Int) = g
  generalize w / g = p
  generalize h / g = q
  by_cases h1 : dx = 0
  · have h2 : dy ≠ 0 := fun z => hd ⟨h1, z⟩
    simp [h1, h2]
  · by_cases h2 : dy = 0
    · simp [h1, h2]
    · have e1 : g * q * p = g * p * q := by grind
      have e2 : (q - 1) * (p - 1) = (p - 1) * (q - 1) := Int.mul_comm _ _
      have e3 : 2 * g * q * p = 2 * g * p * q := by grind
      have e4 : 2 * q * p = 2 * p * q := by grind
      have c1 : (dy ≠ 0 ∧ dx ≠ 0) := ⟨h2, h1⟩
      have c2 : (dx ≠ 0 ∧ dy ≠ 0) := ⟨h1, h2⟩
      rw [if_pos c1, if_pos c2]
      cases c with
      | true => rw [if_pos rfl, if_pos rfl, e1, e2]
      | false => rw [if_neg (by decide), if_neg (by decide), e3, e4]; omega
/-- the classes of a coordinate, as runs tells them -/
def pclZ (s x d g : Int) : List (Int × Int) := if d = 0 then (if x = g then [(0, 1)] else []) else if (g - phZ s x d) % (2 * s) = (-g - phZ s x d) % (2 * s) then [((g - phZ s x d) % (2 * s), 2 * s)] else [((g - phZ s x d) % (2 * s), 2 * s), ((-g - phZ s x d) % (2 * s), 2 * s)]
theorem pclZ_okL {s x d g : Int} (hs : 0 < s) (x0 : 0 ≤ x) (x1 : x ≤ s) (g0 : 0 ≤ g) (g1 : g ≤ s) (hd : d = -1 ∨ d = 0 ∨ d = 1) : OkL (pclZ s x d g) (2 * s) (fun t => Hit s (x + d * t) g) := by
  unfold pclZ
  by_cases h : d = 0
  · rw [if_pos h]
    have e : ∀ t, Hit s (x + d * t) g ↔ x = g := fun t => by
      have e1 : x + d * t = x := by rw [h]; omega
      rw [e1, ← foldZ_hit hs g0 g1, foldZ_self hs x0 x1]
    by_cases hxg : x = g
    · rw [if_pos hxg]
      refine ⟨fun c hc => ?_, List.pairwise_singleton _ _, fun t => ?_⟩
      · rw [List.mem_singleton.mp hc]
        exact ⟨⟨Int.le_refl _, by decide⟩, by show (1 : Int) ≤ 2 * s; omega⟩
      · rw [e]
        exact ⟨fun _ => hxg, fun _ => ⟨_, List.mem_singleton.mpr rfl, by simp [InC, Int.emod_one]⟩⟩
    · rw [if_neg hxg]
      refine ⟨fun c hc => by simp at hc, .nil, fun t => ?_⟩
      rw [e]
      exact ⟨fun ⟨c, hc, _⟩ => by simp at hc, fun z => absurd z hxg⟩
  · rw [if_neg h]
    have ok : ∀ r : Int, OkC (r % (2 * s), 2 * s) ∧ ((r % (2 * s), 2 * s) : Int × Int).2 ≤ 2 * s := fun r => ⟨⟨Int.emod_nonneg _ (by omega), Int.emod_lt_of_pos _ (by omega)⟩, Int.le_refl _⟩
    have inc : ∀ r t : Int, InC (r % (2 * s), 2 * s) t ↔ 2 * s ∣ t - r := fun r t => by
      show t % (2 * s) = r % (2 * s) ↔ _
      exact emod_emod_iff
    have hit : ∀ t, Hit s (x + d * t) g ↔ 2 * s ∣ t - (g - phZ s x d) ∨ 2 * s ∣ t - (-g - phZ s x d) := fun t => by
      unfold Hit
      rcases hd with rfl | rfl | rfl
      · have p := phZ_m1 s x
        have a : 2 * s ∣ x + -1 * t - g ↔ 2 * s ∣ t - (-g - phZ s x (-1)) := by
          constructor
          · intro z
            have := Int.dvd_sub p z
            have e : phZ s x (-1) + x - (x + -1 * t - g) = t - (-g - phZ s x (-1)) := by omega
            rwa [e] at this
          · intro z
            have := Int.dvd_sub p z
            have e : phZ s x (-1) + x - (t - (-g - phZ s x (-1))) = x + -1 * t - g := by omega
            rwa [e] at this
        have b : 2 * s ∣ x + -1 * t + g ↔ 2 * s ∣ t - (g - phZ s x (-1)) := by
          constructor
          · intro z
            have := Int.dvd_sub p z
            have e : phZ s x (-1) + x - (x + -1 * t + g) = t - (g - phZ s x (-1)) := by omega
            rwa [e] at this
          · intro z
            have := Int.dvd_sub p z
            have e : phZ s x (-1) + x - (t - (g - phZ s x (-1))) = x + -1 * t + g := by omega
            rwa [e] at this
        rw [a, b]
        exact Or.comm
      · exact absurd rfl h
      · rw [phZ_1]
        have e1 : x + 1 * t - g = t - (g - x) := by omega
        have e2 : x + 1 * t + g = t - (-g - x) := by omega
        rw [e1, e2]
    by_cases he : (g - phZ s x d) % (2 * s) = (-g - phZ s x d) % (2 * s)
    · rw [if_pos he]
      refine ⟨fun c hc => ?_, List.pairwise_singleton _ _, fun t => ?_⟩
      · rw [List.mem_singleton.mp hc]; exact ok _
      · rw [hit, ← inc, ← inc, ← he]
        constructor
        · rintro ⟨c, hc, ht⟩
          rw [List.mem_singleton.mp hc] at ht
          exact .inl ht
        · rintro (z | z) <;> exact ⟨_, List.mem_singleton.mpr rfl, z⟩
    · rw [if_neg he]
      refine ⟨fun c hc => ?_, ?_, fun t => ?_⟩
      · rcases List.mem_cons.mp hc with rfl | hc
        · exact ok _
        · rw [List.mem_singleton.mp hc]; exact ok _
      · rw [List.pairwise_cons]
        refine ⟨fun c hc => ?_, List.pairwise_singleton _ _⟩
        rw [List.mem_singleton.mp hc]
        intro z
        show False
        have eg : ((Int.gcd (2 * s) (2 * s) : Nat) : Int) = 2 * s := by rw [Int.gcd_self]; omega
        have z' : 2 * s ∣ (g - phZ s x d) % (2 * s) - (-g - phZ s x d) % (2 * s) := by
          have : ((Int.gcd (2 * s) (2 * s) : Nat) : Int) ∣ (g - phZ s x d) % (2 * s) - (-g - phZ s x d) % (2 * s) := z
          rwa [eg] at this
        have := emod_emod_iff.mpr z'
        rw [Int.emod_emod_of_dvd _ (Int.dvd_refl _), Int.emod_emod_of_dvd _ (Int.dvd_refl _)] at this
        exact he this
      · rw [hit, ← inc, ← inc]
        constructor
        · rintro ⟨c, hc, ht⟩
          rcases List.mem_cons.mp hc with rfl | hc
          · exact .inl ht
          · rw [List.mem_singleton.mp hc] at ht
            exact .inr ht
        · rintro (z | z)
          · exact ⟨_, List.mem_cons_self, z⟩
          · exact ⟨_, List.mem_cons_of_mem _ (List.mem_singleton.mpr rfl), z⟩
end Cu

namespace Cu
/-! the walk that turns round at the edges -/
def flipZ (s x d : Int) : Int := if x + d < 0 ∨ x + d > s then -d else d
theorem emod_next {a n : Int} (hn : 0 < n) : (a + 1) % n = if a % n + 1 = n then 0 else a % n + 1 := by
  rw [← Int.emod_add_emod]
  have h1 := Int.emod_nonneg a (show n ≠ 0 by omega)
  have h2 := Int.emod_lt_of_pos a hn
  split
  · rename_i h
    rw [h, Int.emod_self]
  · rw [Int.emod_eq_of_lt (by omega) (by omega)]
theorem flip_start {s x d : Int} (hs : 0 < s) (h0 : 0 ≤ x) (h1 : x ≤ s) (hd : d = -1 ∨ d = 0 ∨ d = 1) : flipZ s x d = stepZ s x d 0 := by
  rcases hd with rfl | rfl | rfl
  · unfold flipZ stepZ phZ
    rw [if_neg (show ¬ (-1 : Int) = 0 by decide), if_neg (show ¬ (-1 : Int) = 1 by decide), Int.add_zero, Int.emod_emod]
    by_cases z : x = 0
    · subst z
      rw [Int.neg_zero, Int.zero_emod, if_pos hs, if_pos (by omega)]
      rfl
    · have e : (-x) % (2 * s) = 2 * s - x := by
        have := Int.add_emod_right (-x) (2 * s)
        rw [← this, Int.emod_eq_of_lt (by omega) (by omega)]
        omega
      rw [e]
      split <;> split <;> omega
  · unfold flipZ stepZ
    rw [if_pos rfl]
    split <;> omega
  · unfold flipZ stepZ phZ
    rw [if_neg (show ¬ (1 : Int) = 0 by decide), if_pos rfl, Int.add_zero, Int.emod_eq_of_lt h0 (by omega)]
    split <;> split <;> omega
theorem partZ_start {s x d : Int} (hs : 0 < s) (h0 : 0 ≤ x) (h1 : x ≤ s) (hd : d = -1 ∨ d = 0 ∨ d = 1) : partZ s x d 0 = x := by
  rw [partZ_fold hs h0 h1 hd, Int.mul_zero, Int.add_zero, foldZ_self hs h0 h1]
theorem walk_step {s x d k : Int} (hs : 0 < s) (hd : d = -1 ∨ d = 0 ∨ d = 1) : partZ s x d k + stepZ s x d k = partZ s x d (k + 1) ∧ flipZ s (partZ s x d (k + 1)) (stepZ s x d k) = stepZ s x d (k + 1) ∨ d = 0 := by
  by_cases z : d = 0
  · exact .inr z
  · left
    unfold partZ stepZ
    rw [if_neg z, if_neg z, if_neg z, if_neg z]
    have e := emod_next (a := phZ s x d + k) (n := 2 * s) (by omega)
    have e2 : phZ s x d + (k + 1) = phZ s x d + k + 1 := by omega
    rw [e2]
    unfold foldZ flipZ
    rw [e]
    have r0 := Int.emod_nonneg (phZ s x d + k) (show 2 * s ≠ 0 by omega)
    have r1 := Int.emod_lt_of_pos (phZ s x d + k) (show 0 < 2 * s by omega)
    generalize (phZ s x d + k) % (2 * s) = p at *
    constructor
    · by_cases c1 : p + 1 = 2 * s
      · rw [if_pos c1]
        split <;> split <;> split <;> omega
      · rw [if_neg c1]
        split <;> split <;> split <;> omega
    · by_cases c1 : p + 1 = 2 * s
      · rw [if_pos c1]
        by_cases c2 : p < s
        · rw [if_pos c2]; omega
        · rw [if_neg c2]
          rw [if_neg (show ¬ 2 * s - 0 < 0 by omega), if_pos (show (0 : Int) < s by omega)]
          split <;> omega
      · rw [if_neg c1]
        by_cases c2 : p < s
        · rw [if_pos c2]
          by_cases c3 : 2 * s - (p + 1) < p + 1
          · omega
          · rw [if_neg c3]
            split <;> split <;> omega
        · rw [if_neg c2]
          by_cases c3 : 2 * s - (p + 1) < p + 1
          · rw [if_pos c3]
            split <;> split <;> omega
          · rw [if_neg c3]
            split <;> split <;> omega
theorem walk_next {s x d k : Int} (hs : 0 < s) (h0 : 0 ≤ x) (h1 : x ≤ s) (hd : d = -1 ∨ d = 0 ∨ d = 1) : partZ s x d k + stepZ s x d k = partZ s x d (k + 1) ∧ flipZ s (partZ s x d (k + 1)) (stepZ s x d k) = stepZ s x d (k + 1) := by
  rcases walk_step (s := s) (x := x) (d := d) (k := k) hs hd with h | rfl
  · exact h
  · unfold partZ stepZ flipZ
    rw [if_pos rfl, if_pos rfl, if_pos rfl, if_pos rfl]
    constructor
    · omega
    · split <;> omega
/-! enlarged -/
theorem emod_scale {f : Int} (hf : 0 < f) (u n : Int) : (u * f) % (n * f) = u % n * f := by
  rw [Int.mul_comm u, Int.mul_comm n, Int.mul_emod_mul_of_pos _ _ hf, Int.mul_comm]
theorem lt_scale {f : Int} (hf : 0 < f) (a b : Int) : a * f < b * f ↔ a < b := ⟨fun h => Int.lt_of_mul_lt_mul_right h (Int.le_of_lt hf), fun h => Int.mul_lt_mul_of_pos_right h hf⟩
theorem foldZ_scale {f s u : Int} (hf : 0 < f) : foldZ (s * f) (u * f) = foldZ s u * f := by
  unfold foldZ
  have e1 : 2 * (s * f) = 2 * s * f := by rw [Int.mul_assoc]
  rw [e1, emod_scale hf, ← Int.sub_mul]
  by_cases c : 2 * s - u % (2 * s) < u % (2 * s)
  · rw [if_pos c, if_pos ((lt_scale hf _ _).mpr c)]
  · rw [if_neg c, if_neg fun z => c ((lt_scale hf _ _).mp z)]
theorem phZ_scale {f s x d : Int} (hf : 0 < f) : phZ (s * f) (x * f) d = phZ s x d * f := by
  unfold phZ
  split
  · rfl
  · have e1 : 2 * (s * f) = 2 * s * f := by rw [Int.mul_assoc]
    rw [e1, ← Int.neg_mul, emod_scale hf]
theorem stepZ_scale {f s x d k : Int} (hf : 0 < f) : stepZ (s * f) (x * f) d (k * f) = stepZ s x d k := by
  unfold stepZ
  split
  · rfl
  · have e1 : 2 * (s * f) = 2 * s * f := by rw [Int.mul_assoc]
    rw [e1, phZ_scale hf, ← Int.add_mul, emod_scale hf]
    by_cases c : (phZ s x d + k) % (2 * s) < s
    · rw [if_pos c, if_pos ((lt_scale hf _ _).mpr c)]
    · rw [if_neg c, if_neg fun z => c ((lt_scale hf _ _).mp z)]
theorem dvd_scale {f a b : Int} (hf : 0 < f) : a * f ∣ b * f ↔ a ∣ b := by
  constructor
  · rintro ⟨k, hk⟩
    refine ⟨k, Int.eq_of_mul_eq_mul_right (show f ≠ 0 by omega) ?_⟩
    rw [hk, Int.mul_right_comm]
  · rintro ⟨k, hk⟩
    exact ⟨k, by rw [hk, Int.mul_right_comm]⟩
theorem hit_scale {f s u p : Int} (hf : 0 < f) : Hit (s * f) (u * f) (p * f) ↔ Hit s u p := by
  unfold Hit
  have e1 : 2 * (s * f) = 2 * s * f := by rw [Int.mul_assoc]
  rw [e1, ← Int.sub_mul, ← Int.add_mul, dvd_scale hf, dvd_scale hf]
theorem hit_div {f s x d p t : Int} (hd : d = -1 ∨ d = 1) (h : Hit (s * f) (x * f + d * t) (p * f)) : f ∣ t := by
  have key : ∀ z : Int, f ∣ d * t + z * f → f ∣ t := fun z hz => by
    have h1 : f ∣ d * t := (Int.dvd_add_left ⟨z, Int.mul_comm _ _⟩).mp hz
    rcases hd with rfl | rfl
    · have : -1 * t = -t := by omega
      rw [this] at h1
      exact Int.dvd_neg.mp h1
    · rwa [Int.one_mul] at h1
  rcases h with ⟨k, hk⟩ | ⟨k, hk⟩
  · refine key (x - p) ⟨2 * s * k, ?_⟩
    have : d * t + (x - p) * f = x * f + d * t - p * f := by rw [Int.sub_mul]; omega
    rw [this, hk]; grind
  · refine key (x + p) ⟨2 * s * k, ?_⟩
    have : d * t + (x + p) * f = x * f + d * t + p * f := by rw [Int.add_mul]; omega
    rw [this, hk]; grind
/-- the run is on the point k minutes behind its beginning -/
def AtZ (w h x y dx dy px py k : Int) : Prop := Hit w (x + dx * k) px ∧ Hit h (y + dy * k) py
theorem atZ_scale {f w h x y dx dy px py k : Int} (hf : 0 < f) : AtZ (w * f) (h * f) (x * f) (y * f) dx dy (px * f) (py * f) (k * f) ↔ AtZ w h x y dx dy px py k := by
  unfold AtZ
  have e1 : x * f + dx * (k * f) = (x + dx * k) * f := by rw [Int.add_mul, Int.mul_assoc]
  have e2 : y * f + dy * (k * f) = (y + dy * k) * f := by rw [Int.add_mul, Int.mul_assoc]
  rw [e1, e2, hit_scale hf, hit_scale hf]
theorem atZ_div {f w h x y dx dy px py t : Int} (hx : dx = -1 ∨ dx = 0 ∨ dx = 1) (hy : dy = -1 ∨ dy = 0 ∨ dy = 1) (hd : ¬ (dx = 0 ∧ dy = 0)) (k : AtZ (w * f) (h * f) (x * f) (y * f) dx dy (px * f) (py * f) t) : f ∣ t := by
  by_cases z : dx = 0
  · exact hit_div (by omega) k.2
  · exact hit_div (by omega) k.1
theorem atZ_per {w h x y dx dy px py k : Int} (j : Int) (a : AtZ w h x y dx dy px py k) : AtZ w h x y dx dy px py (k + 4 * w * h * j) := by
  have h1 := a.1.shift (k := 2 * h * dx * j)
  have h2 := a.2.shift (k := 2 * w * dy * j)
  refine ⟨?_, ?_⟩
  · have e : x + dx * (k + 4 * w * h * j) = x + dx * k + 2 * w * (2 * h * dx * j) := by grind
    rw [e]; exact h1
  · have e : y + dy * (k + 4 * w * h * j) = y + dy * k + 2 * h * (2 * w * dy * j) := by grind
    rw [e]; exact h2
theorem atZ_fold {w h x y dx dy px py k : Int} (hw : 0 < w) (hh : 0 < h) (p0 : 0 ≤ px ∧ px ≤ w) (q0 : 0 ≤ py ∧ py ≤ h) : AtZ w h x y dx dy px py k ↔ foldZ w (x + dx * k) = px ∧ foldZ h (y + dy * k) = py := by
  unfold AtZ
  rw [foldZ_hit hw p0.1 p0.2, foldZ_hit hh q0.1 q0.2]
end Cu

namespace Cu
/-! two parts at one place -/
def SameZ (s u v : Int) : Prop := 2 * s ∣ u - v ∨ 2 * s ∣ u + v
theorem fold_same {s u v : Int} (hs : 0 < s) : foldZ s u = foldZ s v ↔ SameZ s u v := by
  constructor
  · intro h
    obtain ⟨b0, b1⟩ := foldZ_bd (s := s) (u := v) hs
    have h1 := (foldZ_hit (u := u) hs b0 b1).mp h
    have h2 := (foldZ_hit (u := v) hs b0 b1).mp rfl
    generalize foldZ s v = p at h1 h2
    unfold SameZ
    rcases h1 with a | a <;> rcases h2 with b | b
    · left; have := Int.dvd_sub a b; rwa [show u - p - (v - p) = u - v by omega] at this
    · right; have := Int.dvd_add a b; rwa [show u - p + (v + p) = u + v by omega] at this
    · right; have := Int.dvd_add a b; rwa [show u + p + (v - p) = u + v by omega] at this
    · left; have := Int.dvd_sub a b; rwa [show u + p - (v + p) = u - v by omega] at this
  · exact fun h => foldZ_even hs h
theorem SameZ.shift {s u v k j : Int} (h : SameZ s u v) : SameZ s (u + 2 * s * k) (v + 2 * s * j) := by
  rcases h with h | h
  · left
    have e : u + 2 * s * k - (v + 2 * s * j) = (u - v) + 2 * s * (k - j) := by rw [Int.mul_sub]; omega
    rw [e]
    exact Int.dvd_add h ⟨_, rfl⟩
  · right
    have e : u + 2 * s * k + (v + 2 * s * j) = (u + v) + 2 * s * (k + j) := by rw [Int.mul_add]; omega
    rw [e]
    exact Int.dvd_add h ⟨_, rfl⟩
/-! the classes of f * t = r mod m, f from -2 to 2 -/
def solvedW (f r m : Int) : List (Int × Int) :=
  if f = 0 then (if r % m = 0 then [(0, 1)] else [])
  else if f = 1 then [(r % m, m)] else if f = -1 then [((-r) % m, m)]
  else if f = 2 then (if r % 2 = 1 then [] else [(r / 2 % (m / 2), m / 2)])
  else (if (-r) % 2 = 1 then [] else [((-r) / 2 % (m / 2), m / 2)])
theorem solved2_mem {r n : Int} (hn : 0 < n) (t : Int) : (∃ c ∈ (if r % 2 = 1 then ([] : List (Int × Int)) else [(r / 2 % (2 * n / 2), 2 * n / 2)]), InC c t) ↔ 2 * n ∣ 2 * t - r := by
  have e : 2 * n / 2 = n := by omega
  rw [e]
  by_cases h : r % 2 = 1
  · rw [if_pos h]
    constructor
    · rintro ⟨c, hc, _⟩; simp at hc
    · rintro ⟨k, hk⟩
      have : 2 * t - r = 2 * (n * k) := by rw [hk, Int.mul_assoc]
      omega
  · rw [if_neg h]
    have hr : r = 2 * (r / 2) := by omega
    generalize r / 2 = q at *
    subst hr
    simp only [List.mem_singleton, exists_eq_left]
    have ok : OkC (q % n, n) := ⟨Int.emod_nonneg _ (by omega), Int.emod_lt_of_pos _ hn⟩
    rw [inC_iff ok]
    show n ∣ t - q % n ↔ _
    have e2 := Int.mul_ediv_add_emod q n
    constructor
    · rintro ⟨k, hk⟩
      refine ⟨k - q / n, ?_⟩
      rw [Int.mul_sub]
      have e3 : 2 * n * k = 2 * (n * k) := Int.mul_assoc _ _ _
      have e4 : 2 * n * (q / n) = 2 * (n * (q / n)) := Int.mul_assoc _ _ _
      omega
    · rintro ⟨k, hk⟩
      refine ⟨k + q / n, ?_⟩
      rw [Int.mul_add]
      have e3 : 2 * n * k = 2 * (n * k) := Int.mul_assoc _ _ _
      omega
theorem solved1_mem {r m : Int} (hm : 0 < m) (t : Int) : (∃ c ∈ [((r % m, m) : Int × Int)], InC c t) ↔ m ∣ t - r := by
  simp only [List.mem_singleton, exists_eq_left]
  have ok : OkC (r % m, m) := ⟨Int.emod_nonneg _ (by omega), Int.emod_lt_of_pos _ hm⟩
  rw [inC_iff ok]
  show m ∣ t - r % m ↔ _
  have e2 := Int.mul_ediv_add_emod r m
  constructor
  · rintro ⟨k, hk⟩
    exact ⟨k - r / m, by rw [Int.mul_sub]; omega⟩
  · rintro ⟨k, hk⟩
    exact ⟨k + r / m, by rw [Int.mul_add]; omega⟩
theorem solvedW_mem {f r s : Int} (hs : 0 < s) (hf : f = -2 ∨ f = -1 ∨ f = 0 ∨ f = 1 ∨ f = 2) (t : Int) : (∃ c ∈ solvedW f r (2 * s), InC c t) ↔ 2 * s ∣ f * t - r := by
  have neg : ∀ z : Int, 2 * s ∣ z ↔ 2 * s ∣ -z := fun z => (Int.dvd_neg).symm
  rcases hf with rfl | rfl | rfl | rfl | rfl
  · have e : solvedW (-2) r (2 * s) = (if (-r) % 2 = 1 then [] else [((-r) / 2 % (2 * s / 2), 2 * s / 2)]) := rfl
    rw [e, solved2_mem hs, neg]
    rw [show -(2 * t - -r) = -2 * t - r by omega]
  · have e : solvedW (-1) r (2 * s) = [((-r) % (2 * s), 2 * s)] := rfl
    rw [e, solved1_mem (by omega), neg]
    rw [show -(t - -r) = -1 * t - r by omega]
  · have e : solvedW 0 r (2 * s) = if r % (2 * s) = 0 then [(0, 1)] else [] := rfl
    rw [e, Int.zero_mul, Int.zero_sub, Int.dvd_neg]
    split
    · rename_i h
      exact ⟨fun _ => Int.dvd_of_emod_eq_zero h, fun _ => ⟨(0, 1), List.mem_singleton.mpr rfl, by simp [InC, Int.emod_one]⟩⟩
    · rename_i h
      exact ⟨fun ⟨c, hc, _⟩ => by simp at hc, fun z => absurd (Int.emod_eq_zero_of_dvd z) h⟩
  · have e : solvedW 1 r (2 * s) = [(r % (2 * s), 2 * s)] := rfl
    rw [e, solved1_mem (by omega), Int.one_mul]
  · have e : solvedW 2 r (2 * s) = (if r % 2 = 1 then [] else [(r / 2 % (2 * s / 2), 2 * s / 2)]) := rfl
    rw [e, solved2_mem hs]
theorem solvedW_ok {f r s : Int} (hs : 0 < s) {c : Int × Int} (hc : c ∈ solvedW f r (2 * s)) : OkC c ∧ c.2 ≤ 2 * s := by
  unfold solvedW at hc
  have e : 2 * s / 2 = s := by omega
  rw [e] at hc
  have k1 : ∀ z : Int, c = (z % (2 * s), 2 * s) → OkC c ∧ c.2 ≤ 2 * s := fun z h => by
    subst h
    exact ⟨⟨Int.emod_nonneg _ (by omega), Int.emod_lt_of_pos _ (by omega)⟩, Int.le_refl _⟩
  have k2 : ∀ z : Int, c = (z % s, s) → OkC c ∧ c.2 ≤ 2 * s := fun z h => by
    subst h
    exact ⟨⟨Int.emod_nonneg _ (by omega), Int.emod_lt_of_pos _ hs⟩, by show s ≤ 2 * s; omega⟩
  split at hc
  · split at hc
    · rw [List.mem_singleton] at hc
      subst hc
      exact ⟨⟨Int.le_refl _, by decide⟩, by show (1 : Int) ≤ 2 * s; omega⟩
    · simp at hc
  · split at hc
    · exact k1 _ (List.mem_singleton.mp hc)
    · split at hc
      · exact k1 _ (List.mem_singleton.mp hc)
      · split at hc
        · split at hc
          · simp at hc
          · exact k2 _ (List.mem_singleton.mp hc)
        · split at hc
          · simp at hc
          · exact k2 _ (List.mem_singleton.mp hc)
theorem solvedW_len (f r m : Int) : (solvedW f r m).length ≤ 1 := by
  unfold solvedW
  split
  · split <;> simp
  · split
    · simp
    · split
      · simp
      · split
        · split <;> simp
        · split <;> simp
/-- the classes of meetings, up to order -/
def mcV (s a f o g : Int) : List (Int × Int) :=
  if (0, 1) ∈ solvedW (f - g) (o - a) (2 * s) ∨ (0, 1) ∈ solvedW (f + g) (-o - a) (2 * s) then [(0, 1)] else solvedW (f - g) (o - a) (2 * s) ++ solvedW (f + g) (-o - a) (2 * s)
theorem mcV_ok {s a f o g : Int} (hs : 0 < s) {c : Int × Int} (hc : c ∈ mcV s a f o g) : OkC c ∧ c.2 ≤ 2 * s := by
  unfold mcV at hc
  split at hc
  · rw [List.mem_singleton] at hc
    subst hc
    exact ⟨⟨Int.le_refl _, by decide⟩, by show (1 : Int) ≤ 2 * s; omega⟩
  · rcases List.mem_append.mp hc with h | h
    · exact solvedW_ok hs h
    · exact solvedW_ok hs h
theorem mcV_mem {s a f o g : Int} (hs : 0 < s) (hf : f = -1 ∨ f = 0 ∨ f = 1) (hg : g = -1 ∨ g = 0 ∨ g = 1) (t : Int) : (∃ c ∈ mcV s a f o g, InC c t) ↔ SameZ s (a + f * t) (o + g * t) := by
  have m1 := solvedW_mem (f := f - g) (r := o - a) hs (by omega) t
  have m2 := solvedW_mem (f := f + g) (r := -o - a) hs (by omega) t
  have e1 : (f - g) * t - (o - a) = a + f * t - (o + g * t) := by rw [Int.sub_mul]; omega
  have e2 : (f + g) * t - (-o - a) = a + f * t + (o + g * t) := by rw [Int.add_mul]; omega
  rw [e1] at m1
  rw [e2] at m2
  have all : ∀ t, InC (0, 1) t := fun t => by simp [InC, Int.emod_one]
  unfold SameZ mcV
  rw [← m1, ← m2]
  split
  · rename_i h
    constructor
    · rintro _
      rcases h with h | h
      · exact .inl ⟨_, h, all t⟩
      · exact .inr ⟨_, h, all t⟩
    · exact fun _ => ⟨_, List.mem_singleton.mpr rfl, all t⟩
  · constructor
    · rintro ⟨c, hc, ht⟩
      rcases List.mem_append.mp hc with h | h
      · exact .inl ⟨c, h, ht⟩
      · exact .inr ⟨c, h, ht⟩
    · rintro (⟨c, hc, ht⟩ | ⟨c, hc, ht⟩)
      · exact ⟨c, List.mem_append_left _ hc, ht⟩
      · exact ⟨c, List.mem_append_right _ hc, ht⟩
/-! papers -/
inductive RowV where
  | x | y | pr (r m s n d : Int)
  deriving DecidableEq
def showsB : RowV → Int × Int → Int × Int → Bool
  | .pr r m s n d, c, e => decide (r = c.1 ∧ m = c.2 ∧ s = e.1 ∧ n = e.2) && (decide (1 ≤ d) && decide (c.2 % d = 0) && decide (e.2 % d = 0) && !decide (c.1 % d = e.1 % d))
  | _, _, _ => false
def rightB (zx zy : List (Int × Int)) (rows : List RowV) : Bool :=
  if rows = [.x] then zx.isEmpty else if rows = [.y] then zy.isEmpty else if zx.isEmpty || zy.isEmpty then false else
    (zx.all fun l => zy.all fun r => rows.any fun row => showsB row l r) && rows.all fun row => zx.any fun l => zy.any fun r => showsB row l r
def SameM (zs ws : List (Int × Int)) : Prop := ∀ c, c ∈ zs ↔ c ∈ ws
theorem SameM.empty {zs ws : List (Int × Int)} (h : SameM zs ws) : zs.isEmpty = ws.isEmpty := by
  cases zs with
  | nil =>
    cases ws with
    | nil => rfl
    | cons w ws => exact absurd ((h w).mpr List.mem_cons_self) (by simp)
  | cons z zs =>
    cases ws with
    | nil => exact absurd ((h z).mp List.mem_cons_self) (by simp)
    | cons w ws => rfl
theorem SameM.all {zs ws : List (Int × Int)} (h : SameM zs ws) (p : Int × Int → Bool) : zs.all p = ws.all p := by
  rw [Bool.eq_iff_iff, List.all_eq_true, List.all_eq_true]
  exact ⟨fun k c hc => k c ((h c).mpr hc), fun k c hc => k c ((h c).mp hc)⟩
theorem SameM.any {zs ws : List (Int × Int)} (h : SameM zs ws) (p : Int × Int → Bool) : zs.any p = ws.any p := by
  rw [Bool.eq_iff_iff, List.any_eq_true, List.any_eq_true]
  exact ⟨fun ⟨c, hc, k⟩ => ⟨c, (h c).mp hc, k⟩, fun ⟨c, hc, k⟩ => ⟨c, (h c).mpr hc, k⟩⟩
theorem rightB_congr {zx wx zy wy : List (Int × Int)} (hx : SameM zx wx) (hy : SameM zy wy) (rows : List RowV) : rightB zx zy rows = rightB wx wy rows := by
  unfold rightB
  rw [hx.empty, hy.empty, hx.all]
  simp only [hy.all, hx.any, hy.any]
theorem shows_apart {row : RowV} {c e : Int × Int} (h : showsB row c e = true) {t : Int} (hc : InC c t) (he : InC e t) : False := by
  cases row with
  | x => cases h
  | y => cases h
  | pr r m s n d =>
    simp only [showsB, Bool.and_eq_true, decide_eq_true_eq, Bool.not_eq_true', decide_eq_false_iff_not] at h
    obtain ⟨_, ⟨⟨h1, h2⟩, h3⟩, h4⟩ := h
    apply h4
    have k : ∀ c : Int × Int, InC c t → c.2 % d = 0 → c.1 % d = t % d := fun c hc hd => by
      have e1 : t % c.2 = c.1 := hc
      obtain ⟨k, hk⟩ := Int.dvd_of_emod_eq_zero hd
      rw [← e1, hk]
      exact Int.emod_emod_of_dvd t ⟨k, rfl⟩
    rw [k c hc h2, k e he h3]
/-- a right paper: they never meet -/
theorem right_sound {zx zy : List (Int × Int)} {rows : List RowV} (h : rightB zx zy rows = true) {t : Int} (hx : ∃ c ∈ zx, InC c t) (hy : ∃ c ∈ zy, InC c t) : False := by
  obtain ⟨c, hc, ht⟩ := hx
  obtain ⟨e, he, ht'⟩ := hy
  unfold rightB at h
  split at h
  · rw [List.isEmpty_iff] at h
    rw [h] at hc
    simp at hc
  · split at h
    · rw [List.isEmpty_iff] at h
      rw [h] at he
      simp at he
    · split at h
      · cases h
      · rw [Bool.and_eq_true] at h
        have h1 := List.all_eq_true.mp (List.all_eq_true.mp h.1 c hc) e he
        obtain ⟨row, _, hr⟩ := List.any_eq_true.mp h1
        exact shows_apart hr ht ht'
def pairRow (c e : Int × Int) : RowV := .pr c.1 c.2 e.1 e.2 ((Int.gcd c.2 e.2 : Nat) : Int)
theorem pairRow_shows {c e : Int × Int} (hc : OkC c) (h : (e.1 - c.1) % ((Int.gcd c.2 e.2 : Nat) : Int) ≠ 0) : showsB (pairRow c e) c e = true := by
  have p := hc.pos
  have g0 : 0 < ((Int.gcd c.2 e.2 : Nat) : Int) := by
    have := Int.gcd_pos_of_ne_zero_left e.2 (show c.2 ≠ 0 by omega)
    omega
  simp only [showsB, pairRow, Bool.and_eq_true, decide_eq_true_eq, Bool.not_eq_true', decide_eq_false_iff_not, and_self, true_and]
  refine ⟨⟨⟨by omega, Int.emod_eq_zero_of_dvd (Int.gcd_dvd_left c.2 e.2)⟩, Int.emod_eq_zero_of_dvd (Int.gcd_dvd_right c.2 e.2)⟩, fun z => h ?_⟩
  exact (Int.emod_eq_emod_iff_emod_sub_eq_zero).mp z.symm
/-- the paper of all pairs is right -/
theorem right_pairs {zx zy : List (Int × Int)} (nx : zx ≠ []) (ny : zy ≠ []) (ok : ∀ c ∈ zx, OkC c) (h : ∀ c ∈ zx, ∀ e ∈ zy, (e.1 - c.1) % ((Int.gcd c.2 e.2 : Nat) : Int) ≠ 0) : rightB zx zy (zx.flatMap fun c => zy.map fun e => pairRow c e) = true := by
  have ex : zx.isEmpty = false := by cases zx with | nil => exact absurd rfl nx | cons _ _ => rfl
  have ey : zy.isEmpty = false := by cases zy with | nil => exact absurd rfl ny | cons _ _ => rfl
  have all : ∀ row ∈ (zx.flatMap fun c => zy.map fun e => pairRow c e), ∃ c ∈ zx, ∃ e ∈ zy, row = pairRow c e := fun row hr => by
    obtain ⟨c, hc, hr⟩ := List.mem_flatMap.mp hr
    obtain ⟨e, he, rfl⟩ := List.mem_map.mp hr
    exact ⟨c, hc, e, he, rfl⟩
  unfold rightB
  have n1 : ¬ (zx.flatMap fun c => zy.map fun e => pairRow c e) = [.x] := fun z => by
    obtain ⟨c, _, e, _, q⟩ := all .x (by rw [z]; exact List.mem_singleton.mpr rfl)
    cases q
  have n2 : ¬ (zx.flatMap fun c => zy.map fun e => pairRow c e) = [.y] := fun z => by
    obtain ⟨c, _, e, _, q⟩ := all .y (by rw [z]; exact List.mem_singleton.mpr rfl)
    cases q
  rw [if_neg n1, if_neg n2, ex, ey, if_neg (by decide), Bool.and_eq_true, List.all_eq_true, List.all_eq_true]
  constructor
  · intro c hc
    rw [List.all_eq_true]
    intro e he
    rw [List.any_eq_true]
    exact ⟨pairRow c e, List.mem_flatMap.mpr ⟨c, hc, List.mem_map.mpr ⟨e, he, rfl⟩⟩, pairRow_shows (ok c hc) (h c hc e he)⟩
  · intro row hr
    obtain ⟨c, hc, e, he, rfl⟩ := all row hr
    rw [List.any_eq_true]
    refine ⟨c, hc, ?_⟩
    rw [List.any_eq_true]
    exact ⟨e, he, pairRow_shows (ok c hc) (h c hc e he)⟩
end Cu

/-! A logic over plain data: values without the heap, without addresses. -/
namespace Cu
open PySem PySem.Spec L2

/-- data -/
inductive D where
  | non | bl (b : Bool) | int (i : Int) | str (s : Str) | lst (ds : List D) | tup (ds : List D)
  /-- a list of the written part -/
  | klst (ds : List D)
  /-- a dict that stays -/
  | dct (kvs : List (Key × V))
  /-- an instance that stays: its class, its attributes -/
  | ins (C : Addr) (ns : List Str) (ds : List D)
  /-- a built-in class -/
  | ty (n : String)

mutual
inductive Dv (K : PySem.W.Frag) (H : Hp) : V → D → Prop
  | non : Dv K H .non .non
  | bl (b : Bool) : Dv K H (.bl b) (.bl b)
  | int (i : Int) : Dv K H (.int i) (.int i)
  | str (x : Str) : Dv K H (.str x) (.str x)
  | ty (n : String) : Dv K H (.ty n) (.ty n)
  | klst {a : Addr} {xs : List V} {ds : List D} : SqL K H a xs → DvA K H xs ds → Dv K H (.ref a) (.klst ds)
  | lst {a : Addr} {xs : List V} {ds : List D} : H a = some (.lst xs) → DvA K H xs ds → Dv K H (.ref a) (.lst ds)
  | tup {a : Addr} {xs : List V} {ds : List D} : SqT K H a xs → DvA K H xs ds → Dv K H (.ref a) (.tup ds)
  | dct {a : Addr} {kvs : List (Key × V)} : H a = some (.dK kvs) → Dv K H (.ref a) (.dct kvs)
  | ins {a C dx : Addr} {fs : List (Str × V)} {ns : List Str} {ds : List D} : H a = some (.ins C dx fs) → fs.map (·.1) = ns → DvA K H (fs.map (·.2)) ds → Dv K H (.ref a) (.ins C ns ds)
inductive DvA (K : PySem.W.Frag) (H : Hp) : List V → List D → Prop
  | nil : DvA K H [] []
  | cons {v : V} {vs : List V} {d : D} {ds : List D} : Dv K H v d → DvA K H vs ds → DvA K H (v :: vs) (d :: ds)
end

section
variable {K : PySem.W.Frag} {H H' : Hp}
theorem sq_mono {a : Addr} {xs : List V} (e : Same H H') (h : SqL K H a xs) : SqL K H' a xs := e.seq h
theorem st_mono {a : Addr} {xs : List V} (e : Same H H') (h : SqT K H a xs) : SqT K H' a xs := by
  rcases h with (h | ⟨o, h⟩) | h
  · exact .inl (.inl (e _ _ h))
  · exact .inl (.inr ⟨o, e _ _ h⟩)
  · exact .inr h
mutual
theorem Dv.mono (e : Same H H') : ∀ {v : V} {d : D}, Dv K H v d → Dv K H' v d
  | _, _, .non => .non
  | _, _, .bl b => .bl b
  | _, _, .int i => .int i
  | _, _, .str x => .str x
  | _, _, .ty n => .ty n
  | _, _, .lst h r => .lst (e _ _ h) (DvA.mono e r)
  | _, _, .klst h r => .klst (sq_mono e h) (DvA.mono e r)
  | _, _, .tup h r => .tup (st_mono e h) (DvA.mono e r)
  | _, _, .dct h => .dct (e _ _ h)
  | _, _, .ins h n r => .ins (e _ _ h) n (DvA.mono e r)
theorem DvA.mono (e : Same H H') : ∀ {vs : List V} {ds : List D}, DvA K H vs ds → DvA K H' vs ds
  | _, _, .nil => .nil
  | _, _, .cons h r => .cons (Dv.mono e h) (DvA.mono e r)
end
theorem DvA.length : ∀ {vs : List V} {ds : List D}, DvA K H vs ds → vs.length = ds.length
  | _, _, .nil => rfl
  | _, _, .cons _ r => congrArg (· + 1) (DvA.length r)
theorem DvA.get : ∀ {vs : List V} {ds : List D}, DvA K H vs ds → ∀ {i : Nat} {d : D}, ds[i]? = some d → ∃ v, vs[i]? = some v ∧ Dv K H v d
  | _, _, .nil, i, d, e => by simp at e
  | _, _, .cons h r, 0, d, e => by
    have : _ = d := Option.some.inj e
    subst this
    exact ⟨_, rfl, h⟩
  | _, _, .cons h r, i + 1, d, e => by
    obtain ⟨v, h1, h2⟩ := DvA.get r (i := i) (d := d) (by simpa using e)
    exact ⟨v, by simpa using h1, h2⟩
theorem DvA.getV : ∀ {vs : List V} {ds : List D}, DvA K H vs ds → ∀ {i : Nat} {v : V}, vs[i]? = some v → ∃ d, ds[i]? = some d ∧ Dv K H v d
  | _, _, .nil, i, d, e => by simp at e
  | _, _, .cons h r, 0, d, e => by
    have : _ = d := Option.some.inj e
    subst this
    exact ⟨_, rfl, h⟩
  | _, _, .cons h r, i + 1, d, e => by
    obtain ⟨v, h1, h2⟩ := DvA.getV r (i := i) (v := d) (by simpa using e)
    exact ⟨v, by simpa using h1, h2⟩
theorem DvA.append : ∀ {vs ws : List V} {ds es : List D}, DvA K H vs ds → DvA K H ws es → DvA K H (vs ++ ws) (ds ++ es)
  | _, _, _, _, .nil, r => r
  | _, _, _, _, .cons h t, r => .cons h (DvA.append t r)
theorem DvA.take : ∀ {vs : List V} {ds : List D} (n : Nat), DvA K H vs ds → DvA K H (vs.take n) (ds.take n)
  | _, _, 0, _ => .nil
  | _, _, _ + 1, .nil => .nil
  | _, _, n + 1, .cons h t => .cons h (DvA.take n t)
theorem DvA.drop : ∀ {vs : List V} {ds : List D} (n : Nat), DvA K H vs ds → DvA K H (vs.drop n) (ds.drop n)
  | _, _, 0, r => r
  | _, _, _ + 1, .nil => .nil
  | _, _, n + 1, .cons _ t => DvA.drop n t
theorem DvA.reverse {vs : List V} {ds : List D} (h : DvA K H vs ds) : DvA K H vs.reverse ds.reverse := by
  induction vs generalizing ds with
  | nil => cases h; exact .nil
  | cons v vs ih =>
    cases h with
    | cons h1 h2 =>
      rw [List.reverse_cons, List.reverse_cons]
      exact (ih h2).append (.cons h1 .nil)
theorem DvA.ints : ∀ {vs : List V} {ns : List Int}, DvA K H vs (ns.map D.int) → vs = ns.map V.int
  | _, [], .nil => rfl
  | _, n :: ns, .cons h r => by
    cases h
    rw [DvA.ints r]
    rfl
theorem DvA.ofInts : ∀ (ns : List Int), DvA K H (ns.map V.int) (ns.map D.int)
  | [] => .nil
  | n :: ns => .cons (.int n) (DvA.ofInts ns)
theorem DvA.bls : ∀ {vs : List V} {ns : List Bool}, DvA K H vs (ns.map D.bl) → vs = ns.map V.bl
  | _, [], .nil => rfl
  | _, n :: ns, .cons h r => by
    cases h
    rw [DvA.bls r]
    rfl
theorem DvA.txts : ∀ {vs : List V} {ns : List Str}, DvA K H vs (ns.map D.str) → vs = ns.map V.str
  | _, [], .nil => rfl
  | _, n :: ns, .cons h r => by
    cases h
    rw [DvA.txts r]
    rfl
theorem DvA.ofTxts : ∀ (ns : List Str), DvA K H (ns.map V.str) (ns.map D.str)
  | [] => .nil
  | n :: ns => .cons (.str n) (DvA.ofTxts ns)
end

/-! ### the lists that one owns are hidden -/
def hid (L : List Addr) (H : Hp) : Hp := fun a => if a ∈ L then none else H a
theorem hid_same (L : List Addr) (H : Hp) : Same (hid L H) H := fun a o e => by
  unfold hid at e
  split at e
  · cases e
  · exact e
theorem hid_mono {L : List Addr} {H H' : Hp} (e : Same H H') : Same (hid L H) (hid L H') := fun a o h => by
  unfold hid at h ⊢
  split at h
  · cases h
  · rename_i n
    rw [if_neg n]
    exact e a o h
theorem hid_nil (H : Hp) : hid [] H = H := by funext a; unfold hid; rw [if_neg (by simp)]
theorem hid_upd_in {L : List Addr} {H : Hp} {l : Addr} {o : HO} (h : l ∈ L) : hid L (upd H l o) = hid L H := by
  funext a
  unfold hid
  by_cases e : a ∈ L
  · rw [if_pos e, if_pos e]
  · rw [if_neg e, if_neg e]
    exact upd_ne fun z => e (z ▸ h)
theorem hid_upd_out {L : List Addr} {H : Hp} {l : Addr} {o : HO} (h : l ∉ L) : hid L (upd H l o) = upd (hid L H) l o := by
  funext a
  unfold hid
  by_cases e : a = l
  · subst e
    rw [if_neg h, upd_same, upd_same]
  · by_cases e2 : a ∈ L
    · rw [if_pos e2, upd_ne e, if_pos e2]
    · rw [if_neg e2, upd_ne e, upd_ne e, if_neg e2]
theorem hid_cons_new {L : List Addr} {H : Hp} {l : Addr} {o : HO} (hn : H l = none) : Same (hid L H) (hid (l :: L) (upd H l o)) := fun a u e => by
  unfold hid at e ⊢
  split at e
  · cases e
  · rename_i n
    have na : a ≠ l := fun z => by rw [z, hn] at e; cases e
    rw [if_neg (by simp only [List.mem_cons, not_or]; exact ⟨na, n⟩), upd_ne na]
    exact e
theorem hid_at {L : List Addr} {H : Hp} {a : Addr} {o : HO} (h : hid L H a = some o) : a ∉ L ∧ H a = some o := by
  unfold hid at h
  split at h
  · cases h
  · rename_i n
    exact ⟨n, h⟩
theorem hid_sub {L L' : List Addr} {H : Hp} (h : ∀ a ∈ L', a ∈ L) : Same (hid L H) (hid L' H) := fun a u e => by
  obtain ⟨n, e⟩ := hid_at e
  unfold hid
  rw [if_neg fun z => n (h a z)]
  exact e
theorem same_upd {H : Hp} {p : Addr} {o : HO} (h : H p = none) : Same H (upd H p o) := fun a u e => by
  rw [upd_ne (ne_of_none e h)]
  exact e

/-- there, and no tuple -/
def NT : Option HO → Prop
  | none => False
  | some (.tup _) => False
  | _ => True
theorem NT.ne {o : Option HO} (h : NT o) : o ≠ none := fun z => by subst z; exact h
theorem NT.tup {xs : List V} (h : NT (some (.tup xs))) : False := h
theorem NT.mono {H H' : Hp} {l : Addr} (e : Same H H') (h : NT (H l)) : NT (H' l) := by
  cases q : H l with
  | none => rw [q] at h; exact h.elim
  | some o => rw [e l o q]; rw [q] at h; exact h
/-! ### the slots by data -/
inductive SD where
  | sh (d : D)
  /-- a list that no one else holds -/
  | ow (ds : List D)
  /-- a dict with tuple keys that no one else holds: its keys -/
  | od (ks : List (List Key))
  /-- an instance that no one else holds -/
  | oi (l C : Addr) (ns : List Str) (ds : List D)
  /-- a known value -/
  | sv (v : V) (d : D)
/-- is it one's own -/
def SD.own : SD → Bool
  | .sh _ => false
  | .sv _ _ => false
  | _ => true
abbrev DS := List (Option SD)

structure Rel (K : PySem.W.Frag) (H0 : Hp) (L0 : List Addr) (σ : L2.St) (H : Hp) (L : List Addr) (δ : DS) : Prop where
  len : σ.length = δ.length
  ex : Same H0 (hid L H)
  sh : ∀ (i : Nat) (d : D), δ[i]? = some (some (.sh d)) → ∃ v, σ[i]? = some (some v) ∧ Dv K (hid (L0 ++ L) H) v d
  sv : ∀ (i : Nat) (v : V) (d : D), δ[i]? = some (some (.sv v d)) → σ[i]? = some (some v) ∧ Dv K (hid (L0 ++ L) H) v d
  ow : ∀ (i : Nat) (ds : List D), δ[i]? = some (some (.ow ds)) → ∃ l vs, σ[i]? = some (some (.ref l)) ∧ l ∈ L ∧ H l = some (.lst vs) ∧ DvA K (hid (L0 ++ L) H) vs ds
  od : ∀ (i : Nat) (ks : List (List Key)), δ[i]? = some (some (.od ks)) → ∃ l kvs, σ[i]? = some (some (.ref l)) ∧ l ∈ L ∧ H l = some (.dT kvs) ∧ kvs.map (·.1) = ks
  oi : ∀ (i : Nat) (l C : Addr) (ns : List Str) (ds : List D), δ[i]? = some (some (.oi l C ns ds)) → ∃ dx fs, σ[i]? = some (some (.ref l)) ∧ l ∈ L ∧ H l = some (.ins C dx fs) ∧ fs.map (·.1) = ns ∧ DvA K (hid (L0 ++ L) H) (fs.map (·.2)) ds
  ap : ∀ (i j : Nat) (s t : SD) (l : Addr), i ≠ j → δ[i]? = some (some s) → δ[j]? = some (some t) → s.own = true → t.own = true → σ[i]? = some (some (.ref l)) → σ[j]? ≠ some (some (.ref l))
  lv : ∀ l ∈ L0 ++ L, NT (H l)
  dis : ∀ l ∈ L, l ∉ L0
section
variable {K : PySem.W.Frag} {H0 H H' : Hp} {σ : L2.St} {L0 L : List Addr} {δ : DS}
theorem Rel.mono (r : Rel K H0 L0 σ H L δ) (e : Same H H') : Rel K H0 L0 σ H' L δ where
  len := r.len
  ex := r.ex.trans (hid_mono e)
  sh := fun i d h => let ⟨v, h1, h2⟩ := r.sh i d h; ⟨v, h1, h2.mono (hid_mono e)⟩
  sv := fun i v d h => let ⟨h1, h2⟩ := r.sv i v d h; ⟨h1, h2.mono (hid_mono e)⟩
  ow := fun i ds h => let ⟨l, vs, h1, h2, h3, h4⟩ := r.ow i ds h; ⟨l, vs, h1, h2, e _ _ h3, h4.mono (hid_mono e)⟩
  od := fun i ds h => let ⟨l, vs, h1, h2, h3, h4⟩ := r.od i ds h; ⟨l, vs, h1, h2, e _ _ h3, h4⟩
  oi := fun i l C ns ds h => let ⟨dx, fs, h1, h2, h3, h4, h5⟩ := r.oi i l C ns ds h; ⟨dx, fs, h1, h2, e _ _ h3, h4, h5.mono (hid_mono e)⟩
  ap := r.ap
  dis := r.dis
  lv := fun l hl => (r.lv l hl).mono e
/-- fresh is not owned -/
theorem Rel.fresh (r : Rel K H0 L0 σ H L δ) {p : Addr} (h : H p = none) : p ∉ L0 ++ L := fun z => (r.lv p z).ne h
end
/-- the owned are there -/
def Lv (L : List Addr) (H : Hp) : Prop := ∀ l ∈ L, NT (H l)
theorem Lv.mono {L : List Addr} {H H' : Hp} (h : Lv L H) (e : Same H H') : Lv L H' := fun l hl => (h l hl).mono e
theorem Lv.fresh {L : List Addr} {H : Hp} (h : Lv L H) {p : Addr} (hp : H p = none) : p ∉ L := fun z => (h p z).ne hp

/-! ### judgements -/
variable (K : PySem.W.Frag) (H0 : Hp) (L0 : List Addr)
def XE (te : TE) (δ : DS) (R : D → Prop) : Prop := ∀ σ H L, Rel K H0 L0 σ H L δ → ∀ Q : VK, (∀ v H2 d, Same H H2 → Dv K (hid (L0 ++ L) H2) v d → R d → Q v H2) → te σ H Q
def XT (tt : TT) (δ : DS) (R : Bool → Prop) : Prop := ∀ σ H L, Rel K H0 L0 σ H L δ → ∀ Q : Bool → Hp → Prop, (∀ b H2, Same H H2 → R b → Q b H2) → tt σ H Q
def XA (ta : TA) (δ : DS) (R : List D → Prop) : Prop := ∀ σ H L, Rel K H0 L0 σ H L δ → ∀ Q : List V → Hp → Prop, (∀ vs H2 ds, Same H H2 → DvA K (hid (L0 ++ L) H2) vs ds → R ds → Q vs H2) → ta σ H Q
/-- an operation on values -/
def XR (r : R2) (x y : D) (R : D → Prop) : Prop := ∀ H L v u, Lv L H → Dv K (hid L H) v x → Dv K (hid L H) u y → ∀ Q : VK, (∀ z H2 d, Same H H2 → Dv K (hid L H2) z d → R d → Q z H2) → r v u H Q
def XU (r : V → Hp → VK → Prop) (x : D) (R : D → Prop) : Prop := ∀ H L v, Lv L H → Dv K (hid L H) v x → ∀ Q : VK, (∀ z H2 d, Same H H2 → Dv K (hid L H2) z d → R d → Q z H2) → r v H Q
def XC (r : List V → Hp → VK → Prop) (xs : List D) (R : D → Prop) : Prop := ∀ H L vs, Lv L H → DvA K (hid L H) vs xs → ∀ Q : VK, (∀ z H2 d, Same H H2 → Dv K (hid L H2) z d → R d → Q z H2) → r vs H Q
structure Post where
  nx : DS → Prop
  rt : D → Prop
  bk : DS → Prop
  ct : DS → Prop
def XS (ts : TS) (δ : DS) (P : Post) : Prop := ∀ σ H L, Rel K H0 L0 σ H L δ → ∀ Dd : Ends, (∀ σ' H' L' δ', Rel K H0 L0 σ' H' L' δ' → P.nx δ' → Dd.nx σ' H') → (∀ v H' d, Same H0 H' → Dv K (hid L0 H') v d → P.rt d → Dd.rt v H') →
  (∀ σ' H' L' δ', Rel K H0 L0 σ' H' L' δ' → P.bk δ' → Dd.bk σ' H') → (∀ σ' H' L' δ', Rel K H0 L0 σ' H' L' δ' → P.ct δ' → Dd.ct σ' H') → ts Dd σ H
end Cu

/-! The rules of the logic: expressions, tests, arguments. -/
namespace Cu
open PySem PySem.Spec L2
abbrev K' := PySem.W.Frag
section
variable {K : K'} {H0 : Hp} {L0 : List Addr} {δ : DS} {R : D → Prop} {ta tb tc te : TE} {t u : TT}

/-! ### names, constants -/
theorem xe_var {i : Nat} {d : D} (h : δ[i]? = some (some (.sh d))) (k : R d) : XE K H0 L0 (tVar i) δ R := fun σ H L r Q q => by
  obtain ⟨v, h1, h2⟩ := r.sh i d h
  exact ⟨v, h1, q v H d (Same.refl H) h2 k⟩
theorem xe_sv {i : Nat} {v : V} {d : D} (h : δ[i]? = some (some (.sv v d))) (k : R d) : XE K H0 L0 (tVar i) δ R := fun σ H L r Q q => by
  obtain ⟨h1, h2⟩ := r.sv i v d h
  exact ⟨v, h1, q v H d (Same.refl H) h2 k⟩
theorem xe_c {v : V} {d : D} (h : ∀ H, Dv K H v d) (k : R d) : XE K H0 L0 (tC v) δ R := fun σ H L r Q q => q v H d (Same.refl H) (h _) k
theorem xe_int {i : Int} (k : R (.int i)) : XE K H0 L0 (tC (.int i)) δ R := xe_c (fun _ => .int i) k
theorem xe_bl {i : Bool} (k : R (.bl i)) : XE K H0 L0 (tC (.bl i)) δ R := xe_c (fun _ => .bl i) k
theorem xe_non (k : R .non) : XE K H0 L0 (tC .non) δ R := xe_c (fun _ => .non) k
theorem xe_str {s : Str} (k : R (.str s)) : XE K H0 L0 (tC (.str s)) δ R := xe_c (fun _ => .str s) k
theorem xe_ty {n : String} (k : R (.ty n)) : XE K H0 L0 (tC (.ty n)) δ R := xe_c (fun _ => .ty n) k
theorem XE.imp {R' : D → Prop} (h : XE K H0 L0 te δ R) (f : ∀ d, R d → R' d) : XE K H0 L0 te δ R' := fun σ H L r Q q => h σ H L r Q fun v H2 d e dv hd => q v H2 d e dv (f d hd)
theorem XT.imp {R R' : Bool → Prop} (h : XT K H0 L0 t δ R) (f : ∀ d, R d → R' d) : XT K H0 L0 t δ R' := fun σ H L r Q q => h σ H L r Q fun b H2 e hd => q b H2 e (f b hd)

/-! ### operators -/
theorem xe_op {r : R2} (h : XE K H0 L0 ta δ fun x => XE K H0 L0 tb δ fun y => XR K r x y R) : XE K H0 L0 (tOp r ta tb) δ R := fun σ H L rl Q q =>
  h σ H L rl _ fun v H2 x e2 dx hx => hx σ H2 L (rl.mono e2) _ fun w H3 y e3 dy hy => by
    have r3 := (rl.mono e2).mono e3
    exact hy H3 (L0 ++ L) v w r3.lv (dx.mono (hid_mono e3)) dy Q fun z H4 d e4 dz hd => q z H4 d ((e2.trans e3).trans e4) dz hd
theorem xe_un {r : V → Hp → VK → Prop} (h : XE K H0 L0 ta δ fun x => XU K r x R) : XE K H0 L0 (tUn r ta) δ R := fun σ H L rl Q q =>
  h σ H L rl _ fun v H2 x e2 dx hx => hx H2 (L0 ++ L) v (rl.mono e2).lv dx Q fun z H4 d e4 dz hd => q z H4 d (e2.trans e4) dz hd
theorem xr_I {C : Int → Int → Prop} {g : Int → Int → Int} {i j : Int} (c : C i j) (k : R (.int (g i j))) : XR K (rI C fun i j => .int (g i j)) (.int i) (.int j) R := fun H L v u _ hv hu Q q => by
  cases hv; cases hu
  exact ⟨i, j, rfl, rfl, c, q _ H _ (Same.refl H) (.int _) k⟩
theorem xr_I0 {g : Int → Int → Int} {i j : Int} (k : R (.int (g i j))) : XR K (rI0 fun i j => .int (g i j)) (.int i) (.int j) R := fun H L v u _ hv hu Q q => by
  cases hv; cases hu
  exact ⟨i, j, rfl, rfl, q _ H _ (Same.refl H) (.int _) k⟩
theorem xr_B0 {g : Int → Int → Bool} {i j : Int} (k : R (.bl (g i j))) : XR K (rI0 fun i j => .bl (g i j)) (.int i) (.int j) R := fun H L v u _ hv hu Q q => by
  cases hv; cases hu
  exact ⟨i, j, rfl, rfl, q _ H _ (Same.refl H) (.bl _) k⟩
theorem xu_neg {i : Int} (k : R (.int (-i))) : XU K (rU fun i => .int (-i)) (.int i) R := fun H L v _ hv Q q => by
  cases hv
  exact ⟨i, rfl, q _ H _ (Same.refl H) (.int _) k⟩

/-! ### and, or, not, if -/
theorem xe_andV (h : XE K H0 L0 ta δ fun x => ∃ c, x = .bl c ∧ (c = true → XE K H0 L0 tb δ R) ∧ (c = false → R (.bl false))) : XE K H0 L0 (tAndV ta tb) δ R := fun σ H L rl Q q =>
  h σ H L rl _ fun v H2 x e2 dx ⟨c, ex, h1, h2⟩ => by
    subst ex
    cases dx
    refine ⟨c, rfl, ?_⟩
    cases c with
    | true => exact h1 rfl σ H2 L (rl.mono e2) Q fun z H4 d e4 dz hd => q z H4 d (e2.trans e4) dz hd
    | false => exact q _ H2 _ e2 (.bl false) (h2 rfl)
theorem xe_orV (h : XE K H0 L0 ta δ fun x => ∃ c, x = .bl c ∧ (c = true → R (.bl true)) ∧ (c = false → XE K H0 L0 tb δ R)) : XE K H0 L0 (tOrV ta tb) δ R := fun σ H L rl Q q =>
  h σ H L rl _ fun v H2 x e2 dx ⟨c, ex, h1, h2⟩ => by
    subst ex
    cases dx
    refine ⟨c, rfl, ?_⟩
    cases c with
    | true => exact q _ H2 _ e2 (.bl true) (h1 rfl)
    | false => exact h2 rfl σ H2 L (rl.mono e2) Q fun z H4 d e4 dz hd => q z H4 d (e2.trans e4) dz hd
theorem xe_notV (h : XE K H0 L0 ta δ fun x => ∃ c, x = .bl c ∧ R (.bl (!c))) : XE K H0 L0 (tNotV ta) δ R := fun σ H L rl Q q =>
  h σ H L rl _ fun v H2 x e2 dx ⟨c, ex, h1⟩ => by
    subst ex
    cases dx
    exact ⟨c, rfl, q _ H2 _ e2 (.bl _) h1⟩
theorem xe_if (h : XT K H0 L0 t δ fun b => (b = true → XE K H0 L0 ta δ R) ∧ (b = false → XE K H0 L0 tb δ R)) : XE K H0 L0 (tIf t ta tb) δ R := fun σ H L rl Q q =>
  h σ H L rl _ fun b H2 e2 ⟨h1, h2⟩ => by
    cases b with
    | true => exact h1 rfl σ H2 L (rl.mono e2) Q fun z H4 d e4 dz hd => q z H4 d (e2.trans e4) dz hd
    | false => exact h2 rfl σ H2 L (rl.mono e2) Q fun z H4 d e4 dz hd => q z H4 d (e2.trans e4) dz hd
theorem xt_test {R : Bool → Prop} (h : XE K H0 L0 te δ fun x => ∃ b, x = .bl b ∧ R b) : XT K H0 L0 (tTest te) δ R := fun σ H L rl Q q =>
  h σ H L rl _ fun v H2 x e2 dx ⟨c, ex, h1⟩ => by
    subst ex
    cases dx
    exact ⟨c, rfl, q _ H2 e2 h1⟩
theorem xt_B {R : Bool → Prop} (h : XE K H0 L0 te δ fun x => ∃ b, x = .bl b ∧ R b) : XT K H0 L0 (tB te) δ R := fun σ H L rl Q q =>
  h σ H L rl _ fun v H2 x e2 dx ⟨c, ex, h1⟩ => by
    subst ex
    cases dx
    exact ⟨c, rfl, q _ H2 e2 h1⟩
theorem xt_not {R : Bool → Prop} (h : XT K H0 L0 t δ fun b => R (!b)) : XT K H0 L0 (tNot t) δ R := fun σ H L rl Q q =>
  h σ H L rl _ fun b H2 e2 h1 => q _ H2 e2 h1
theorem xt_and {R : Bool → Prop} (h : XT K H0 L0 t δ fun b => (b = true → XT K H0 L0 u δ R) ∧ (b = false → R false)) : XT K H0 L0 (tAnd t u) δ R := fun σ H L rl Q q =>
  h σ H L rl _ fun b H2 e2 ⟨h1, h2⟩ => by
    cases b with
    | true => exact h1 rfl σ H2 L (rl.mono e2) Q fun z H4 e4 hd => q z H4 (e2.trans e4) hd
    | false => exact q _ H2 e2 (h2 rfl)
theorem xt_or {R : Bool → Prop} (h : XT K H0 L0 t δ fun b => (b = true → R true) ∧ (b = false → XT K H0 L0 u δ R)) : XT K H0 L0 (tOr t u) δ R := fun σ H L rl Q q =>
  h σ H L rl _ fun b H2 e2 ⟨h1, h2⟩ => by
    cases b with
    | true => exact q _ H2 e2 (h1 rfl)
    | false => exact h2 rfl σ H2 L (rl.mono e2) Q fun z H4 e4 hd => q z H4 (e2.trans e4) hd
theorem xt_yes {R : Bool → Prop} (h : R true) : XT K H0 L0 tYes δ R := fun σ H L rl Q q => q true H (Same.refl H) h
/-- the truth of a value -/
def tTruth (K : K') (te : TE) : TT := fun σ H Q => te σ H fun x H' => ∃ k, TruV K x H' k ∧ Q k H'
def truD : D → Option Bool
  | .non => some false
  | .bl b => some b
  | .int i => some (i != 0)
  | .lst ds => some (!ds.isEmpty)
  | .tup ds => some (!ds.isEmpty)
  | _ => none
theorem DvA.isEmpty {H : Hp} : ∀ {vs : List V} {ds : List D}, DvA K H vs ds → vs.isEmpty = ds.isEmpty
  | _, _, .nil => rfl
  | _, _, .cons _ _ => rfl
theorem tru_of {H : Hp} {v : V} {d : D} {b : Bool} (h : Dv K H v d) (e : truD d = some b) : TruV K v H b := by
  cases h with
  | non => cases e; first | rfl | (show (false : Bool) = false; rfl) | exact rfl
  | bl x => cases e; rfl
  | int x => cases e; rfl
  | str x => cases e
  | ty x => cases e
  | lst hs ha => cases e; rw [← ha.isEmpty]; exact .inl ⟨_, SqL.of hs, rfl⟩
  | klst _ _ => cases e
  | tup hs ha => cases e; rw [← ha.isEmpty]; exact .inr (.inl ⟨_, hs, rfl⟩)
  | dct _ => cases e
  | ins _ _ _ => cases e
theorem xt_truth {R : Bool → Prop} (h : XE K H0 L0 te δ fun x => ∃ b, truD x = some b ∧ R b) : XT K H0 L0 (tTruth K te) δ R := fun σ H L rl Q q =>
  h σ H L rl _ fun v H2 x e2 dx ⟨c, ex, h1⟩ => ⟨c, tru_of (dx.mono (hid_same _ _)) ex, q _ H2 e2 h1⟩

/-! ### arguments, displays -/
theorem xa_nil {R : List D → Prop} (h : R []) : XA K H0 L0 tNil δ R := fun σ H L rl Q q => q [] H [] (Same.refl H) .nil h
theorem xa_cons {R : List D → Prop} {tr : TA} (h : XE K H0 L0 ta δ fun x => XA K H0 L0 tr δ fun xs => R (x :: xs)) : XA K H0 L0 (tCons ta tr) δ R := fun σ H L rl Q q =>
  h σ H L rl _ fun v H2 x e2 dx hx => hx σ H2 L (rl.mono e2) _ fun vs H3 xs e3 dxs hxs => q _ H3 _ (e2.trans e3) (.cons (dx.mono (hid_mono e3)) dxs) hxs
theorem sz100 {n : Nat} (h : n ≤ 100000) : n ≤ sizeLine := Nat.le_trans h (by decide)
theorem szlt100 {n : Nat} (h : n < 100000) : n < sizeLine := Nat.lt_of_lt_of_le h (by decide)
theorem new_tup {L : List Addr} {H : Hp} {p : Addr} {vs : List V} {ds : List D} (lv : Lv L H) (hp : H p = none) (h : DvA K (hid L H) vs ds) : Dv K (hid L (upd H p (.tup vs))) (.ref p) (.tup ds) := by
  rw [hid_upd_out (lv.fresh hp)]
  refine .tup (SqT.of upd_same) (h.mono (same_upd ?_))
  unfold hid
  rw [if_neg (lv.fresh hp)]
  exact hp
theorem new_lst {L : List Addr} {H : Hp} {p : Addr} {vs : List V} {ds : List D} (lv : Lv L H) (hp : H p = none) (h : DvA K (hid L H) vs ds) : Dv K (hid L (upd H p (.lst vs))) (.ref p) (.lst ds) := by
  rw [hid_upd_out (lv.fresh hp)]
  refine .lst upd_same (h.mono (same_upd ?_))
  unfold hid
  rw [if_neg (lv.fresh hp)]
  exact hp
theorem xe_tup {ts : TA} (h : XA K H0 L0 ts δ fun ds => ds.length ≤ 100000 ∧ R (.tup ds)) : XE K H0 L0 (tTup ts) δ R := fun σ H L rl Q q =>
  h σ H L rl _ fun vs H2 ds e2 dvs ⟨hl, hr⟩ => ⟨sz100 (by rw [dvs.length]; exact hl), fun p hp => q _ _ _ (e2.trans (same_upd hp)) (new_tup (rl.mono e2).lv hp dvs) hr⟩
theorem xe_lst {ts : TA} (h : XA K H0 L0 ts δ fun ds => ds.length ≤ 100000 ∧ R (.lst ds)) : XE K H0 L0 (tLst ts) δ R := fun σ H L rl Q q =>
  h σ H L rl _ fun vs H2 ds e2 dvs ⟨hl, hr⟩ => ⟨sz100 (by rw [dvs.length]; exact hl), fun p hp => q _ _ _ (e2.trans (same_upd hp)) (new_lst (rl.mono e2).lv hp dvs) hr⟩

/-! ### subscripts -/
theorem dv_seq {H : Hp} {v : V} {ds : List D} (h : Dv K H v (.lst ds)) : ∃ a vs, v = .ref a ∧ SqL K H a vs ∧ DvA K H vs ds := by
  cases h with
  | lst h r => exact ⟨_, _, rfl, SqL.of h, r⟩
theorem dv_lst {H : Hp} {v : V} {ds : List D} (h : Dv K H v (.lst ds)) : ∃ a vs, v = .ref a ∧ H a = some (.lst vs) ∧ DvA K H vs ds := by
  cases h with
  | lst h r => exact ⟨_, _, rfl, h, r⟩
theorem dv_klst {H : Hp} {v : V} {ds : List D} (h : Dv K H v (.klst ds)) : ∃ a vs, v = .ref a ∧ SqL K H a vs ∧ DvA K H vs ds := by
  cases h with
  | klst h r => exact ⟨_, _, rfl, h, r⟩
theorem dv_tup {H : Hp} {v : V} {ds : List D} (h : Dv K H v (.tup ds)) : ∃ a vs, v = .ref a ∧ SqT K H a vs ∧ DvA K H vs ds := by
  cases h with
  | tup h r => exact ⟨_, _, rfl, h, r⟩
/-- the place of an index -/
def atD (ds : List D) (i : Int) : Option D := (ixN ds.length i).bind fun j => ds[j]?
theorem atD_nat {ds : List D} {j : Nat} {d : D} (h : ds[j]? = some d) : atD ds (j : Int) = some d := by
  have hl := (List.getElem?_eq_some_iff.mp h).1
  unfold atD ixN
  rw [if_pos (by omega), if_pos (by omega)]
  show ds[((j : Int)).toNat]? = some d
  rw [Int.toNat_natCast]
  exact h
theorem at_rel {H : Hp} {vs : List V} {ds : List D} {i : Int} {d : D} (r : DvA K H vs ds) (h : atD ds i = some d) : ∃ v, atI vs i = some v ∧ Dv K H v d := by
  unfold atD at h
  cases e : ixN ds.length i with
  | none => rw [e] at h; cases h
  | some j =>
    rw [e] at h
    obtain ⟨v, h1, h2⟩ := r.get (i := j) (d := d) h
    refine ⟨v, ?_, h2⟩
    unfold atI
    rw [r.length, e]
    exact h1
theorem xr_ixL {ds : List D} {i : Int} {d : D} (h : atD ds i = some d) (k : R d) : XR K (rIx K) (.lst ds) (.int i) R := fun H L v u lv hv hu Q q => by
  obtain ⟨a, vs, rfl, hs, ha⟩ := dv_seq hv
  cases hu
  obtain ⟨x, h1, h2⟩ := at_rel ha h
  exact .inl ⟨a, vs, i, x, rfl, rfl, sq_mono (hid_same _ _) hs, h1, q x H d (Same.refl H) h2 k⟩
theorem xr_ixK {ds : List D} {i : Int} {d : D} (h : atD ds i = some d) (k : R d) : XR K (rIx K) (.klst ds) (.int i) R := fun H L v u lv hv hu Q q => by
  obtain ⟨a, vs, rfl, hs, ha⟩ := dv_klst hv
  cases hu
  obtain ⟨x, h1, h2⟩ := at_rel ha h
  exact .inl ⟨a, vs, i, x, rfl, rfl, sq_mono (hid_same _ _) hs, h1, q x H d (Same.refl H) h2 k⟩
theorem xr_ixT {ds : List D} {i : Int} {d : D} (h : atD ds i = some d) (k : R d) : XR K (rIx K) (.tup ds) (.int i) R := fun H L v u lv hv hu Q q => by
  obtain ⟨a, vs, rfl, hs, ha⟩ := dv_tup hv
  cases hu
  obtain ⟨x, h1, h2⟩ := at_rel ha h
  exact .inr (.inl ⟨a, vs, i, x, rfl, rfl, st_mono (hid_same _ _) hs, h1, q x H d (Same.refl H) h2 k⟩)
theorem xr_ixS {z : Str} {i : Int} {c : Nat} (hz : z.length ≤ 100000) (h : atI z.cps.toList i = some c) (k : R (.str ⟨#[c]⟩)) : XR K (rIx K) (.str z) (.int i) R := fun H L v u lv hv hu Q q => by
  cases hv; cases hu
  exact .inr (.inr ⟨z, i, c, rfl, rfl, sz100 hz, h, q _ H _ (Same.refl H) (.str _) k⟩)
/-! slices -/
def cutD (ds : List D) (lo hi : Option Int) : List D := (ds.drop (HT.sIx ds.length 0 lo)).take (HT.sIx ds.length ds.length hi - HT.sIx ds.length 0 lo)
theorem cut_rel {H : Hp} {vs : List V} {ds : List D} {lo hi : Option Int} (r : DvA K H vs ds) : DvA K H (cutV vs lo hi) (cutD ds lo hi) := by
  unfold cutV cutD
  rw [r.length]
  exact (r.drop _).take _
theorem cut_all {ds : List D} {lo hi : Option Int} (h1 : HT.sIx ds.length 0 lo = 0) (h2 : HT.sIx ds.length ds.length hi = ds.length) : cutD ds lo hi = ds := by
  unfold cutD
  rw [h1, h2]
  simp
/-- an optional part of a slice -/
def XO (K : K') (H0 : Hp) (L0 : List Addr) (to : TO) (δ : DS) (R : Option Int → Prop) : Prop := ∀ σ H L, Rel K H0 L0 σ H L δ → ∀ Q : Option Int → Hp → Prop, (∀ o H2, Same H H2 → R o → Q o H2) → to σ H Q
theorem xo_none {R : Option Int → Prop} (h : R none) : XO K H0 L0 tNoPart δ R := fun σ H L rl Q q => q none H (Same.refl H) h
theorem xo_some {R : Option Int → Prop} (h : XE K H0 L0 te δ fun x => ∃ i, x = .int i ∧ R (some i)) : XO K H0 L0 (tPart te) δ R := fun σ H L rl Q q =>
  h σ H L rl _ fun v H2 x e2 dx ⟨i, ex, h1⟩ => by
    subst ex
    cases dx
    exact ⟨i, rfl, q _ H2 e2 h1⟩
/-- slices of lists and of tuples -/
def rSlAny (K : K') : V → Option Int → Option Int → Hp → VK → Prop := fun x lo hi H Q => rSlL K x lo hi H Q ∨ rSlA K x lo hi H Q
theorem sl_any {X : Cx} : SlR X (rSlAny X.K) := SlR.or sl_list sl_tupA
def XSl (K : K') (x : D) (lo hi : Option Int) (R : D → Prop) : Prop := ∀ H L v, Lv L H → Dv K (hid L H) v x → ∀ Q : VK, (∀ z H2 d, Same H H2 → Dv K (hid L H2) z d → R d → Q z H2) → rSlAny K v lo hi H Q
theorem xsl_L {ds : List D} {lo hi : Option Int} (k : R (.lst (cutD ds lo hi))) : XSl K (.lst ds) lo hi R := fun H L v lv hv Q q => by
  obtain ⟨a, vs, rfl, hs, ha⟩ := dv_seq hv
  exact .inl ⟨a, vs, rfl, sq_mono (hid_same _ _) hs, fun p hp => q _ _ _ (same_upd hp) (new_lst lv hp (cut_rel ha)) k⟩
theorem xsl_T {ds : List D} {lo hi : Option Int} (k : R (.tup (cutD ds lo hi))) : XSl K (.tup ds) lo hi R := fun H L v lv hv Q q => by
  obtain ⟨a, vs, rfl, hs, ha⟩ := dv_tup hv
  refine .inr ⟨a, vs, rfl, st_mono (hid_same _ _) hs, fun ⟨h1, h2⟩ => q _ _ _ (Same.refl H) ?_ k, fun _ p hp => q _ _ _ (same_upd hp) (new_tup lv hp (cut_rel ha)) k⟩
  rw [ha.length] at h1 h2
  rw [cut_all h1 h2]
  exact hv
theorem xe_sl {tl th : TO} (h : XE K H0 L0 te δ fun x => XO K H0 L0 tl δ fun lo => XO K H0 L0 th δ fun hi => XSl K x lo hi R) : XE K H0 L0 (tSl (rSlAny K) te tl th) δ R := fun σ H L rl Q q =>
  h σ H L rl _ fun v H2 x e2 dx hx => hx σ H2 L (rl.mono e2) _ fun lo H3 e3 hlo => hlo σ H3 L ((rl.mono e2).mono e3) _ fun hi H4 e4 hhi =>
    hhi H4 (L0 ++ L) v (((rl.mono e2).mono e3).mono e4).lv (dx.mono (hid_mono (e3.trans e4))) Q fun z H5 d e5 dz hd => q z H5 d (((e2.trans e3).trans e4).trans e5) dz hd

/-! ### attributes -/
def fldD (ns : List Str) (ds : List D) (f : Str) : Option D := match ns, ds with
  | n :: ns, d :: ds => if f = n then some d else fldD ns ds f
  | _, _ => none
theorem fld_rel {H : Hp} : ∀ {fs : List (Str × V)} {ns : List Str} {ds : List D} {f : Str} {d : D}, fs.map (·.1) = ns → DvA K H (fs.map (·.2)) ds → fldD ns ds f = some d → ∃ v, fs.lookup f = some v ∧ Dv K H v d
  | [], _, _, _, _, e, h, q => by
    subst e
    simp [fldD] at q
  | (n, v) :: fs, _, _, f, d, e, h, q => by
    subst e
    cases h with
    | cons h1 h2 =>
      rename_i dd dds
      show ∃ v', List.lookup f ((n, v) :: fs) = some v' ∧ _
      have q' : (if f = n then some dd else fldD (fs.map (·.1)) dds f) = some d := q
      by_cases hf : f = n
      · rw [if_pos hf] at q'
        cases q'
        exact ⟨v, by simp [List.lookup, hf], h1⟩
      · rw [if_neg hf] at q'
        obtain ⟨v', e1, e2⟩ := fld_rel (fs := fs) rfl h2 q'
        refine ⟨v', ?_, e2⟩
        have : (f == n) = false := by simpa using hf
        simp [List.lookup, this, e1]
theorem xe_fld {f : Str} {C : Addr} (hc : Cls K C) (hn : NoAttr K C f) (h : XE K H0 L0 te δ fun x => ∃ ns ds d, x = .ins C ns ds ∧ fldD ns ds f = some d ∧ R d) : XE K H0 L0 (tFld K te f) δ R := fun σ H L rl Q q =>
  h σ H L rl _ fun v H2 x e2 dx ⟨ns, ds, d, ex, hf, hr⟩ => by
    subst ex
    cases dx with
    | ins ho hns ha =>
      obtain ⟨w, h1, h2⟩ := fld_rel hns ha hf
      exact ⟨_, C, _, _, w, rfl, (hid_at ho).2, hc, hn, h1, q w H2 d e2 h2 hr⟩

/-! ### the calls of defs -/
/-- a def by data: W its arguments, what is wanted of its value, what of an error (its class) -/
abbrev WP := List D → (D → Prop) → (Addr → Prop) → Prop
def spD (K : K') (W : WP) : Sp := fun vs H Q E => ∃ (L : List Addr) (ds : List D) (R : D → Prop) (RX : Addr → Prop), Lv L H ∧ DvA K (hid L H) vs ds ∧ W ds R RX ∧ (∀ v H' r, Same H H' → Dv K (hid L H') v r → R r → Q v H') ∧ (∀ c H', Same H H' → RX c → E (.ref c) none H')
/-- nothing is raised -/
abbrev noX : Addr → Prop := fun _ => False
theorem xe_call {W : WP} {ts : TA} {E : XK} (RX : Addr → Prop) (hE : ∀ c H', Same H0 H' → RX c → E (.ref c) none H') (h : XA K H0 L0 ts δ fun ds => W ds R RX) : XE K H0 L0 (tCall (spD K W) [] E ts) δ R := fun σ H L rl Q q =>
  h σ H L rl _ fun vs H2 ds e2 dvs w => by
    have r2 := rl.mono e2
    refine ⟨L0 ++ L, ds, R, RX, r2.lv, by rw [List.append_nil]; exact dvs, w, fun v H' r e3 dv hr => q v H' r (e2.trans e3) dv hr, fun c H' e3 x => hE c H' ?_ x⟩
    exact (r2.ex.trans (hid_same _ _)).trans e3
theorem xe_call0 {W : WP} {ts : TA} {E : XK} (h : XA K H0 L0 ts δ fun ds => W ds R noX) : XE K H0 L0 (tCall (spD K W) [] E ts) δ R := xe_call noX (fun _ _ _ z => z.elim) h
theorem xe_meth {W : WP} {ts : TA} {E : XK} {C : Addr} {m : Str} (RX : Addr → Prop) (hE : ∀ c H', Same H0 H' → RX c → E (.ref c) none H')
    (h : XE K H0 L0 te δ fun x => ∃ ns os, x = .ins C ns os ∧ m ∉ ns ∧ XA K H0 L0 ts δ fun ds => W (x :: ds) R RX) : XE K H0 L0 (tMeth C m (spD K W) [] E te ts) δ R := fun σ H L rl Q q =>
  h σ H L rl _ fun v H2 x e2 dx ⟨ns, os, ex, hm, hx⟩ => by
    have r2 := rl.mono e2
    have dx' := dx
    rw [ex] at dx'
    cases dx' with
    | @ins a C dp fs _ _ ho hns ha =>
      refine ⟨a, dp, fs, rfl, (hid_at ho).2, ?_, ?_⟩
      · cases q : fs.lookup m with
        | none => rfl
        | some w =>
          refine absurd ?_ hm
          rw [← hns]
          exact List.mem_map.mpr ⟨(m, w), PySem.mem_of_lookup q, rfl⟩
      · refine hx σ H2 L r2 _ fun vs H3 ds e3 dvs w => ?_
        have r3 := r2.mono e3
        refine ⟨L0 ++ L, x :: ds, R, RX, r3.lv, by rw [List.append_nil]; exact .cons (dx.mono (hid_mono e3)) dvs, w, fun v H' r e4 dv hr => q v H' r ((e2.trans e3).trans e4) dv hr, fun c H' e4 x => hE c H' ?_ x⟩
        exact (r3.ex.trans (hid_same _ _)).trans e4
theorem xe_meth0 {W : WP} {ts : TA} {E : XK} {C : Addr} {m : Str} (h : XE K H0 L0 te δ fun x => ∃ ns os, x = .ins C ns os ∧ m ∉ ns ∧ XA K H0 L0 ts δ fun ds => W (x :: ds) R noX) : XE K H0 L0 (tMeth C m (spD K W) [] E te ts) δ R := xe_meth noX (fun _ _ _ z => z.elim) h
/-- an __init__ by data: the arguments without self; what is wanted of the instance -/
def spI (K : K') (C : Addr) (W : WP) : Sp := fun vs H Q E => ∃ (H1 : Hp) (x dx : Addr) (us : List V) (L : List Addr) (ds : List D) (R : D → Prop) (RX : Addr → Prop), vs = .ref x :: us ∧ H = upd (upd H1 dx (.own x)) x (.ins C dx []) ∧ H1 x = none ∧ H1 dx = none ∧ dx ≠ x ∧
  Lv L H1 ∧ DvA K (hid L H1) us ds ∧ W ds R RX ∧ (∀ H' r, Same H1 H' → Dv K (hid L H') (.ref x) r → R r → Q .non H') ∧ (∀ c H', Same H1 H' → RX c → E (.ref c) none H')
theorem xe_make {W : WP} {ts : TA} {E : XK} {C : Addr} {dvs : List V} (dd : List D) (hd : ∀ H, DvA K H dvs dd) (RX : Addr → Prop) (hE : ∀ c H', Same H0 H' → RX c → E (.ref c) none H') (h : XA K H0 L0 ts δ fun ds => W (ds ++ dd) R RX) :
    XE K H0 L0 (tMake C (spI K C W) dvs E ts) δ R := fun σ H L rl Q q =>
  h σ H L rl _ fun vs H2 ds e2 dvs' w x dx nx ndx nex => by
    have r2 := rl.mono e2
    refine ⟨H2, x, dx, _, L0 ++ L, ds ++ dd, R, RX, rfl, rfl, nx, ndx, nex, r2.lv, dvs'.append (hd _), w, fun H' r e3 dv hr => ⟨rfl, q _ H' r (e2.trans e3) dv hr⟩, fun c H' e3 x => hE c H' ?_ x⟩
    exact (r2.ex.trans (hid_same _ _)).trans e3
end
end Cu

/-! The rules of the logic: statements, loops, comprehensions, defs. -/
namespace Cu
open PySem PySem.Spec L2
theorem hid_congr {L L' : List Addr} {H : Hp} (h : ∀ a, a ∈ L ↔ a ∈ L') : hid L H = hid L' H := by
  funext a
  unfold hid
  by_cases e : a ∈ L
  · rw [if_pos e, if_pos ((h a).mp e)]
  · rw [if_neg e, if_neg fun z => e ((h a).mpr z)]
theorem hid_mid (L0 L : List Addr) (l : Addr) (H : Hp) : hid (L0 ++ l :: L) H = hid (l :: (L0 ++ L)) H := hid_congr fun a => by
  simp only [List.mem_append, List.mem_cons]
  constructor
  · rintro (h | h | h)
    · exact .inr (.inl h)
    · exact .inl h
    · exact .inr (.inr h)
  · rintro (h | h | h)
    · exact .inr (.inl h)
    · exact .inl h
    · exact .inr (.inr h)
section
variable {K : K'} {H0 : Hp} {L0 : List Addr} {σ : L2.St} {H H' : Hp} {L : List Addr} {δ : DS}

theorem get_set {α : Type} {l : List α} {i j : Nat} {x y : α} (h : (l.set i x)[j]? = some y) : (i = j ∧ y = x ∧ i < l.length) ∨ (i ≠ j ∧ l[j]? = some y) := by
  by_cases e : i = j
  · subst e
    rw [List.getElem?_set] at h
    simp only [if_true] at h
    split at h
    · rename_i hl
      exact .inl ⟨rfl, (Option.some.inj h).symm, hl⟩
    · cases h
  · rw [List.getElem?_set_ne e] at h
    exact .inr ⟨e, h⟩
/-- a slot takes a value -/
theorem Rel.set (r : Rel K H0 L0 σ H L δ) {i : Nat} {v : V} {d : D} (hv : Dv K (hid (L0 ++ L) H) v d) : Rel K H0 L0 (σ.set i (some v)) H L (δ.set i (some (.sh d))) where
  len := by rw [List.length_set, List.length_set]; exact r.len
  ex := r.ex
  sh := fun j e h => by
    rcases get_set h with ⟨rfl, q, hl⟩ | ⟨ne, q⟩
    · cases q
      exact ⟨v, by rw [List.getElem?_set_self (by rw [r.len]; exact hl)], hv⟩
    · rw [List.getElem?_set_ne ne]
      exact r.sh j e q
  sv := fun j w e h => by
    rcases get_set h with ⟨rfl, q, hl⟩ | ⟨ne, q⟩
    · cases q
    · rw [List.getElem?_set_ne ne]
      exact r.sv j w e q
  ow := fun j ds h => by
    rcases get_set h with ⟨rfl, q, hl⟩ | ⟨ne, q⟩
    · cases q
    · rw [List.getElem?_set_ne ne]
      exact r.ow j ds q
  od := fun j ds h => by
    rcases get_set h with ⟨rfl, q, hl⟩ | ⟨ne, q⟩
    · cases q
    · rw [List.getElem?_set_ne ne]
      exact r.od j ds q
  oi := fun j l C ns ds h => by
    rcases get_set h with ⟨rfl, q, hl⟩ | ⟨ne, q⟩
    · cases q
    · rw [List.getElem?_set_ne ne]
      exact r.oi j l C ns ds q
  ap := fun a b s t l nab ha hb hs ht hl => by
    rcases get_set ha with ⟨rfl, q, _⟩ | ⟨ne, q⟩
    · cases q; cases hs
    · rcases get_set hb with ⟨rfl, q', _⟩ | ⟨ne', q'⟩
      · cases q'; cases ht
      · rw [List.getElem?_set_ne ne] at hl
        rw [List.getElem?_set_ne ne']
        exact r.ap a b s t l nab q q' hs ht hl
  lv := r.lv
  dis := r.dis
/-- the owned slots' addresses -/
theorem Rel.addr (r : Rel K H0 L0 σ H L δ) {i : Nat} {s : SD} (h : δ[i]? = some (some s)) (hs : s.own = true) : ∃ l, σ[i]? = some (some (.ref l)) ∧ l ∈ L := by
  cases s with
  | sh d => cases hs
  | sv v d => cases hs
  | ow ds => obtain ⟨l, vs, h1, h2, _⟩ := r.ow i ds h; exact ⟨l, h1, h2⟩
  | od ks => obtain ⟨l, vs, h1, h2, _⟩ := r.od i ks h; exact ⟨l, h1, h2⟩
  | oi l C ns ds => obtain ⟨dx, fs, h1, h2, _⟩ := r.oi i l C ns ds h; exact ⟨l, h1, h2⟩
/-- a new object in a slot that owns it -/
theorem Rel.new (r : Rel K H0 L0 σ H L δ) {i : Nat} {l : Addr} {o : HO} {s : SD} (hn : H l = none) (hs : s.own = true)
    (h1 : ∀ ds, s = .ow ds → ∃ vs, o = .lst vs ∧ DvA K (hid (L0 ++ L) H) vs ds) (h2 : ∀ ks, s = .od ks → ∃ kvs, o = .dT kvs ∧ kvs.map (·.1) = ks) (h3 : ∀ l C ns ds, s ≠ .oi l C ns ds) :
    Rel K H0 L0 (σ.set i (some (.ref l))) (upd H l o) (l :: L) (δ.set i (some s)) := by
  have sm : Same (hid (L0 ++ L) H) (hid (L0 ++ l :: L) (upd H l o)) := by rw [hid_mid]; exact hid_cons_new hn
  have hh := same_upd (o := o) hn
  have nl : l ∉ L0 ++ L := fun z => (r.lv l z).ne hn
  refine ⟨by rw [List.length_set, List.length_set]; exact r.len, ?_, fun j e h => ?_, fun j w e h => ?_, fun j ds h => ?_, fun j ks h => ?_, fun j l' C ns ds h => ?_, fun a b s' t l' nab ha hb hs' ht hl => ?_, fun a ha => ?_, fun a ha z => ?_⟩
  · exact r.ex.trans (hid_cons_new hn)
  · rcases get_set h with ⟨rfl, q, hl⟩ | ⟨ne, q⟩
    · cases q; cases hs
    · obtain ⟨v, e1, e2⟩ := r.sh j e q
      rw [List.getElem?_set_ne ne]
      exact ⟨v, e1, e2.mono sm⟩
  · rcases get_set h with ⟨rfl, q, hl⟩ | ⟨ne, q⟩
    · cases q; cases hs
    · obtain ⟨e1, e2⟩ := r.sv j w e q
      rw [List.getElem?_set_ne ne]
      exact ⟨e1, e2.mono sm⟩
  · rcases get_set h with ⟨rfl, q, hl⟩ | ⟨ne, q⟩
    · cases q
      obtain ⟨vs, ho, hd⟩ := h1 ds rfl
      subst ho
      exact ⟨l, vs, by rw [List.getElem?_set_self (by rw [r.len]; exact hl)], List.mem_cons_self, upd_same, hd.mono sm⟩
    · obtain ⟨a, vs, e1, e2, e3, e4⟩ := r.ow j ds q
      rw [List.getElem?_set_ne ne]
      exact ⟨a, vs, e1, List.mem_cons_of_mem _ e2, hh _ _ e3, e4.mono sm⟩
  · rcases get_set h with ⟨rfl, q, hl⟩ | ⟨ne, q⟩
    · cases q
      obtain ⟨kvs, ho, hd⟩ := h2 ks rfl
      subst ho
      exact ⟨l, kvs, by rw [List.getElem?_set_self (by rw [r.len]; exact hl)], List.mem_cons_self, upd_same, hd⟩
    · obtain ⟨a, vs, e1, e2, e3, e4⟩ := r.od j ks q
      rw [List.getElem?_set_ne ne]
      exact ⟨a, vs, e1, List.mem_cons_of_mem _ e2, hh _ _ e3, e4⟩
  · rcases get_set h with ⟨rfl, q, hl⟩ | ⟨ne, q⟩
    · cases q; exact absurd rfl (h3 l' C ns ds)
    · obtain ⟨dx, fs, e1, e2, e3, e4, e5⟩ := r.oi j l' C ns ds q
      rw [List.getElem?_set_ne ne]
      exact ⟨dx, fs, e1, List.mem_cons_of_mem _ e2, hh _ _ e3, e4, e5.mono sm⟩
  · have old : ∀ {k : Nat} {u : SD} {m : Addr}, δ[k]? = some (some u) → u.own = true → σ[k]? = some (some (.ref m)) → m ≠ l := fun {k u m} hk hu hm z => by
      obtain ⟨m', e1, e2⟩ := r.addr hk hu
      rw [hm] at e1
      cases e1
      exact nl (List.mem_append_right _ (z ▸ e2))
    rcases get_set ha with ⟨rfl, q, hi⟩ | ⟨ne, q⟩
    · rw [List.getElem?_set_self (by rw [r.len]; exact hi)] at hl
      cases hl
      rcases get_set hb with ⟨z, _, _⟩ | ⟨ne', q'⟩
      · exact absurd z nab
      · rw [List.getElem?_set_ne ne']
        exact fun z => old q' ht z rfl
    · rw [List.getElem?_set_ne ne] at hl
      rcases get_set hb with ⟨rfl, q', hi⟩ | ⟨ne', q'⟩
      · rw [List.getElem?_set_self (by rw [r.len]; exact hi)]
        intro z
        cases z
        exact old q hs' hl rfl
      · rw [List.getElem?_set_ne ne']
        exact r.ap a b s' t l' nab q q' hs' ht hl
  · have ha' : a ∈ l :: (L0 ++ L) := by simpa only [List.mem_append, List.mem_cons, or_left_comm] using ha
    rcases List.mem_cons.mp ha' with e | e
    · rw [e, upd_same]
      cases s with
      | sh d => cases hs
      | sv v d => cases hs
      | ow ds => obtain ⟨vs, ho, _⟩ := h1 ds rfl; subst ho; exact trivial
      | od ks => obtain ⟨kvs, ho, _⟩ := h2 ks rfl; subst ho; exact trivial
      | oi l' C ns ds => exact absurd rfl (h3 l' C ns ds)
    · exact (r.lv a e).mono hh
  · rcases List.mem_cons.mp ha with e | e
    · exact nl (List.mem_append_left _ (e ▸ z))
    · exact r.dis a e z
/-- an owned object changes -/
theorem Rel.chg (r : Rel K H0 L0 σ H L δ) {i : Nat} {l : Addr} {o : HO} {s s0 : SD} (h0 : δ[i]? = some (some s0)) (hs0 : s0.own = true) (hl : σ[i]? = some (some (.ref l))) (hs : s.own = true)
    (h1 : ∀ ds, s = .ow ds → ∃ vs, o = .lst vs ∧ DvA K (hid (L0 ++ L) H) vs ds) (h2 : ∀ ks, s = .od ks → ∃ kvs, o = .dT kvs ∧ kvs.map (·.1) = ks)
    (h3 : ∀ l' C ns ds, s = .oi l' C ns ds → l' = l ∧ ∃ dx fs, o = .ins C dx fs ∧ fs.map (·.1) = ns ∧ DvA K (hid (L0 ++ L) H) (fs.map (·.2)) ds) : Rel K H0 L0 σ (upd H l o) L (δ.set i (some s)) := by
  obtain ⟨l', e1, hL⟩ := r.addr h0 hs0
  rw [hl] at e1
  cases e1
  have hi : i < δ.length := (List.getElem?_eq_some_iff.mp h0).1
  have eh : hid (L0 ++ L) (upd H l o) = hid (L0 ++ L) H := hid_upd_in (List.mem_append_right _ hL)
  have other : ∀ {j : Nat} {u : SD} {m : Addr}, i ≠ j → δ[j]? = some (some u) → u.own = true → σ[j]? = some (some (.ref m)) → m ≠ l := fun {j u m} ne hj hu hm z => by
    subst z
    exact r.ap i j s0 u m ne h0 hj hs0 hu hl hm
  refine ⟨by rw [List.length_set]; exact r.len, by rw [hid_upd_in hL]; exact r.ex, fun j e h => ?_, fun j w e h => ?_, fun j ds h => ?_, fun j ks h => ?_, fun j l' C ns ds h => ?_, fun a b s' t l' nab ha hb hs' ht hl' => ?_, fun a ha => ?_, r.dis⟩
  · rcases get_set h with ⟨rfl, q, _⟩ | ⟨ne, q⟩
    · cases q; cases hs
    · rw [eh]; exact r.sh j e q
  · rcases get_set h with ⟨rfl, q, _⟩ | ⟨ne, q⟩
    · cases q; cases hs
    · rw [eh]; exact r.sv j w e q
  · rcases get_set h with ⟨rfl, q, _⟩ | ⟨ne, q⟩
    · cases q
      obtain ⟨vs, ho, hd⟩ := h1 ds rfl
      subst ho
      exact ⟨l, vs, hl, hL, upd_same, by rw [eh]; exact hd⟩
    · obtain ⟨a, vs, e1, e2, e3, e4⟩ := r.ow j ds q
      exact ⟨a, vs, e1, e2, by rw [upd_ne (other ne q rfl e1)]; exact e3, by rw [eh]; exact e4⟩
  · rcases get_set h with ⟨rfl, q, _⟩ | ⟨ne, q⟩
    · cases q
      obtain ⟨kvs, ho, hd⟩ := h2 ks rfl
      subst ho
      exact ⟨l, kvs, hl, hL, upd_same, hd⟩
    · obtain ⟨a, vs, e1, e2, e3, e4⟩ := r.od j ks q
      exact ⟨a, vs, e1, e2, by rw [upd_ne (other ne q rfl e1)]; exact e3, e4⟩
  · rcases get_set h with ⟨rfl, q, _⟩ | ⟨ne, q⟩
    · cases q
      obtain ⟨el, dx, fs, ho, hd, hd2⟩ := h3 l' C ns ds rfl
      subst ho
      subst el
      exact ⟨dx, fs, hl, hL, upd_same, hd, by rw [eh]; exact hd2⟩
    · obtain ⟨dx, fs, e1, e2, e3, e4, e5⟩ := r.oi j l' C ns ds q
      exact ⟨dx, fs, e1, e2, by rw [upd_ne (other ne q rfl e1)]; exact e3, e4, by rw [eh]; exact e5⟩
  · have old : ∀ {k : Nat} {u : SD}, (δ.set i (some s))[k]? = some (some u) → u.own = true → ∃ u', δ[k]? = some (some u') ∧ u'.own = true := fun {k u} hk hu => by
      rcases get_set hk with ⟨rfl, _, _⟩ | ⟨_, q⟩
      · exact ⟨s0, h0, hs0⟩
      · exact ⟨u, q, hu⟩
    obtain ⟨u, q1, q2⟩ := old ha hs'
    obtain ⟨w, p1, p2⟩ := old hb ht
    exact r.ap a b u w l' nab q1 p1 q2 p2 hl'
  · by_cases e : a = l
    · rw [e, upd_same]
      cases s with
      | sh d => cases hs
      | sv v d => cases hs
      | ow ds => obtain ⟨vs, ho, _⟩ := h1 ds rfl; subst ho; exact trivial
      | od ks => obtain ⟨kvs, ho, _⟩ := h2 ks rfl; subst ho; exact trivial
      | oi l' C ns ds => obtain ⟨_, dx, fs, ho, _⟩ := h3 l' C ns ds rfl; subst ho; exact trivial
    · rw [upd_ne e]
      exact r.lv a ha
/-- an owned list is handed to all -/
theorem Rel.fz (r : Rel K H0 L0 σ H L δ) {i : Nat} {s : SD} {d : D} (h : δ[i]? = some (some s)) (hs : s.own = true) (hd : ∀ l L', σ[i]? = some (some (.ref l)) → l ∉ L0 ++ L' → (∀ a ∈ L0 ++ L', a ∈ L0 ++ L) → Dv K (hid (L0 ++ L') H) (.ref l) d) :
    ∃ L', (∀ a ∈ L', a ∈ L) ∧ Rel K H0 L0 σ H L' (δ.set i (some (.sh d))) := by
  obtain ⟨l, e1, hL⟩ := r.addr h hs
  have hi : i < δ.length := (List.getElem?_eq_some_iff.mp h).1
  have sub : ∀ a ∈ L.filter (· ≠ l), a ∈ L := fun a ha => (List.mem_filter.mp ha).1
  have sub2 : ∀ a ∈ L0 ++ L.filter (· ≠ l), a ∈ L0 ++ L := fun a ha => by
    rcases List.mem_append.mp ha with q | q
    · exact List.mem_append_left _ q
    · exact List.mem_append_right _ (sub a q)
  have nl : l ∉ L0 ++ L.filter (· ≠ l) := fun z => by
    rcases List.mem_append.mp z with q | q
    · exact r.dis l hL q
    · have := (List.mem_filter.mp q).2
      simp at this
  have other : ∀ {j : Nat} {u : SD} {m : Addr}, i ≠ j → δ[j]? = some (some u) → u.own = true → σ[j]? = some (some (.ref m)) → m ∈ L → m ∈ L.filter (· ≠ l) := fun {j u m} ne hj hu hm hmL => List.mem_filter.mpr ⟨hmL, by
    have : m ≠ l := fun z => by subst z; exact r.ap i j s u m ne h hj hs hu e1 hm
    simpa using this⟩
  have sm := hid_sub (H := H) sub2
  refine ⟨L.filter (· ≠ l), sub, by rw [List.length_set]; exact r.len, r.ex.trans (hid_sub sub), fun j e hj => ?_, fun j w e hj => ?_, fun j ds hj => ?_, fun j ks hj => ?_, fun j m C ns ds hj => ?_, fun a b s' t l' nab ha hb hs' ht hl' => ?_, fun a ha => r.lv a (sub2 a ha), fun a ha => r.dis a (sub a ha)⟩
  · rcases get_set hj with ⟨rfl, q, _⟩ | ⟨ne, q⟩
    · cases q
      exact ⟨.ref l, e1, hd l _ e1 nl sub2⟩
    · obtain ⟨v, q1, q2⟩ := r.sh j e q
      exact ⟨v, q1, q2.mono sm⟩
  · rcases get_set hj with ⟨rfl, q, _⟩ | ⟨ne, q⟩
    · cases q
    · obtain ⟨q1, q2⟩ := r.sv j w e q
      exact ⟨q1, q2.mono sm⟩
  · rcases get_set hj with ⟨rfl, q, _⟩ | ⟨ne, q⟩
    · cases q
    · obtain ⟨a, vs, q1, q2, q3, q4⟩ := r.ow j ds q
      exact ⟨a, vs, q1, other ne q rfl q1 q2, q3, q4.mono sm⟩
  · rcases get_set hj with ⟨rfl, q, _⟩ | ⟨ne, q⟩
    · cases q
    · obtain ⟨a, vs, q1, q2, q3, q4⟩ := r.od j ks q
      exact ⟨a, vs, q1, other ne q rfl q1 q2, q3, q4⟩
  · rcases get_set hj with ⟨rfl, q, _⟩ | ⟨ne, q⟩
    · cases q
    · obtain ⟨dx, fs, q1, q2, q3, q4, q5⟩ := r.oi j m C ns ds q
      exact ⟨dx, fs, q1, other ne q rfl q1 q2, q3, q4, q5.mono sm⟩
  · rcases get_set ha with ⟨rfl, q, _⟩ | ⟨ne, q⟩
    · cases q; cases hs'
    · rcases get_set hb with ⟨rfl, q', _⟩ | ⟨ne', q'⟩
      · cases q'; cases ht
      · exact r.ap a b s' t l' nab q q' hs' ht hl'
theorem Rel.fzL (r : Rel K H0 L0 σ H L δ) {i : Nat} {ds : List D} (h : δ[i]? = some (some (.ow ds))) : ∃ L', (∀ a ∈ L', a ∈ L) ∧ Rel K H0 L0 σ H L' (δ.set i (some (.sh (.lst ds)))) := by
  obtain ⟨l, vs, h1, h2, h3, h4⟩ := r.ow i ds h
  refine r.fz h rfl fun l' L' e nl sub => ?_
  rw [h1] at e
  cases e
  refine .lst ?_ (h4.mono (hid_sub sub))
  unfold hid
  rw [if_neg nl]
  exact h3
theorem Rel.svOf (r : Rel K H0 L0 σ H L δ) {i : Nat} {v : V} {d : D} (h : δ[i]? = some (some (.sh d))) (hv : σ[i]? = some (some v)) : Rel K H0 L0 σ H L (δ.set i (some (.sv v d))) where
  len := by rw [List.length_set]; exact r.len
  ex := r.ex
  sh := fun j e hj => by
    rcases get_set hj with ⟨rfl, q, _⟩ | ⟨ne, q⟩
    · cases q
    · exact r.sh j e q
  sv := fun j w e hj => by
    rcases get_set hj with ⟨rfl, q, _⟩ | ⟨ne, q⟩
    · cases q
      obtain ⟨v', q1, q2⟩ := r.sh i d h
      rw [hv] at q1
      cases q1
      exact ⟨hv, q2⟩
    · exact r.sv j w e q
  ow := fun j ds hj => by
    rcases get_set hj with ⟨rfl, q, _⟩ | ⟨ne, q⟩
    · cases q
    · exact r.ow j ds q
  od := fun j ds hj => by
    rcases get_set hj with ⟨rfl, q, _⟩ | ⟨ne, q⟩
    · cases q
    · exact r.od j ds q
  oi := fun j l C ns ds hj => by
    rcases get_set hj with ⟨rfl, q, _⟩ | ⟨ne, q⟩
    · cases q
    · exact r.oi j l C ns ds q
  ap := fun a b s' t l' nab ha hb hs' ht hl' => by
    rcases get_set ha with ⟨rfl, q, _⟩ | ⟨ne, q⟩
    · cases q; cases hs'
    · rcases get_set hb with ⟨rfl, q', _⟩ | ⟨ne', q'⟩
      · cases q'; cases ht
      · exact r.ap a b s' t l' nab q q' hs' ht hl'
  lv := r.lv
  dis := r.dis
theorem set_set {α : Type} (l : List α) (i : Nat) (x y : α) : (l.set i x).set i y = l.set i y := by simp
theorem Rel.fzI (r : Rel K H0 L0 σ H L δ) {i : Nat} {l C : Addr} {ns : List Str} {ds : List D} (h : δ[i]? = some (some (.oi l C ns ds))) : ∃ L', (∀ a ∈ L', a ∈ L) ∧ Rel K H0 L0 σ H L' (δ.set i (some (.sv (.ref l) (.ins C ns ds)))) := by
  obtain ⟨dx, fs, h1, h2, h3, h4, h5⟩ := r.oi i l C ns ds h
  have hi : i < δ.length := (List.getElem?_eq_some_iff.mp h).1
  obtain ⟨L', q1, q2⟩ := r.fz (d := .ins C ns ds) h rfl fun l' L' e nl sub => by
    rw [h1] at e
    cases e
    refine .ins (dx := dx) (fs := fs) ?_ h4 (h5.mono (hid_sub sub))
    unfold hid
    rw [if_neg nl]
    exact h3
  refine ⟨L', q1, ?_⟩
  have q3 := q2.svOf (i := i) (v := .ref l) (d := .ins C ns ds) (by rw [List.getElem?_set_self hi]) h1
  rw [set_set] at q3
  exact q3
/-- a smaller base -/
theorem Rel.base {G : Hp} (e : Same H0 G) (r : Rel K G L0 σ H L δ) : Rel K H0 L0 σ H L δ := ⟨r.len, e.trans r.ex, r.sh, r.sv, r.ow, r.od, r.oi, r.ap, r.lv, r.dis⟩
/-- as the base of a loop -/
theorem Rel.up (r : Rel K H0 L0 σ H L δ) : Rel K (hid L H) L0 σ H L δ := ⟨r.len, Same.refl _, r.sh, r.sv, r.ow, r.od, r.oi, r.ap, r.lv, r.dis⟩
end
end Cu

namespace Cu
open PySem PySem.Spec L2
section
variable {K : K'} {H0 : Hp} {L0 : List Addr} {δ : DS} {P : Post} {t u : TS} {te : TE} {tt : TT}
/-! ### statements -/
theorem xs_seq (h : XS K H0 L0 t δ { P with nx := fun δ' => XS K H0 L0 u δ' P }) : XS K H0 L0 (tSeq t u) δ P := fun σ H L rl Dd n r b c =>
  h σ H L rl { Dd with nx := u Dd } (fun σ' H' L' δ' rl' hx => hx σ' H' L' rl' Dd n r b c) r b c
theorem xs_next (h : P.nx δ) : XS K H0 L0 tNext δ P := fun σ H L rl Dd n r b c => n σ H L δ rl h
theorem xs_brk (h : P.bk δ) : XS K H0 L0 tBreak δ P := fun σ H L rl Dd n r b c => b σ H L δ rl h
theorem xs_cont (h : P.ct δ) : XS K H0 L0 tCont δ P := fun σ H L rl Dd n r b c => c σ H L δ rl h
theorem xs_asg {i : Nat} (h : XE K H0 L0 te δ fun d => P.nx (δ.set i (some (.sh d)))) : XS K H0 L0 (tAsg te (gName i)) δ P := fun σ H L rl Dd n r b c =>
  h σ H L rl _ fun v H2 d e dv hd => n _ _ L _ ((rl.mono e).set dv) hd
/-- x = []: a list of one's own -/
theorem xs_own {i : Nat} (h : P.nx (δ.set i (some (.ow [])))) : XS K H0 L0 (tAsg (tLst tNil) (gName i)) δ P := fun σ H L rl Dd n r b c =>
  ⟨Nat.zero_le _, fun p hp => n _ _ _ _ (rl.new (o := .lst []) (s := .ow []) hp rfl (fun ds z => by cases z; exact ⟨[], rfl, .nil⟩) (fun _ z => nomatch z) (fun _ _ _ _ z => nomatch z)) h⟩
/-- x = {}: a dict of one's own, for tuple keys -/
theorem xs_ownD {i : Nat} (h : P.nx (δ.set i (some (.od [])))) : XS K H0 L0 (tAsg tDNewT (gName i)) δ P := fun σ H L rl Dd n r b c p hp =>
  n _ _ _ _ (rl.new (o := .dT []) (s := .od []) hp rfl (fun ds z => nomatch z) (fun ks z => by cases z; exact ⟨[], rfl, rfl⟩) (fun _ _ _ _ z => nomatch z)) h
theorem xs_app {i : Nat} {ds : List D} (h0 : δ[i]? = some (some (.ow ds))) (hl : ds.length < 100000) (h : XE K H0 L0 te δ fun d => P.nx (δ.set i (some (.ow (ds ++ [d]))))) :
    XS K H0 L0 (tDrop (tBM K "list" rAppend (tVar i) (tCons te tNil))) δ P := fun σ H L rl Dd n r b c => by
  obtain ⟨l, vs, e1, e2, e3, e4⟩ := rl.ow i ds h0
  refine ⟨.ref l, e1, .inl ⟨rfl, vs, SqL.of e3⟩, ?_⟩
  refine h σ H L rl _ fun v H2 d e dv hd => ?_
  have r2 := rl.mono e
  refine ⟨l, vs, v, rfl, rfl, e _ _ e3, szlt100 (by rw [e4.length]; exact hl), ?_⟩
  refine n _ _ L _ (r2.chg h0 rfl e1 rfl (fun ds' z => ?_) (by rintro _ ⟨⟩) (by rintro _ _ _ _ ⟨⟩)) hd
  cases z
  exact ⟨_, rfl, (e4.mono (hid_mono e)).append (.cons dv .nil)⟩
theorem xs_ret (h : XE K H0 L0 te δ P.rt) : XS K H0 L0 (tRet te) δ P := fun σ H L rl Dd n r b c =>
  h σ H L rl _ fun v H2 d e dv hd => r v H2 d ((rl.mono e).ex.trans (hid_same _ _)) (dv.mono (hid_sub fun a ha => List.mem_append_left _ ha)) hd
theorem xs_retN (h : P.rt .non) : XS K H0 L0 tRetN δ P := fun σ H L rl Dd n r b c => r .non H .non (rl.ex.trans (hid_same _ _)) .non h
theorem xs_if (h : XT K H0 L0 tt δ fun b => (b = true → XS K H0 L0 t δ P) ∧ (b = false → XS K H0 L0 u δ P)) : XS K H0 L0 (tIfS tt t u) δ P := fun σ H L rl Dd n r b c =>
  h σ H L rl _ fun k H2 e ⟨h1, h2⟩ => by
    cases k with
    | true => exact h1 rfl σ H2 L (rl.mono e) Dd n r b c
    | false => exact h2 rfl σ H2 L (rl.mono e) Dd n r b c
theorem xs_drop (h : XE K H0 L0 te δ fun _ => P.nx δ) : XS K H0 L0 (tDrop te) δ P := fun σ H L rl Dd n r b c =>
  h σ H L rl _ fun v H2 d e dv hd => n σ H2 L δ (rl.mono e) hd
theorem XS.imp {P' : Post} (h : XS K H0 L0 t δ P) (h1 : ∀ d, P.nx d → P'.nx d) (h2 : ∀ d, P.rt d → P'.rt d) (h3 : ∀ d, P.bk d → P'.bk d) (h4 : ∀ d, P.ct d → P'.ct d) : XS K H0 L0 t δ P' := fun σ H L rl Dd n r b c =>
  h σ H L rl Dd (fun s H L d rl q => n s H L d rl (h1 d q)) (fun v H d e dv q => r v H d e dv (h2 d q)) (fun s H L d rl q => b s H L d rl (h3 d q)) (fun s H L d rl q => c s H L d rl (h4 d q))
/-- an if that joins: what holds behind it is said once -/
theorem xs_cut (M : DS → Prop) (h : XS K H0 L0 t δ { P with nx := M }) (h2 : ∀ δ', M δ' → XS K H0 L0 u δ' P) : XS K H0 L0 (tSeq t u) δ P :=
  xs_seq (h.imp (fun d q => h2 d q) (fun _ q => q) (fun _ q => q) (fun _ q => q))
/-! ### an owned list is handed to all -/
theorem xs_fz {i : Nat} {ds : List D} (h0 : δ[i]? = some (some (.ow ds))) (h : XS K H0 L0 t (δ.set i (some (.sh (.lst ds)))) P) : XS K H0 L0 t δ P := fun σ H L rl Dd n r b c => by
  obtain ⟨L', _, r'⟩ := rl.fzL h0
  exact h σ H L' r' Dd n r b c
theorem xs_fzI {i : Nat} {l C : Addr} {ns : List Str} {ds : List D} (h0 : δ[i]? = some (some (.oi l C ns ds))) (h : XS K H0 L0 t (δ.set i (some (.sv (.ref l) (.ins C ns ds)))) P) : XS K H0 L0 t δ P := fun σ H L rl Dd n r b c => by
  obtain ⟨L', _, r'⟩ := rl.fzI h0
  exact h σ H L' r' Dd n r b c
theorem xt_fz {i : Nat} {ds : List D} {R : Bool → Prop} (h0 : δ[i]? = some (some (.ow ds))) (h : XT K H0 L0 tt (δ.set i (some (.sh (.lst ds)))) R) : XT K H0 L0 tt δ R := fun σ H L rl Q q => by
  obtain ⟨L', _, r'⟩ := rl.fzL h0
  exact h σ H L' r' Q q
def scalD : D → Bool
  | .non | .bl _ | .int _ | .str _ | .ty _ => true
  | _ => false
theorem Dv.scal {H H' : Hp} {v : V} {d : D} (h : Dv K H v d) (s : scalD d = true) : Dv K H' v d := by
  cases h with
  | non => exact .non
  | bl b => exact .bl b
  | int i => exact .int i
  | str x => exact .str x
  | ty n => exact .ty n
  | lst _ _ => cases s
  | klst _ _ => cases s
  | tup _ _ => cases s
  | dct _ => cases s
  | ins _ _ _ => cases s
theorem xe_fz {i : Nat} {ds : List D} {R : D → Prop} (h0 : δ[i]? = some (some (.ow ds))) (h : XE K H0 L0 te (δ.set i (some (.sh (.lst ds)))) fun d => scalD d = true ∧ R d) : XE K H0 L0 te δ R := fun σ H L rl Q q => by
  obtain ⟨L', _, r'⟩ := rl.fzL h0
  exact h σ H L' r' Q fun v H2 d e dv ⟨s, hr⟩ => q v H2 d e (dv.scal s) hr
theorem xe_fzI {i : Nat} {l C : Addr} {ns : List Str} {ds : List D} {R : D → Prop} (h0 : δ[i]? = some (some (.oi l C ns ds))) (h : XE K H0 L0 te (δ.set i (some (.sv (.ref l) (.ins C ns ds)))) fun d => scalD d = true ∧ R d) : XE K H0 L0 te δ R := fun σ H L rl Q q => by
  obtain ⟨L', _, r'⟩ := rl.fzI h0
  exact h σ H L' r' Q fun v H2 d e dv ⟨s, hr⟩ => q v H2 d e (dv.scal s) hr
/-! ### self.f = e within an __init__ -/
theorem putF_new {f : Str} {v : V} : ∀ {fs : List (Str × V)}, f ∉ fs.map (·.1) → putF f v fs = fs ++ [(f, v)]
  | [], _ => rfl
  | (g, x) :: r, h => by
    have h1 : ¬ g = f := fun z => h (by simp [z])
    have h2 : f ∉ r.map (·.1) := fun z => h (List.mem_cons_of_mem _ z)
    show (if g = f then (g, v) :: r else (g, x) :: putF f v r) = _
    rw [if_neg h1, putF_new h2]
    rfl
theorem xs_fld {i : Nat} {l C : Addr} {ns : List Str} {ds : List D} {f : Str} (hc : Cls K C) (hn : NoAttr K C f) (h0 : δ[i]? = some (some (.oi l C ns ds))) (hf : f ∉ ns) (hl : ns.length < 1000) (h : XE K H0 L0 te δ fun d => P.nx (δ.set i (some (.oi l C (ns ++ [f]) (ds ++ [d]))))) :
    XS K H0 L0 (sFld K (tVar i) te f) δ P := fun σ H L rl Dd n r b c =>
  h σ H L rl _ fun v H2 d e dv hd => by
    have r2 := rl.mono e
    obtain ⟨dx, fs, e1, e2, e3, e4, e5⟩ := r2.oi i l C ns ds h0
    have hlen : fs.length = ns.length := by rw [← e4, List.length_map]
    refine ⟨.ref l, e1, l, C, dx, fs, rfl, e3, hc, hn, by rw [hlen]; exact hl, ?_⟩
    refine n _ _ L _ (r2.chg h0 rfl e1 rfl (by rintro _ ⟨⟩) (by rintro _ ⟨⟩) (fun l' C' ns' ds' z => ?_)) hd
    cases z
    refine ⟨rfl, dx, putF f v fs, rfl, ?_, ?_⟩
    · rw [putF_new (by rw [e4]; exact hf), List.map_append, e4]
      rfl
    · rw [putF_new (by rw [e4]; exact hf), List.map_append]
      exact e5.append (.cons dv .nil)
/-! ### raise -/
def tRaiseC (E : XK) (C : Addr) : TS := fun _ _ H => E (.ref C) none H
theorem xs_raise {E : XK} {C : Addr} (hE : ∀ H', Same H0 H' → E (.ref C) none H') : XS K H0 L0 (tRaiseC E C) δ P := fun σ H L rl Dd n r b c => hE H (rl.ex.trans (hid_same _ _))
/-- a statement that is not reached -/
theorem xs_no {t : TS} (h : False) : XS K H0 L0 t δ P := h.elim

/-! ### targets -/
/-- a target: d is put, the slots js may change -/
def XG (K : K') (H0 : Hp) (L0 : List Addr) (js : List Nat) (g : TG) (d : D) (δ : DS) (R : DS → Prop) : Prop := ∀ σ H L v, Rel K H0 L0 σ H L δ → Dv K (hid (L0 ++ L) H) v d → ∀ Q : L2.St → Hp → Prop,
  (∀ σ' δ', Rel K H0 L0 σ' H L δ' → (∀ k, k ∉ js → σ'[k]? = σ[k]?) → σ'.length = σ.length → R δ' → Q σ' H) → g v σ H Q
def XGs (K : K') (H0 : Hp) (L0 : List Addr) (js : List Nat) (g : TGs) (ds : List D) (δ : DS) (R : DS → Prop) : Prop := ∀ σ H L vs, Rel K H0 L0 σ H L δ → DvA K (hid (L0 ++ L) H) vs ds → ∀ Q : L2.St → Hp → Prop,
  (∀ σ' δ', Rel K H0 L0 σ' H L δ' → (∀ k, k ∉ js → σ'[k]? = σ[k]?) → σ'.length = σ.length → R δ' → Q σ' H) → g vs σ H Q
theorem xg_name {i : Nat} {d : D} {R : DS → Prop} (h : R (δ.set i (some (.sh d)))) : XG K H0 L0 [i] (gName i) d δ R := fun σ H L v rl dv Q q =>
  q _ _ (rl.set dv) (fun k hk => List.getElem?_set_ne (fun z => hk (by simp [z]))) (List.length_set ..) h
theorem xgs_nil {R : DS → Prop} (h : R δ) : XGs K H0 L0 [] gNil [] δ R := fun σ H L vs rl dv Q q => by
  cases dv
  exact ⟨rfl, q σ δ rl (fun _ _ => rfl) rfl h⟩
theorem xgs_cons {i : Nat} {js : List Nat} {g : TGs} {d : D} {ds : List D} {R : DS → Prop} (h : XGs K H0 L0 js g ds (δ.set i (some (.sh d))) R) : XGs K H0 L0 (i :: js) (gCons (gName i) g) (d :: ds) δ R := fun σ H L vs rl dv Q q => by
  cases dv with
  | cons h1 h2 =>
    refine ⟨_, _, rfl, ?_⟩
    refine h _ H L _ (rl.set h1) h2 _ fun σ' δ' r' hk hl hr => q σ' δ' r' (fun k hn => ?_) (by rw [hl, List.length_set]) hr
    have n1 : i ≠ k := fun z => hn (by simp [z])
    have n2 : k ∉ js := fun z => hn (List.mem_cons_of_mem _ z)
    rw [hk k n2, List.getElem?_set_ne n1]
theorem xg_tup {js : List Nat} {g : TGs} {ds : List D} {n : Nat} {R : DS → Prop} (hn : ds.length = n) (h : XGs K H0 L0 js g ds δ R) : XG K H0 L0 js (gTup K n g) (.tup ds) δ R := fun σ H L v rl dv Q q => by
  obtain ⟨a, vs, rfl, h1, h2⟩ := dv_tup dv
  exact ⟨a, vs, rfl, st_mono (hid_same _ _) h1, by rw [h2.length]; exact hn, h σ H L vs rl h2 Q q⟩
/-- a, b = e -/
theorem xs_asgT {js : List Nat} {g : TG} (h : XE K H0 L0 te δ fun d => XG K H0 L0 js g d δ P.nx) : XS K H0 L0 (tAsg te g) δ P := fun σ H L rl Dd n r b c =>
  h σ H L rl _ fun v H2 d e dv hd => hd σ H2 L v (rl.mono e) dv _ fun σ' δ' r' _ _ hr => n σ' H2 L δ' r' hr
/-- a, b = e1, e2 -/
theorem xs_par {i j : Nat} {ta : TA} (h : XA K H0 L0 ta δ fun ds => ∃ d e, ds = [d, e] ∧ P.nx ((δ.set i (some (.sh d))).set j (some (.sh e)))) : XS K H0 L0 (tPar i j ta) δ P := fun σ H L rl Dd n r b c =>
  h σ H L rl _ fun vs H2 ds e dv ⟨d, d', ed, hd⟩ => by
    subst ed
    cases dv with
    | cons h1 h2 =>
      cases h2 with
      | cons h2 h3 =>
        cases h3
        exact ⟨_, _, rfl, n _ _ L _ (((rl.mono e).set h1).set h2) hd⟩

/-! ### what is walked -/
/-- J gives ds one after the other while G stands -/
structure WalkD (K : K') (G : Hp) (J : It) (ds : List D) : Prop where
  go : ∀ i H', i < ds.length → Same G H' → J.go i H'
  stop : ∀ H', Same G H' → J.stop ds.length H'
  yld : ∀ i d H' x H'' L', ds[i]? = some d → Same G (hid L' H') → Lv L' H' → J.yld i H' x H'' → Same H' H'' ∧ Dv K (hid L' H'') x d
def XI (K : K') (H0 : Hp) (L0 : List Addr) (wi : TI) (δ : DS) (R : List D → Prop) : Prop := ∀ σ H L, Rel K H0 L0 σ H L δ → ∀ Q : It → Hp → Prop, (∀ J H2 ds, Same H H2 → WalkD K (hid (L0 ++ L) H2) J ds → R ds → Q J H2) → wi σ H Q
theorem walkD_list {G : Hp} {a : Addr} {vs : List V} {ds : List D} (h : SqL K G a vs) (r : DvA K G vs ds) : WalkD K G (Itl K a) ds where
  go := fun i H' hi e => by
    have : i < vs.length := by rw [r.length]; exact hi
    exact ⟨vs, vs[i], sq_mono e h, by simp [this]⟩
  stop := fun H' e => ⟨vs, sq_mono e h, by rw [r.length]; exact Nat.le_refl _⟩
  yld := fun i d H' x H'' L' hd e lv y => by
    obtain ⟨rfl, y⟩ := y
    obtain ⟨v, h1, h2⟩ := r.get hd
    have := y vs (sq_mono (e.trans (hid_same _ _)) h)
    rw [h1] at this
    cases this
    exact ⟨Same.refl _, h2.mono e⟩
theorem walkD_tup {G : Hp} {a : Addr} {vs : List V} {ds : List D} (h : SqT K G a vs) (r : DvA K G vs ds) : WalkD K G (Itt K a) ds where
  go := fun i H' hi e => by
    have : i < vs.length := by rw [r.length]; exact hi
    exact ⟨vs, vs[i], st_mono e h, by simp [this]⟩
  stop := fun H' e => ⟨vs, st_mono e h, by rw [r.length]; exact Nat.le_refl _⟩
  yld := fun i d H' x H'' L' hd e lv y => by
    obtain ⟨rfl, y⟩ := y
    obtain ⟨v, h1, h2⟩ := r.get hd
    have := y vs (st_mono (e.trans (hid_same _ _)) h)
    rw [h1] at this
    cases this
    exact ⟨Same.refl _, h2.mono e⟩
theorem new_pair {G : Hp} {L' : List Addr} {H' : Hp} {T : Addr} {x y : V} {d e : D} (eg : Same G (hid L' H')) (lv : Lv L' H') (hT : H' T = none) (h1 : Dv K G x d) (h2 : Dv K G y e) : Same H' (upd H' T (.tup [x, y])) ∧ Dv K (hid L' (upd H' T (.tup [x, y]))) (.ref T) (.tup [d, e]) :=
  ⟨same_upd hT, new_tup lv hT (.cons (h1.mono eg) (.cons (h2.mono eg) .nil))⟩
/-- the ints lo, lo + 1, .. -/
def rngD (lo : Int) (n : Nat) : List D := (List.range n).map fun i => D.int (lo + (i : Nat))
theorem rngD_len (lo : Int) (n : Nat) : (rngD lo n).length = n := by unfold rngD; rw [List.length_map, List.length_range]
theorem rngD_get {lo : Int} {n i : Nat} {d : D} (h : (rngD lo n)[i]? = some d) : i < n ∧ d = .int (lo + (i : Nat)) := by
  unfold rngD at h
  rw [List.getElem?_map] at h
  by_cases hi : i < n
  · rw [List.getElem?_range hi] at h
    exact ⟨hi, (Option.some.inj h).symm⟩
  · rw [List.getElem?_eq_none (by rw [List.length_range]; omega)] at h
    cases h
theorem walkD_range {G : Hp} {lo : Int} {n : Nat} : WalkD K G (Itr lo n) (rngD lo n) where
  go := fun i H' hi e => by rw [rngD_len] at hi; exact hi
  stop := fun H' e => by rw [rngD_len]; exact Nat.le_refl _
  yld := fun i d H' x H'' L' hd e lv y => by
    obtain ⟨rfl, y⟩ := y
    obtain ⟨_, rfl⟩ := rngD_get hd
    rw [y]
    exact ⟨Same.refl _, .int _⟩
theorem xi_list {R : List D → Prop} (h : XE K H0 L0 te δ fun x => ∃ ds, x = .lst ds ∧ R ds) : XI K H0 L0 (iList K te) δ R := fun σ H L rl Q q =>
  h σ H L rl _ fun v H2 x e dv ⟨ds, ex, hr⟩ => by
    subst ex
    obtain ⟨a, vs, rfl, h1, h2⟩ := dv_seq dv
    exact ⟨a, rfl, ⟨vs, sq_mono (hid_same _ _) h1⟩, q _ H2 ds e (walkD_list h1 h2) hr⟩
theorem xi_tup {R : List D → Prop} (h : XE K H0 L0 te δ fun x => ∃ ds, x = .tup ds ∧ R ds) : XI K H0 L0 (iTup K te) δ R := fun σ H L rl Q q =>
  h σ H L rl _ fun v H2 x e dv ⟨ds, ex, hr⟩ => by
    subst ex
    obtain ⟨a, vs, rfl, h1, h2⟩ := dv_tup dv
    exact ⟨a, rfl, ⟨vs, st_mono (hid_same _ _) h1⟩, q _ H2 ds e (walkD_tup h1 h2) hr⟩
theorem xi_rng1 {R : List D → Prop} {ta : TA} (h : XA K H0 L0 ta δ fun ds => ∃ j : Int, ds = [.int j] ∧ -(2 ^ 62) ≤ j ∧ j < 2 ^ 62 ∧ R (rngD 0 j.toNat)) : XI K H0 L0 (iRng1 ta) δ R := fun σ H L rl Q q =>
  h σ H L rl _ fun vs H2 ds e dv ⟨j, ed, h1, h2, hr⟩ => by
    subst ed
    cases dv with
    | cons d1 d2 => cases d1; cases d2; exact ⟨j, rfl, h1, h2, q _ H2 _ e walkD_range hr⟩
/-! ### for -/
theorem xs_for {wi : TI} {g : TG} {tb : TS} {js : List Nat} (h : XI K H0 L0 wi δ fun ds => ∃ Iv : Nat → DS → Prop, Iv 0 δ ∧
    (∀ G, Same H0 G → ∀ i d δ', ds[i]? = some d → Iv i δ' → XG K G L0 js g d δ' fun δ'' => XS K G L0 tb δ'' ⟨Iv (i + 1), P.rt, P.nx, Iv (i + 1)⟩) ∧ (∀ δ', Iv ds.length δ' → P.nx δ')) : XS K H0 L0 (tFor wi g tb) δ P := fun σ H L rl Dd n r b c =>
  h σ H L rl _ fun J H2 ds e wk ⟨Iv, h0, hs, hd⟩ => by
    have r2 := rl.mono e
    have eG : Same H0 (hid L H2) := r2.ex
    have base : ∀ {σ' H' L' δ'}, Rel K (hid L H2) L0 σ' H' L' δ' → Same (hid (L0 ++ L) H2) (hid (L0 ++ L') H') := fun {σ' H' L' δ'} rl' a o q => by
      obtain ⟨n1, q1⟩ := hid_at q
      have n2 : a ∉ L := fun z => n1 (List.mem_append_right _ z)
      have n3 : a ∉ L0 := fun z => n1 (List.mem_append_left _ z)
      have q2 : hid L H2 a = some o := by unfold hid; rw [if_neg n2]; exact q1
      obtain ⟨n4, q3⟩ := hid_at (rl'.ex a o q2)
      unfold hid
      rw [if_neg fun z => (List.mem_append.mp z).elim n3 n4]
      exact q3
    refine ⟨fun i m σ' H' => m = ds.length - i ∧ i ≤ ds.length ∧ ∃ L' δ', Rel K (hid L H2) L0 σ' H' L' δ' ∧ Iv i δ', ⟨ds.length, by simp, Nat.zero_le _, L, δ, r2.up, h0⟩, ?_⟩
    rintro i m σ' H' ⟨rfl, hi, L', δ', rl', hv⟩
    by_cases hlt : i < ds.length
    · refine .inr ⟨wk.go i H' hlt ((base rl').trans (hid_same _ _)), fun σ'' H'' => ∃ L'' δ'', Rel K (hid L H2) L0 σ'' H'' L'' δ'' ∧ Iv (i + 1) δ'', fun σ'' H'' ⟨L'', δ'', r3, h3⟩ => ⟨ds.length - (i + 1), by omega, rfl, hlt, L'', δ'', r3, h3⟩, fun x H'' y => ?_⟩
      obtain ⟨e2, dx⟩ := wk.yld i ds[i] H' x H'' (L0 ++ L') (by simp [hlt]) (base rl') rl'.lv y
      refine hs (hid L H2) eG i ds[i] δ' (by simp [hlt]) hv σ' H'' L' x (rl'.mono e2) dx _ fun σ3 δ3 r3 _ _ h3 => ?_
      exact h3 σ3 H'' L' r3 _ (fun s4 H4 L4 d4 r4 h4 => ⟨L4, d4, r4, h4⟩) (fun v H4 d e4 dv h4 => r v H4 d (eG.trans e4) dv h4) (fun s4 H4 L4 d4 r4 h4 => n s4 H4 L4 d4 (r4.base eG) h4) (fun s4 H4 L4 d4 r4 h4 => ⟨L4, d4, r4, h4⟩)
    · have ei : i = ds.length := by omega
      subst ei
      exact .inl ⟨wk.stop H' ((base rl').trans (hid_same _ _)), n σ' H' L' δ' (rl'.base eG) (hd δ' hv)⟩
/-! ### while -/
theorem xs_while {tb : TS} (Iv : DS → Prop) (μ : DS → Nat) (h0 : Iv δ) (hs : ∀ G, Same H0 G → ∀ δ', Iv δ' → XT K G L0 tt δ' fun b => (b = true → XS K G L0 tb δ' ⟨fun δ'' => Iv δ'' ∧ μ δ'' < μ δ', P.rt, P.nx, fun δ'' => Iv δ'' ∧ μ δ'' < μ δ'⟩) ∧ (b = false → P.nx δ')) : XS K H0 L0 (tWhile tt tb) δ P := fun σ H L rl Dd n r b c => by
  refine ⟨fun m σ' H' => ∃ L' δ', m = μ δ' ∧ Rel K H0 L0 σ' H' L' δ' ∧ Iv δ', ⟨_, L, δ, rfl, rl, h0⟩, ?_⟩
  rintro m σ' H' ⟨L', δ', rfl, rl', hv⟩
  refine hs H0 (Same.refl _) δ' hv σ' H' L' rl' _ fun k H2 e ⟨h1, h2⟩ => ?_
  cases k with
  | true =>
    refine ⟨fun s4 H4 => ∃ L4 d4, Rel K H0 L0 s4 H4 L4 d4 ∧ Iv d4 ∧ μ d4 < μ δ', fun s4 H4 ⟨L4, d4, r4, i4, l4⟩ => ⟨μ d4, l4, L4, d4, rfl, r4, i4⟩, ?_⟩
    exact h1 rfl σ' H2 L' (rl'.mono e) _ (fun s4 H4 L4 d4 r4 h4 => ⟨L4, d4, r4, h4⟩) r n (fun s4 H4 L4 d4 r4 h4 => ⟨L4, d4, r4, h4⟩)
  | false => exact n σ' H2 L' δ' (rl'.mono e) (h2 rfl)
/-! ### comprehensions -/
def wipeD (δ : DS) : List Nat → DS
  | [] => δ
  | v :: vs => (wipeD δ vs).set v none
theorem wipe_get {σ : L2.St} {k : Nat} : ∀ {vs : List Nat}, k ∉ vs → (wipe σ vs)[k]? = σ[k]?
  | [], _ => rfl
  | v :: vs, h => by
    unfold wipe
    rw [List.getElem?_set_ne (fun z => h (by simp [z]))]
    exact wipe_get fun z => h (List.mem_cons_of_mem _ z)
theorem wipe_in {σ : L2.St} {k : Nat} : ∀ {vs : List Nat}, k ∈ vs → (wipe σ vs)[k]? = if k < σ.length then some none else none
  | v :: vs, h => by
    unfold wipe
    by_cases e : v = k
    · subst e
      rw [List.getElem?_set]
      simp only [if_true, wipe_length]
    · rw [List.getElem?_set_ne e]
      exact wipe_in (by rcases List.mem_cons.mp h with q | q; exact absurd q.symm e; exact q)
theorem wipe_eq {σ σ' : L2.St} {vs : List Nat} (h : ∀ k, k ∉ vs → σ'[k]? = (wipe σ vs)[k]?) (hl : σ'.length = (wipe σ vs).length) : wipe σ' vs = wipe σ vs := by
  rw [wipe_length] at hl
  apply List.ext_getElem?
  intro k
  by_cases hk : k ∈ vs
  · rw [wipe_in hk, wipe_in hk, hl]
  · rw [wipe_get hk, h k hk]
theorem wipeD_len (δ : DS) : ∀ vs : List Nat, (wipeD δ vs).length = δ.length
  | [] => rfl
  | v :: vs => by unfold wipeD; rw [List.length_set, wipeD_len δ vs]
theorem wipeD_get {δ : DS} {i : Nat} {x : SD} : ∀ {vs : List Nat}, (wipeD δ vs)[i]? = some (some x) → δ[i]? = some (some x) ∧ i ∉ vs
  | [], h => ⟨h, by simp⟩
  | v :: vs, h => by
    unfold wipeD at h
    by_cases hi : v = i
    · subst hi
      by_cases hv : v < (wipeD δ vs).length
      · rw [List.getElem?_set_self hv] at h; cases h
      · rw [List.getElem?_eq_none (by simpa using hv)] at h; cases h
    · rw [List.getElem?_set_ne hi] at h
      obtain ⟨h1, h2⟩ := wipeD_get h
      exact ⟨h1, by simp only [List.mem_cons, not_or]; exact ⟨fun e => hi e.symm, h2⟩⟩
theorem Rel.wipe {σ : L2.St} {H : Hp} {L : List Addr} (r : Rel K H0 L0 σ H L δ) (vs : List Nat) : Rel K H0 L0 (wipe σ vs) H L (wipeD δ vs) where
  len := by rw [wipe_length, wipeD_len]; exact r.len
  ex := r.ex
  sh := fun i d h => by obtain ⟨q, ni⟩ := wipeD_get h; rw [wipe_get ni]; exact r.sh i d q
  sv := fun i v d h => by obtain ⟨q, ni⟩ := wipeD_get h; rw [wipe_get ni]; exact r.sv i v d q
  ow := fun i d h => by obtain ⟨q, ni⟩ := wipeD_get h; rw [wipe_get ni]; exact r.ow i d q
  od := fun i d h => by obtain ⟨q, ni⟩ := wipeD_get h; rw [wipe_get ni]; exact r.od i d q
  oi := fun i l C ns d h => by obtain ⟨q, ni⟩ := wipeD_get h; rw [wipe_get ni]; exact r.oi i l C ns d q
  ap := fun a b s t l nab ha hb hs ht hl => by
    obtain ⟨q1, n1⟩ := wipeD_get ha
    obtain ⟨q2, n2⟩ := wipeD_get hb
    rw [wipe_get n1] at hl
    rw [wipe_get n2]
    exact r.ap a b s t l nab q1 q2 hs ht hl
  lv := r.lv
  dis := r.dis
/-- the new list of a comprehension, hidden meanwhile: no slot holds it -/
theorem Rel.hide {σ : L2.St} {H : Hp} {L : List Addr} (r : Rel K H0 L0 σ H L δ) {l : Addr} {o : HO} (hn : H l = none) (ho : NT (some o)) : Rel K H0 L0 σ (upd H l o) (l :: L) δ where
  len := r.len
  ex := r.ex.trans (hid_cons_new hn)
  sh := fun i d h => let ⟨v, h1, h2⟩ := r.sh i d h; ⟨v, h1, h2.mono (by rw [hid_mid]; exact hid_cons_new hn)⟩
  sv := fun i v d h => let ⟨h1, h2⟩ := r.sv i v d h; ⟨h1, h2.mono (by rw [hid_mid]; exact hid_cons_new hn)⟩
  ow := fun i d h => let ⟨a, v, h1, h2, h3, h4⟩ := r.ow i d h; ⟨a, v, h1, List.mem_cons_of_mem _ h2, same_upd hn _ _ h3, h4.mono (by rw [hid_mid]; exact hid_cons_new hn)⟩
  od := fun i d h => let ⟨a, v, h1, h2, h3, h4⟩ := r.od i d h; ⟨a, v, h1, List.mem_cons_of_mem _ h2, same_upd hn _ _ h3, h4⟩
  oi := fun i l' C ns d h => let ⟨dx, v, h1, h2, h3, h4, h5⟩ := r.oi i l' C ns d h; ⟨dx, v, h1, List.mem_cons_of_mem _ h2, same_upd hn _ _ h3, h4, h5.mono (by rw [hid_mid]; exact hid_cons_new hn)⟩
  ap := r.ap
  lv := fun a ha => by
    have ha' : a ∈ l :: (L0 ++ L) := by simpa only [List.mem_append, List.mem_cons, or_left_comm] using ha
    rcases List.mem_cons.mp ha' with e | e
    · rw [e, upd_same]; exact ho
    · exact (r.lv a e).mono (same_upd hn)
  dis := fun a ha z => by
    rcases List.mem_cons.mp ha with e | e
    · subst e; exact (r.lv a (List.mem_append_left _ z)).ne hn
    · exact r.dis a e z
theorem xe_lc {wi : TI} {g : TG} {tt : TT} {te : TE} {vs js : List Nat} {R : D → Prop} (hj : ∀ j ∈ js, j ∈ vs) (h : XI K H0 L0 wi δ fun ds => ds.length ≤ 50000 ∧ ∃ Iv : Nat → List D → Prop, Iv 0 [] ∧
    (∀ G, Same H0 G → ∀ i d acc, ds[i]? = some d → Iv i acc → XG K G L0 js g d (wipeD δ vs) fun δ' => XT K G L0 tt δ' fun b => (b = true → XE K G L0 te δ' fun y => Iv (i + 1) (acc ++ [y])) ∧ (b = false → Iv (i + 1) acc)) ∧
    (∀ acc, acc.length ≤ ds.length → Iv ds.length acc → R (.lst acc))) : XE K H0 L0 (tLc wi g tt te vs) δ R := fun σ H L rl Q q =>
  h σ H L rl _ fun J H2 ds e wk ⟨hl, Iv, h0, hs, hd⟩ Dl hD => by
    have r2 := rl.mono e
    -- the state at turn i: the new list at Dl holds acc
    have lst0 : hid (L0 ++ L) H2 Dl = none := by
      unfold hid
      split
      · rfl
      · exact hD
    refine ⟨fun i m H' => m = ds.length - i ∧ i ≤ ds.length ∧ ∃ xs acc, acc.length ≤ i ∧ Iv i acc ∧ Rel K H0 L0 σ H' (Dl :: L) δ ∧ Same H2 (hid [Dl] H') ∧ H' Dl = some (.lst xs) ∧ DvA K (hid (L0 ++ Dl :: L) H') xs acc, ⟨ds.length, by simp, Nat.zero_le _, [], [], Nat.le_refl _, h0, r2.hide hD trivial, ?_, upd_same, .nil⟩, ?_⟩
    · intro a o z
      unfold hid
      have na : a ≠ Dl := ne_of_none z hD
      rw [if_neg (by simpa using na), upd_ne na]
      exact z
    rintro i m H' ⟨rfl, hi, xs, acc, ha, hv, rl', s2, hDl, dacc⟩
    have gs : Same (hid (L0 ++ L) H2) (hid (L0 ++ Dl :: L) H') := fun a o z => by
      obtain ⟨n1, z1⟩ := hid_at z
      obtain ⟨n2, z2⟩ := hid_at (s2 a o z1)
      unfold hid
      rw [if_neg ?_]
      · exact z2
      · intro w
        rcases List.mem_append.mp w with w | w
        · exact n1 (List.mem_append_left _ w)
        · rcases List.mem_cons.mp w with w | w
          · exact n2 (by simp [w])
          · exact n1 (List.mem_append_right _ w)
    by_cases hlt : i < ds.length
    · refine .inr ⟨wk.go i H' hlt (gs.trans (hid_same _ _)), _, fun H'' n => ⟨ds.length - (i + 1), by omega, rfl, hlt, n⟩, fun x H'' y => ?_⟩
      obtain ⟨e2, dx⟩ := wk.yld i ds[i] H' x H'' (L0 ++ Dl :: L) (by simp [hlt]) gs rl'.lv y
      have r3 := rl'.mono e2
      refine hs H0 (Same.refl _) i ds[i] acc (by simp [hlt]) hv (L2.wipe σ vs) H'' (Dl :: L) x (r3.wipe vs) dx _ fun σ3 δ3 r4 hk hlen hx => ⟨wipe_eq (fun k hk' => hk k fun z => hk' (hj k z)) hlen, ?_⟩
      have s3 : Same H2 (hid [Dl] H'') := fun a o z => by
        obtain ⟨n2, z2⟩ := hid_at (s2 a o z)
        unfold hid
        rw [if_neg n2]
        exact e2 a o z2
      refine hx σ3 H'' (Dl :: L) r4 _ fun b H4 e4 ⟨h1, h2⟩ => ?_
      have s4 : Same H2 (hid [Dl] H4) := fun a o z => by
        obtain ⟨n2, z2⟩ := hid_at (s3 a o z)
        unfold hid
        rw [if_neg n2]
        exact e4 a o z2
      cases b with
      | false => exact ⟨xs, acc, by omega, h2 rfl, r3.mono e4, s4, (e2.trans e4) _ _ hDl, dacc.mono (hid_mono (e2.trans e4))⟩
      | true =>
        refine h1 rfl σ3 H4 (Dl :: L) (r4.mono e4) _ fun w H5 d e5 dw hw => ?_
        have e25 := (e2.trans e4).trans e5
        have s5 : Same H2 (hid [Dl] H5) := fun a o z => by
          obtain ⟨n2, z2⟩ := hid_at (s4 a o z)
          unfold hid
          rw [if_neg n2]
          exact e5 a o z2
        have lx : xs.length = acc.length := dacc.length
        have inL : Dl ∈ Dl :: L := List.mem_cons_self
        have inM : Dl ∈ L0 ++ Dl :: L := List.mem_append_right _ inL
        refine ⟨xs, e25 _ _ hDl, szlt100 (by omega), xs ++ [w], acc ++ [d], by rw [List.length_append]; simp only [List.length_cons, List.length_nil]; omega, hw, ?_, ?_, upd_same, ?_⟩
        · -- the new list changes, no slot holds it
          have r5 := (r3.mono e4).mono e5
          have nslot : ∀ {j : Nat} {u : SD} {m : Addr}, δ[j]? = some (some u) → u.own = true → σ[j]? = some (some (.ref m)) → m ≠ Dl := fun {j u m} hj hu hm z => by
            obtain ⟨m', e1, e2⟩ := r2.addr hj hu
            rw [hm] at e1
            cases e1
            exact (r2.lv m (List.mem_append_right _ e2)).ne (z ▸ hD)
          have eh : hid (L0 ++ Dl :: L) (upd H5 Dl (.lst (xs ++ [w]))) = hid (L0 ++ Dl :: L) H5 := hid_upd_in inM
          refine ⟨r5.len, by rw [hid_upd_in inL]; exact r5.ex, fun j d hj => by rw [eh]; exact r5.sh j d hj, fun j v d hj => by rw [eh]; exact r5.sv j v d hj, fun j d hj => ?_, fun j d hj => ?_, fun j l' C ns d hj => ?_, r5.ap, fun a ha => ?_, r5.dis⟩
          · obtain ⟨a, v, q1, q2, q3, q4⟩ := r5.ow j d hj
            exact ⟨a, v, q1, q2, by rw [upd_ne (nslot hj rfl q1)]; exact q3, by rw [eh]; exact q4⟩
          · obtain ⟨a, v, q1, q2, q3, q4⟩ := r5.od j d hj
            exact ⟨a, v, q1, q2, by rw [upd_ne (nslot hj rfl q1)]; exact q3, q4⟩
          · obtain ⟨dx, v, q1, q2, q3, q4, q5⟩ := r5.oi j l' C ns d hj
            exact ⟨dx, v, q1, q2, by rw [upd_ne (nslot hj rfl q1)]; exact q3, q4, by rw [eh]; exact q5⟩
          · by_cases ea : a = Dl
            · rw [ea, upd_same]; exact trivial
            · rw [upd_ne ea]
              exact r5.lv a ha
        · rw [hid_upd_in (by simp)]; exact s5
        · rw [hid_upd_in inM]
          exact (dacc.mono (hid_mono e25)).append (.cons dw .nil)
    · have ei : i = ds.length := by omega
      subst ei
      refine .inl ⟨wk.stop H' (gs.trans (hid_same _ _)), q _ H' (.lst acc) (e.trans (s2.trans (hid_same _ _))) ?_ (hd acc ha hv)⟩
      have nD : Dl ∉ L0 ++ L := fun z => (r2.lv Dl z).ne hD
      have sub : ∀ a ∈ L0 ++ L, a ∈ L0 ++ Dl :: L := fun a ha => (List.mem_append.mp ha).elim (fun z => List.mem_append_left _ z) fun z => List.mem_append_right _ (List.mem_cons_of_mem _ z)
      refine .lst ?_ (dacc.mono (hid_sub sub))
      unfold hid
      rw [if_neg nD]
      exact hDl
end
end Cu

namespace Cu
open PySem PySem.Spec L2
/-! ### data as the library's data -/
mutual
def toP : D → PyData
  | .non => .none
  | .bl b => .bool b
  | .int i => .int i
  | .str s => .str s
  | .lst ds => .list (toPs ds)
  | .tup ds => .tuple (toPs ds)
  | .klst _ => .none
  | .dct _ => .none
  | .ins _ _ _ => .none
  | .ty _ => .none
def toPs : List D → List PyData
  | [] => []
  | d :: ds => toP d :: toPs ds
end
mutual
/-- no dicts, no instances -/
def pln : D → Bool
  | .non => true
  | .bl _ => true
  | .int _ => true
  | .str _ => true
  | .lst ds => plns ds
  | .tup ds => plns ds
  | .klst _ => false
  | .dct _ => false
  | .ins _ _ _ => false
  | .ty _ => false
def plns : List D → Bool
  | [] => true
  | d :: ds => pln d && plns ds
end
section
variable {K : K'} {H : Hp}
mutual
theorem Dv.dp : ∀ {v : V} {d : D}, Dv K H v d → pln d = true → Dp K H v (toP d)
  | _, _, .non, _ => by simp only [toP]; exact .non
  | _, _, .bl b, _ => by simp only [toP]; exact .bl b
  | _, _, .int i, _ => by simp only [toP]; exact .int i
  | _, _, .str x, _ => by simp only [toP]; exact .str x
  | _, _, .ty n, p => by simp [pln] at p
  | _, _, .lst h r, p => by simp only [toP]; exact .lst (SqL.of h) (DvA.dp r (by simpa [pln] using p))
  | _, _, .tup h r, p => by simp only [toP]; exact .tup h (DvA.dp r (by simpa [pln] using p))
  | _, _, .dct h, p => by simp [pln] at p
  | _, _, .klst h r, p => by simp [pln] at p
  | _, _, .ins h n r, p => by simp [pln] at p
theorem DvA.dp : ∀ {vs : List V} {ds : List D}, DvA K H vs ds → plns ds = true → DpAll K H vs (toPs ds)
  | _, _, .nil, _ => by simp only [toPs]; exact .nil
  | _, d :: ds, .cons h r, p => by
    have q : pln d = true ∧ plns ds = true := by simpa [plns] using p
    simp only [toPs]
    exact .cons (Dv.dp h q.1) (DvA.dp r q.2)
end
end
/-- data that may be compared -/
def okD (d : D) : Bool := pln d && SeqAt.shaped (toP d)
def eqD (d e : D) : Bool := PyData.eqv (toP d) (toP e)
theorem eqD_int (i j : Int) : eqD (.int i) (.int j) = decide (i = j) := by
  simp only [eqD, toP, PyData.eqv]
  exact Bool.beq_eq_decide_eq i j
theorem eqD_str (i j : Str) : eqD (.str i) (.str j) = decide (i = j) := by
  simp only [eqD, toP, PyData.eqv]
  exact Bool.beq_eq_decide_eq i j
theorem eqD_bl (i j : Bool) : eqD (.bl i) (.bl j) = decide (i = j) := by
  simp only [eqD, toP, PyData.eqv]
  exact Bool.beq_eq_decide_eq i j
theorem eqD_non : eqD .non .non = true := by simp only [eqD, toP, PyData.eqv]
theorem eqD_tc (a b : D) (as bs : List D) : eqD (.tup (a :: as)) (.tup (b :: bs)) = (eqD a b && eqD (.tup as) (.tup bs)) := by simp only [eqD, toP, toPs, PyData.eqv, PyData.eqvAll]
theorem eqD_tn : eqD (.tup []) (.tup []) = true := by simp only [eqD, toP, toPs, PyData.eqv, PyData.eqvAll]
theorem eqD_tl (a : D) (as : List D) : eqD (.tup (a :: as)) (.tup []) = false := by simp only [eqD, toP, toPs, PyData.eqv, PyData.eqvAll]
theorem eqD_tr (a : D) (as : List D) : eqD (.tup []) (.tup (a :: as)) = false := by simp only [eqD, toP, toPs, PyData.eqv, PyData.eqvAll]
theorem eqD_lc (a b : D) (as bs : List D) : eqD (.lst (a :: as)) (.lst (b :: bs)) = (eqD a b && eqD (.lst as) (.lst bs)) := by simp only [eqD, toP, toPs, PyData.eqv, PyData.eqvAll]
theorem eqD_ln : eqD (.lst []) (.lst []) = true := by simp only [eqD, toP, toPs, PyData.eqv, PyData.eqvAll]
theorem eqD_ll (a : D) (as : List D) : eqD (.lst (a :: as)) (.lst []) = false := by simp only [eqD, toP, toPs, PyData.eqv, PyData.eqvAll]
theorem eqD_lr (a : D) (as : List D) : eqD (.lst []) (.lst (a :: as)) = false := by simp only [eqD, toP, toPs, PyData.eqv, PyData.eqvAll]
theorem eqD_nt (as : List D) : eqD .non (.tup as) = false := by simp only [eqD, toP, toPs, PyData.eqv]
theorem eqD_tnn (as : List D) : eqD (.tup as) .non = false := by simp only [eqD, toP, toPs, PyData.eqv]
theorem eqD_in (i : Int) : eqD (.int i) .non = false := by simp only [eqD, toP, toPs, PyData.eqv]
theorem eqD_ni (i : Int) : eqD .non (.int i) = false := by simp only [eqD, toP, toPs, PyData.eqv]
mutual
def depD : D → Nat
  | .lst ds => 1 + depDs ds
  | .tup ds => 1 + depDs ds
  | _ => 0
def depDs : List D → Nat
  | [] => 0
  | d :: ds => max (depD d) (depDs ds)
end
mutual
/-- scalars, texts in order -/
def cmpD : D → Bool
  | .non => true
  | .bl _ => true
  | .int _ => true
  | .str s => PyData.strOk s
  | .lst ds => cmpDs ds
  | .tup ds => cmpDs ds
  | .klst _ => false
  | .dct _ => false
  | .ins _ _ _ => false
  | .ty _ => false
def cmpDs : List D → Bool
  | [] => true
  | d :: ds => cmpD d && cmpDs ds
end
mutual
theorem cmp_pln : ∀ {d : D}, cmpD d = true → pln d = true ∧ (toP d).canLay0 = true
  | .non, _ => ⟨by simp [pln], by simp [toP, PyData.canLay0]⟩
  | .bl _, _ => ⟨by simp [pln], by simp [toP, PyData.canLay0]⟩
  | .int _, _ => ⟨by simp [pln], by simp [toP, PyData.canLay0]⟩
  | .str s, h => ⟨by simp [pln], by simpa [toP, PyData.canLay0, cmpD] using h⟩
  | .lst ds, h => by
    have q := cmp_plns (ds := ds) (by simpa [cmpD] using h)
    exact ⟨by simpa [pln] using q.1, by simpa [toP, PyData.canLay0] using q.2⟩
  | .tup ds, h => by
    have q := cmp_plns (ds := ds) (by simpa [cmpD] using h)
    exact ⟨by simpa [pln] using q.1, by simpa [toP, PyData.canLay0] using q.2⟩
  | .dct _, h => by simp [cmpD] at h
  | .klst _, h => by simp [cmpD] at h
  | .ins _ _ _, h => by simp [cmpD] at h
  | .ty _, h => by simp [cmpD] at h
theorem cmp_plns : ∀ {ds : List D}, cmpDs ds = true → plns ds = true ∧ PyData.canLayAll0 (toPs ds) = true
  | [], _ => ⟨by simp [plns], by simp [toPs, PyData.canLayAll0]⟩
  | d :: ds, h => by
    have h' : cmpD d = true ∧ cmpDs ds = true := by simpa [cmpDs] using h
    have a := cmp_pln h'.1
    have b := cmp_plns h'.2
    exact ⟨by simp [plns, a.1, b.1], by simp [toPs, PyData.canLayAll0, a.2, b.2]⟩
end
mutual
theorem dep_toP : ∀ {d : D}, (toP d).depth ≤ depD d
  | .non => by simp [toP, PyData.depth]
  | .bl _ => by simp [toP, PyData.depth]
  | .int _ => by simp [toP, PyData.depth]
  | .str s => by simp [toP, PyData.depth]
  | .lst ds => by
    have q := dep_toPs (ds := ds)
    simp only [toP, PyData.depth, depD]
    omega
  | .tup ds => by
    have q := dep_toPs (ds := ds)
    simp only [toP, PyData.depth, depD]
    omega
  | .dct _ => by simp [toP, PyData.depth]
  | .klst _ => by simp [toP, PyData.depth]
  | .ins _ _ _ => by simp [toP, PyData.depth]
  | .ty _ => by simp [toP, PyData.depth]
theorem dep_toPs : ∀ {ds : List D}, PyData.depthAll (toPs ds) ≤ depDs ds
  | [] => by simp [toPs, PyData.depthAll]
  | d :: ds => by
    have a := dep_toP (d := d)
    have b := dep_toPs (ds := ds)
    simp only [toPs, PyData.depthAll, depDs]
    omega
end
theorem okD_of {d : D} (h : cmpD d = true) (hd : depD d ≤ 64) : okD d = true := by
  have q := cmp_pln h
  have e := dep_toP (d := d)
  unfold okD SeqAt.shaped
  simp [q.1, q.2]
  omega
theorem okD_int (i : Int) : okD (.int i) = true := okD_of (by simp [cmpD]) (by simp [depD])
section
variable {K : K'} {H0 : Hp} {L0 : List Addr} {δ : DS} {R : D → Prop} {X : Cx}
theorem okD_pln {d : D} (h : okD d = true) : pln d = true := (Bool.and_eq_true_iff.mp h).1
theorem okD_sh {d : D} (h : okD d = true) : SeqAt.shaped (toP d) = true := (Bool.and_eq_true_iff.mp h).2
theorem xr_eq {d e : D} (hd : okD d = true) (he : okD e = true) (k : R (.bl (eqD d e))) : XR K (rEqD K) d e R := fun H L v u lv hv hu Q q =>
  ⟨_, _, (hv.mono (hid_same _ _)).dp (okD_pln hd), (hu.mono (hid_same _ _)).dp (okD_pln he), okD_sh hd, okD_sh he, q _ H _ (Same.refl H) (.bl _) k⟩
theorem xr_ne {d e : D} (hd : okD d = true) (he : okD e = true) (k : R (.bl (!eqD d e))) : XR K (rNeD K) d e R := fun H L v u lv hv hu Q q =>
  ⟨_, _, (hv.mono (hid_same _ _)).dp (okD_pln hd), (hu.mono (hid_same _ _)).dp (okD_pln he), okD_sh hd, okD_sh he, q _ H _ (Same.refl H) (.bl _) k⟩
theorem xr_eqI {i j : Int} (k : R (.bl (decide (i = j)))) : XR K (rEqD K) (.int i) (.int j) R := xr_eq (okD_int i) (okD_int j) (by rw [eqD_int]; exact k)
theorem xr_neI {i j : Int} (k : R (.bl (!decide (i = j)))) : XR K (rNeD K) (.int i) (.int j) R := xr_ne (okD_int i) (okD_int j) (by rw [eqD_int]; exact k)
theorem xr_isN {d : D} (k : R (.bl (match d with | .non => true | _ => false))) : XR K (fun x y H Q => y = .non ∧ Q (.bl (decide (x = .non))) H) d .non R := fun H L v u lv hv hu Q q => by
  cases hu
  refine ⟨rfl, q _ H _ (Same.refl H) ?_ k⟩
  cases hv <;> exact .bl _
theorem xr_notN {d : D} (k : R (.bl (match d with | .non => false | _ => true))) : XR K (fun x y H Q => y = .non ∧ Q (.bl (!decide (x = .non))) H) d .non R := fun H L v u lv hv hu Q q => by
  cases hu
  refine ⟨rfl, q _ H _ (Same.refl H) ?_ k⟩
  cases hv <;> exact .bl _
def rIsNn : R2 := fun x y H Q => y = .non ∧ Q (.bl (decide (x = .non))) H
def rNotNn : R2 := fun x y H Q => y = .non ∧ Q (.bl (!decide (x = .non))) H
theorem op_isNn : OpR X (compareOp .Is) rIsNn := op_isN
theorem op_notNn : OpR X (compareOp .IsNot) rNotNn := op_notN
theorem xr_isNn {d : D} (k : R (.bl (match d with | .non => true | _ => false))) : XR K rIsNn d .non R := xr_isN k
theorem xr_notNn {d : D} (k : R (.bl (match d with | .non => false | _ => true))) : XR K rNotNn d .non R := xr_notN k
/-! ### + of any kind -/
def rAddA (K : K') : R2 := fun x y H Q => (rI0 fun i j => .int (i + j)) x y H Q ∨ ((∃ i j, x = .str i ∧ y = .str j ∧ i.length + j.length ≤ sizeLine ∧ Q (.str (i ++ j)) H) ∨ (rCatA K x y H Q ∨ rCat x y H Q))
theorem op_addA : OpR X (binaryOp .Add) (rAddA X.K) := OpR.or op_add (OpR.or op_add_str (OpR.or op_catA op_cat))
theorem xr_addI {i j : Int} (k : R (.int (i + j))) : XR K (rAddA K) (.int i) (.int j) R := fun H L v u lv hv hu Q q => by
  cases hv; cases hu
  exact .inl ⟨i, j, rfl, rfl, q _ H _ (Same.refl H) (.int _) k⟩
theorem xr_addS {i j : Str} (h : i.length + j.length ≤ 100000) (k : R (.str (i ++ j))) : XR K (rAddA K) (.str i) (.str j) R := fun H L v u lv hv hu Q q => by
  cases hv; cases hu
  exact .inr (.inl ⟨i, j, rfl, rfl, sz100 h, q _ H _ (Same.refl H) (.str _) k⟩)
theorem xr_addT {ds es : List D} (h : ds.length + es.length ≤ 100000) (k : R (.tup (ds ++ es))) : XR K (rAddA K) (.tup ds) (.tup es) R := fun H L v u lv hv hu Q q => by
  obtain ⟨a, xs, rfl, h1, h2⟩ := dv_tup hv
  obtain ⟨b, ys, rfl, h3, h4⟩ := dv_tup hu
  refine .inr (.inr (.inl ⟨a, b, xs, ys, rfl, rfl, st_mono (hid_same _ _) h1, st_mono (hid_same _ _) h3, sz100 (by rw [h2.length, h4.length]; exact h), fun e => ?_, fun _ e => ?_, fun _ _ p hp => q _ _ _ (same_upd hp) (new_tup lv hp (h2.append h4)) k⟩))
  · subst e
    cases h2
    exact q _ H _ (Same.refl H) hu k
  · subst e
    cases h4
    rw [List.append_nil] at k
    exact q _ H _ (Same.refl H) hv k
theorem xr_addL {ds es : List D} (h : ds.length + es.length ≤ 100000) (k : R (.lst (ds ++ es))) : XR K (rAddA K) (.lst ds) (.lst es) R := fun H L v u lv hv hu Q q => by
  obtain ⟨a, xs, rfl, h1, h2⟩ := dv_lst hv
  obtain ⟨b, ys, rfl, h3, h4⟩ := dv_lst hu
  exact .inr (.inr (.inr ⟨a, b, xs, ys, rfl, rfl, (hid_at h1).2, (hid_at h3).2, sz100 (by rw [h2.length, h4.length]; exact h), fun p hp => q _ _ _ (same_upd hp) (new_lst lv hp (h2.append h4)) k⟩))
/-! ### in -/
def rInT (K : K') : R2 := fun x y H Q => ∃ d ds, Dp K H x d ∧ Dp K H y (.tuple ds) ∧ SeqAt.shaped d = true ∧ SeqAt.shaped (.tuple ds) = true ∧ Q (.bl (ds.any fun z => PyData.eqv z d)) H
def rNotInT (K : K') : R2 := fun x y H Q => ∃ d ds, Dp K H x d ∧ Dp K H y (.tuple ds) ∧ SeqAt.shaped d = true ∧ SeqAt.shaped (.tuple ds) = true ∧ Q (.bl (!ds.any fun z => PyData.eqv z d)) H
theorem room_inT {A : Around} {d : PyData} {ds : List PyData} (h : SeqAt.shaped d = true) (hu : A.units + 65 < cLine) : A.units + 1 + min (PyData.depthAll ds) d.depth < cLine := by
  have h1 := SeqAt.depth_of_shaped h
  have h2 : min (PyData.depthAll ds) d.depth ≤ d.depth := Nat.min_le_right _ _
  omega
theorem op_inT (hu : X.A.units + 65 < cLine) : OpR X (compareOp .In) (rInT X.K) := by
  intro pins s σ H x y v u Q I rx ry h
  obtain ⟨d, ds, hd, he, sd, se, q⟩ := h
  obtain ⟨as, r1⟩ := Dp.reads I d x v hd rx
  obtain ⟨bs, r2⟩ := Dp.reads I (.tuple ds) y u he ry
  exact SeqAt.in_tuple_reads r2 r1 (SeqAt.canLay_of_shaped se) (SeqAt.canLay_of_shaped sd) (room_inT sd hu) ⟨.bl _, H, I, rfl, q⟩
theorem op_notInT (hu : X.A.units + 65 < cLine) : OpR X (compareOp .NotIn) (rNotInT X.K) := by
  intro pins s σ H x y v u Q I rx ry h
  obtain ⟨d, ds, hd, he, sd, se, q⟩ := h
  obtain ⟨as, r1⟩ := Dp.reads I d x v hd rx
  obtain ⟨bs, r2⟩ := Dp.reads I (.tuple ds) y u he ry
  exact SeqAt.notIn_tuple_reads r2 r1 (SeqAt.canLay_of_shaped se) (SeqAt.canLay_of_shaped sd) (room_inT sd hu) ⟨.bl _, H, I, rfl, q⟩
def rInA (K : K') : R2 := fun x y H Q => rInD K x y H Q ∨ (rInT K x y H Q ∨ ∃ (c : Nat) (z : Str), x = .str ⟨#[c]⟩ ∧ y = .str z ∧ Q (.bl (decide (c ∈ z.cps.toList))) H)
def rNotInA (K : K') : R2 := fun x y H Q => rNotInD K x y H Q ∨ (rNotInT K x y H Q ∨ ∃ (c : Nat) (z : Str), x = .str ⟨#[c]⟩ ∧ y = .str z ∧ Q (.bl (!decide (c ∈ z.cps.toList))) H)
theorem op_inA (hu : X.A.units + 65 < cLine) : OpR X (compareOp .In) (rInA X.K) := OpR.or (op_inD hu) (OpR.or (op_inT hu) op_in_sign)
theorem op_notInA (hu : X.A.units + 65 < cLine) : OpR X (compareOp .NotIn) (rNotInA X.K) := OpR.or (op_notInD hu) (OpR.or (op_notInT hu) op_notIn_sign)
theorem toPs_any (ds : List D) (d : D) : ((toPs ds).any fun z => PyData.eqv z (toP d)) = ds.any fun z => eqD z d := by
  induction ds with
  | nil => rfl
  | cons a as ih =>
    show (toP a :: toPs as).any _ = _
    rw [List.any_cons, List.any_cons, ih]
    rfl
theorem xr_inL {d : D} {ds : List D} (hd : okD d = true) (he : okD (.lst ds) = true) (k : R (.bl (ds.any fun z => eqD z d))) : XR K (rInA K) d (.lst ds) R := fun H L v u lv hv hu Q q =>
  .inl ⟨_, toPs ds, (hv.mono (hid_same _ _)).dp (okD_pln hd), by have := (hu.mono (hid_same _ _)).dp (okD_pln he); simpa only [toP] using this, okD_sh hd, by have := okD_sh he; simpa only [toP] using this, by rw [toPs_any]; exact q _ H _ (Same.refl H) (.bl _) k⟩
theorem xr_inT {d : D} {ds : List D} (hd : okD d = true) (he : okD (.tup ds) = true) (k : R (.bl (ds.any fun z => eqD z d))) : XR K (rInA K) d (.tup ds) R := fun H L v u lv hv hu Q q =>
  .inr (.inl ⟨_, toPs ds, (hv.mono (hid_same _ _)).dp (okD_pln hd), by have := (hu.mono (hid_same _ _)).dp (okD_pln he); simpa only [toP] using this, okD_sh hd, by have := okD_sh he; simpa only [toP] using this, by rw [toPs_any]; exact q _ H _ (Same.refl H) (.bl _) k⟩)
theorem xr_notInL {d : D} {ds : List D} (hd : okD d = true) (he : okD (.lst ds) = true) (k : R (.bl (!ds.any fun z => eqD z d))) : XR K (rNotInA K) d (.lst ds) R := fun H L v u lv hv hu Q q =>
  .inl ⟨_, toPs ds, (hv.mono (hid_same _ _)).dp (okD_pln hd), by have := (hu.mono (hid_same _ _)).dp (okD_pln he); simpa only [toP] using this, okD_sh hd, by have := okD_sh he; simpa only [toP] using this, by rw [toPs_any]; exact q _ H _ (Same.refl H) (.bl _) k⟩
theorem xr_notInT {d : D} {ds : List D} (hd : okD d = true) (he : okD (.tup ds) = true) (k : R (.bl (!ds.any fun z => eqD z d))) : XR K (rNotInA K) d (.tup ds) R := fun H L v u lv hv hu Q q =>
  .inr (.inl ⟨_, toPs ds, (hv.mono (hid_same _ _)).dp (okD_pln hd), by have := (hu.mono (hid_same _ _)).dp (okD_pln he); simpa only [toP] using this, okD_sh hd, by have := okD_sh he; simpa only [toP] using this, by rw [toPs_any]; exact q _ H _ (Same.refl H) (.bl _) k⟩)
theorem xr_inS {c : Nat} {z : Str} (k : R (.bl (decide (c ∈ z.cps.toList)))) : XR K (rInA K) (.str ⟨#[c]⟩) (.str z) R := fun H L v u lv hv hu Q q => by
  cases hv; cases hu
  exact .inr (.inr ⟨c, z, rfl, rfl, q _ H _ (Same.refl H) (.bl _) k⟩)
theorem xr_notInS {c : Nat} {z : Str} (k : R (.bl (!decide (c ∈ z.cps.toList)))) : XR K (rNotInA K) (.str ⟨#[c]⟩) (.str z) R := fun H L v u lv hv hu Q q => by
  cases hv; cases hu
  exact .inr (.inr ⟨c, z, rfl, rfl, q _ H _ (Same.refl H) (.bl _) k⟩)
/-! ### built-ins -/
theorem CallR.or {f : Value} {r r' : List V → Hp → VK → Prop} (h : CallR X f r) (h' : CallR X f r') : CallR X f (fun xs H Q => r xs H Q ∨ r' xs H Q) := fun pins s σ H vs us Q I rr hh => by
  rcases hh with q | q
  · exact h pins s σ H vs us Q I rr q
  · exact h' pins s σ H vs us Q I rr q
theorem xe_cb {r : List V → Hp → VK → Prop} {ta : TA} (h : XA K H0 L0 ta δ fun ds => XC K r ds R) : XE K H0 L0 (tCB r ta) δ R := fun σ H L rl Q q =>
  h σ H L rl _ fun vs H2 ds e dv w => w H2 (L0 ++ L) vs (rl.mono e).lv dv Q fun z H3 d e3 dz hd => q z H3 d (e.trans e3) dz hd
def rLenA (K : K') : List V → Hp → VK → Prop := fun xs H Q => ∃ x n, xs = [x] ∧ LenV K x H n ∧ Q (.int n) H
theorem cl_len : CallR X (.builtin "len") (rLenA X.K) := call_len
theorem DvA.one {H : Hp} {vs : List V} {d : D} (h : DvA K H vs [d]) : ∃ v, vs = [v] ∧ Dv K H v d := by
  cases h with
  | cons h r => cases r; exact ⟨_, rfl, h⟩
theorem DvA.two {H : Hp} {vs : List V} {d e : D} (h : DvA K H vs [d, e]) : ∃ v u, vs = [v, u] ∧ Dv K H v d ∧ Dv K H u e := by
  cases h with
  | cons h r =>
    obtain ⟨u, rfl, h2⟩ := r.one
    exact ⟨_, _, rfl, h, h2⟩
theorem xc_lenL {ds : List D} (k : R (.int (ds.length : Int))) : XC K (rLenA K) [.lst ds] R := fun H L vs lv dv Q q => by
  obtain ⟨v, rfl, h⟩ := dv.one
  obtain ⟨a, xs, rfl, h1, h2⟩ := dv_seq h
  exact ⟨.ref a, ds.length, rfl, .inl ⟨xs, sq_mono (hid_same _ _) h1, h2.length.symm⟩, q _ H _ (Same.refl H) (.int _) k⟩
theorem xc_lenT {ds : List D} (k : R (.int (ds.length : Int))) : XC K (rLenA K) [.tup ds] R := fun H L vs lv dv Q q => by
  obtain ⟨v, rfl, h⟩ := dv.one
  obtain ⟨a, xs, rfl, h1, h2⟩ := dv_tup h
  exact ⟨.ref a, ds.length, rfl, .inr ⟨xs, st_mono (hid_same _ _) h1, h2.length.symm⟩, q _ H _ (Same.refl H) (.int _) k⟩
theorem xc_lenS {s : Str} (hs : s.length ≤ 100000) (k : R (.int (s.length : Int))) : XC K (rLenA K) [.str s] R := fun H L vs lv dv Q q => by
  obtain ⟨v, rfl, h⟩ := dv.one
  cases h
  exact ⟨.str s, s.length, rfl, ⟨sz100 hs, rfl⟩, q _ H _ (Same.refl H) (.int _) k⟩
def rAbsA : List V → Hp → VK → Prop := fun xs H Q => ∃ i, xs = [.int i] ∧ Q (.int (if i < 0 then -i else i)) H
theorem cl_abs : CallR X (.builtin "abs") rAbsA := call_abs
theorem xc_abs {i : Int} (k : R (.int (if i < 0 then -i else i))) : XC K rAbsA [.int i] R := fun H L vs lv dv Q q => by
  obtain ⟨v, rfl, h⟩ := dv.one
  cases h
  exact ⟨i, rfl, q _ H _ (Same.refl H) (.int _) k⟩
def rMax2A : List V → Hp → VK → Prop := fun xs H Q => ∃ i j, xs = [.int i, .int j] ∧ Q (.int (if j > i then j else i)) H
theorem cl_max2 (hc : X.calm = true) : CallR X (.builtin "max") rMax2A := call_max2 hc
theorem xc_max2 {i j : Int} (k : R (.int (if j > i then j else i))) : XC K rMax2A [.int i, .int j] R := fun H L vs lv dv Q q => by
  obtain ⟨v, u, rfl, h, h'⟩ := dv.two
  cases h; cases h'
  exact ⟨i, j, rfl, q _ H _ (Same.refl H) (.int _) k⟩
def rMin2A : List V → Hp → VK → Prop := fun xs H Q => ∃ i j, xs = [.int i, .int j] ∧ Q (.int (if j < i then j else i)) H
theorem cl_min2 (hc : X.calm = true) : CallR X (.builtin "min") rMin2A := call_min2 hc
theorem xc_min2 {i j : Int} (k : R (.int (if j < i then j else i))) : XC K rMin2A [.int i, .int j] R := fun H L vs lv dv Q q => by
  obtain ⟨v, u, rfl, h, h'⟩ := dv.two
  cases h; cases h'
  exact ⟨i, j, rfl, q _ H _ (Same.refl H) (.int _) k⟩
def rIntA : List V → Hp → VK → Prop := fun xs H Q => ((∃ i, xs = [.int i] ∧ Q (.int i) H) ∨ ∃ k, xs = [.bl k] ∧ Q (.int (if k then 1 else 0)) H) ∨ (∃ a n, xs = [.str a] ∧ PySem.intText? a = some n ∧ a.length ≤ 640 ∧ Q (.int n) H)
theorem cl_int : CallR X (.type "int") rIntA := CallR.or call_int1 call_int_str
theorem xc_intI {i : Int} (k : R (.int i)) : XC K rIntA [.int i] R := fun H L vs lv dv Q q => by
  obtain ⟨v, rfl, h⟩ := dv.one
  cases h
  exact .inl (.inl ⟨i, rfl, q _ H _ (Same.refl H) (.int _) k⟩)
theorem xc_intB {b : Bool} (k : R (.int (if b then 1 else 0))) : XC K rIntA [.bl b] R := fun H L vs lv dv Q q => by
  obtain ⟨v, rfl, h⟩ := dv.one
  cases h
  exact .inl (.inr ⟨b, rfl, q _ H _ (Same.refl H) (.int _) k⟩)
theorem xc_intS {s : Str} {n : Int} (h : PySem.intText? s = some n) (hl : s.length ≤ 640) (k : R (.int n)) : XC K rIntA [.str s] R := fun H L vs lv dv Q q => by
  obtain ⟨v, rfl, h'⟩ := dv.one
  cases h'
  exact .inr ⟨s, n, rfl, h, hl, q _ H _ (Same.refl H) (.int _) k⟩
def rAllA (K : K') : List V → Hp → VK → Prop := rAll K
theorem cl_all (hc : X.calm = true) : CallR X (.builtin "all") (rAllA X.K) := cr_all hc
theorem xc_all {bs : List Bool} (k : R (.bl (bs.all id))) : XC K (rAllA K) [.lst (bs.map D.bl)] R := fun H L vs lv dv Q q => by
  obtain ⟨v, rfl, h⟩ := dv.one
  obtain ⟨a, xs, rfl, h1, h2⟩ := dv_seq h
  exact ⟨a, bs, rfl, by rw [← h2.bls]; exact sq_mono (hid_same _ _) h1, q _ H _ (Same.refl H) (.bl _) k⟩
def rAnyA (K : K') : List V → Hp → VK → Prop := rAny K
theorem cl_any (hc : X.calm = true) : CallR X (.builtin "any") (rAnyA X.K) := cr_any hc
theorem xc_any {bs : List Bool} (k : R (.bl (bs.any id))) : XC K (rAnyA K) [.lst (bs.map D.bl)] R := fun H L vs lv dv Q q => by
  obtain ⟨v, rfl, h⟩ := dv.one
  obtain ⟨a, xs, rfl, h1, h2⟩ := dv_seq h
  exact ⟨a, bs, rfl, by rw [← h2.bls]; exact sq_mono (hid_same _ _) h1, q _ H _ (Same.refl H) (.bl _) k⟩
def rTupA (K : K') : List V → Hp → VK → Prop := fun xs H Q => ∃ p ys, xs = [.ref p] ∧ ((SqL K H p ys ∧ ∀ l, H l = none → Q (.ref l) (upd H l (.tup ys))) ∨ (SqT K H p ys ∧ Q (.ref p) H))
theorem cl_tup : CallR X (.type "tuple") (rTupA X.K) := call_tuple_of
theorem xc_tupL {ds : List D} (k : R (.tup ds)) : XC K (rTupA K) [.lst ds] R := fun H L vs lv dv Q q => by
  obtain ⟨v, rfl, h⟩ := dv.one
  obtain ⟨a, xs, rfl, h1, h2⟩ := dv_seq h
  exact ⟨a, xs, rfl, .inl ⟨sq_mono (hid_same _ _) h1, fun l hl => q _ _ _ (same_upd hl) (new_tup lv hl h2) k⟩⟩
theorem xc_tupT {ds : List D} (k : R (.tup ds)) : XC K (rTupA K) [.tup ds] R := fun H L vs lv dv Q q => by
  obtain ⟨v, rfl, h⟩ := dv.one
  obtain ⟨a, xs, rfl, h1, h2⟩ := dv_tup h
  exact ⟨a, xs, rfl, .inr ⟨st_mono (hid_same _ _) h1, q _ H _ (Same.refl H) h k⟩⟩
def rLstA (K : K') : List V → Hp → VK → Prop := fun xs H Q => ∃ p ys, xs = [.ref p] ∧ (SqL K H p ys ∨ SqT K H p ys) ∧ ∀ l, H l = none → Q (.ref l) (upd H l (.lst ys))
theorem cl_lst : CallR X (.type "list") (rLstA X.K) := call_list_of
theorem xc_lstL {ds : List D} (k : R (.lst ds)) : XC K (rLstA K) [.lst ds] R := fun H L vs lv dv Q q => by
  obtain ⟨v, rfl, h⟩ := dv.one
  obtain ⟨a, xs, rfl, h1, h2⟩ := dv_seq h
  exact ⟨a, xs, rfl, .inl (sq_mono (hid_same _ _) h1), fun l hl => q _ _ _ (same_upd hl) (new_lst lv hl h2) k⟩
theorem xc_lstK {ds : List D} (k : R (.lst ds)) : XC K (rLstA K) [.klst ds] R := fun H L vs lv dv Q q => by
  obtain ⟨v, rfl, h⟩ := dv.one
  obtain ⟨a, xs, rfl, h1, h2⟩ := dv_klst h
  exact ⟨a, xs, rfl, .inl (sq_mono (hid_same _ _) h1), fun l hl => q _ _ _ (same_upd hl) (new_lst lv hl h2) k⟩
theorem xc_lstT {ds : List D} (k : R (.lst ds)) : XC K (rLstA K) [.tup ds] R := fun H L vs lv dv Q q => by
  obtain ⟨v, rfl, h⟩ := dv.one
  obtain ⟨a, xs, rfl, h1, h2⟩ := dv_tup h
  exact ⟨a, xs, rfl, .inr (st_mono (hid_same _ _) h1), fun l hl => q _ _ _ (same_upd hl) (new_lst lv hl h2) k⟩
def rGcdA : List V → Hp → VK → Prop := rGcd
theorem cl_gcd : CallR X (.builtin "math.gcd") rGcdA := cr_gcd
theorem xc_gcd {i j : Int} (k : R (.int ((Int.gcd i j : Nat) : Int))) : XC K rGcdA [.int i, .int j] R := fun H L vs lv dv Q q => by
  obtain ⟨v, u, rfl, h, h'⟩ := dv.two
  cases h; cases h'
  exact ⟨i, j, rfl, q _ H _ (Same.refl H) (.int _) k⟩
def rMinA (K : K') : List V → Hp → VK → Prop := rMin K
theorem cl_min (hc : X.calm = true) : CallR X (.builtin "min") (rMinA X.K) := cr_min hc
theorem xc_min {ns : List Int} (h0 : 0 < ns.length) (k : ∀ m, m ∈ ns → (∀ y, y ∈ ns → m ≤ y) → R (.int m)) : XC K (rMinA K) [.lst (ns.map D.int)] R := fun H L vs lv dv Q q => by
  obtain ⟨v, rfl, h⟩ := dv.one
  obtain ⟨a, xs, rfl, h1, h2⟩ := dv_seq h
  exact ⟨a, ns, rfl, by rw [← h2.ints]; exact sq_mono (hid_same _ _) h1, h0, fun m hm hle => q _ H _ (Same.refl H) (.int _) (k m hm hle)⟩
end
/-! ### the defs -/
def startD (N : List Str) (ds : List D) : DS := ds.map (fun d => some (.sh d)) ++ List.replicate (N.length - ds.length) none
theorem start_rel {K : K'} {H : Hp} {L : List Addr} {N : List Str} {vs : List V} {ds : List D} (h : DvA K (hid L H) vs ds) (lv : Lv L H) : Rel K H L (L2.start N vs) H [] (startD N ds) where
  len := by unfold L2.start startD; rw [List.length_append, List.length_append, List.length_map, List.length_map, List.length_replicate, List.length_replicate, h.length]
  ex := by rw [hid_nil]; exact Same.refl H
  sh := fun i d e => by
    rw [List.append_nil]
    unfold startD at e
    unfold L2.start
    by_cases hi : i < ds.length
    · rw [List.getElem?_append_left (by rw [List.length_map]; exact hi), List.getElem?_map] at e
      cases q : ds[i]? with
      | none => rw [q] at e; cases e
      | some d' =>
        rw [q] at e
        cases e
        obtain ⟨v, h1, h2⟩ := h.get q
        refine ⟨v, ?_, h2⟩
        rw [List.getElem?_append_left (by rw [List.length_map, h.length]; exact hi), List.getElem?_map, h1]
        rfl
    · rw [List.getElem?_append_right (by rw [List.length_map]; omega), List.getElem?_replicate] at e
      split at e <;> cases e
  sv := fun i v d e => by
    unfold startD at e
    by_cases hi : i < ds.length
    · rw [List.getElem?_append_left (by rw [List.length_map]; exact hi), List.getElem?_map] at e
      cases q : ds[i]? with
      | none => rw [q] at e; cases e
      | some d' => rw [q] at e; cases e
    · rw [List.getElem?_append_right (by rw [List.length_map]; omega), List.getElem?_replicate] at e
      split at e <;> cases e
  ow := fun i d e => by
    unfold startD at e
    by_cases hi : i < ds.length
    · rw [List.getElem?_append_left (by rw [List.length_map]; exact hi), List.getElem?_map] at e
      cases q : ds[i]? with
      | none => rw [q] at e; cases e
      | some d' => rw [q] at e; cases e
    · rw [List.getElem?_append_right (by rw [List.length_map]; omega), List.getElem?_replicate] at e
      split at e <;> cases e
  od := fun i d e => by
    unfold startD at e
    by_cases hi : i < ds.length
    · rw [List.getElem?_append_left (by rw [List.length_map]; exact hi), List.getElem?_map] at e
      cases q : ds[i]? with
      | none => rw [q] at e; cases e
      | some d' => rw [q] at e; cases e
    · rw [List.getElem?_append_right (by rw [List.length_map]; omega), List.getElem?_replicate] at e
      split at e <;> cases e
  oi := fun i l C ns d e => by
    unfold startD at e
    by_cases hi : i < ds.length
    · rw [List.getElem?_append_left (by rw [List.length_map]; exact hi), List.getElem?_map] at e
      cases q : ds[i]? with
      | none => rw [q] at e; cases e
      | some d' => rw [q] at e; cases e
    · rw [List.getElem?_append_right (by rw [List.length_map]; omega), List.getElem?_replicate] at e
      split at e <;> cases e
  ap := fun a b s t l nab ha hb hs ht hl => by
    unfold startD at ha
    by_cases hi : a < ds.length
    · rw [List.getElem?_append_left (by rw [List.length_map]; exact hi), List.getElem?_map] at ha
      cases q : ds[a]? with
      | none => rw [q] at ha; cases ha
      | some d' => rw [q] at ha; cases ha; cases hs
    · rw [List.getElem?_append_right (by rw [List.length_map]; omega), List.getElem?_replicate] at ha
      split at ha <;> cases ha
  lv := fun l hl => lv l (by simpa using hl)
  dis := fun l hl => absurd hl (by simp)
abbrev postF (R : D → Prop) : Post := ⟨fun _ => R .non, R, fun _ => False, fun _ => False⟩
theorem body_run {K : K'} {H : Hp} {L : List Addr} {N : List Str} {vs : List V} {ds : List D} {R : D → Prop} {Q : VK} {t : TS} (h : DvA K (hid L H) vs ds) (lv : Lv L H) (q : ∀ v H' r, Same H H' → Dv K (hid L H') v r → R r → Q v H')
    (x : XS K H L t (startD N ds) (postF R)) : t { nx := fun _ H' => Q .non H', rt := Q } (L2.start N vs) H :=
  x _ H [] (start_rel h lv) _ (fun σ' H' L' δ' r hr => q .non H' .non (r.ex.trans (hid_same _ _)) .non hr) (fun v H' d e dv hr => q v H' d e dv hr) (fun _ _ _ _ _ z => z.elim) (fun _ _ _ _ _ z => z.elim)
section
variable {P : Program} {w : World} {K : K'} {mg : Str → Option Value} {base : Heap}
/-- a def that lets nothing out -/
theorem def0 {x qual : Str} {st : Stmt} {f : Addr} {fd : FuncData} {N ps : List Str} {k : Nat} {W : WP} (F : Fun K x qual st f fd) (S : FnScope N ps (defScope st)) (len : ∀ ds R RX, W ds R RX → ds.length = ps.length)
    (hb : ∀ (cdv : Value) (A : Around) (outer : List Env) (s : Shared) (H : Hp) (vs : List V) (Q : VK) (E : XK) (L : List Addr) (ds : List D) (R : D → Prop) (RX : Addr → Prop), Room k (A.deeper (PyProof.Rows.envOfC qual (defScope st) s.heap.objs.size f cdv)) → W ds R RX →
      ∃ t, PSs (cxOf CX0 P w K mg base N qual (defScope st) f cdv A outer s H E).nox (defBody st) t ∧ XS K H L t (startD N ds) (postF R)) : FnOk P w K mg base CX0 (k + 1) f fd ps (spD K W) := by
  refine F.ok S (fun vs H Q E h => ?_) (fun cdv A outer s H vs Q E hr h => ?_)
  · obtain ⟨L, ds, R, RX, lv, dv, w, _⟩ := h
    rw [dv.length]
    exact len ds R RX w
  · obtain ⟨L, ds, R, RX, lv, dv, w, q, _⟩ := h
    obtain ⟨t, h1, h2⟩ := hb cdv A outer s H vs Q E L ds R RX hr w
    exact ⟨t, h1, body_run dv lv q h2⟩
/-- a def that may raise -/
theorem defX {x qual : Str} {st : Stmt} {f : Addr} {fd : FuncData} {N ps : List Str} {k : Nat} {W : WP} (F : Fun K x qual st f fd) (S : FnScope N ps (defScope st)) (len : ∀ ds R RX, W ds R RX → ds.length = ps.length)
    (hb : ∀ (cdv : Value) (A : Around) (outer : List Env) (s : Shared) (H : Hp) (vs : List V) (Q : VK) (E : XK) (L : List Addr) (ds : List D) (R : D → Prop) (RX : Addr → Prop), Room k (A.deeper (PyProof.Rows.envOfC qual (defScope st) s.heap.objs.size f cdv)) → W ds R RX →
      (∀ c H', Same H H' → RX c → E (.ref c) none H') → ∃ t, PSs (cxOf (L2.CX P w) P w K mg base N qual (defScope st) f cdv A outer s H E) (defBody st) t ∧ XS K H L t (startD N ds) (postF R)) : FnOk P w K mg base (L2.CX P w) (k + 1) f fd ps (spD K W) := by
  refine F.okX S (fun vs H Q E h => ?_) (fun cdv A outer s H vs Q E hr h => ?_)
  · obtain ⟨L, ds, R, RX, lv, dv, w, _⟩ := h
    rw [dv.length]
    exact len ds R RX w
  · obtain ⟨L, ds, R, RX, lv, dv, w, q, hE⟩ := h
    obtain ⟨t, h1, h2⟩ := hb cdv A outer s H vs Q E L ds R RX hr w hE
    exact ⟨t, h1, body_run dv lv q h2⟩
end
end Cu

namespace PySem
open Sem (wp)
theorem Cu_meets_enum1 {v : Value} {o : Obj} {H : Heap → Prop} (B : Begins v o H) :
    Meets (Builtin.«enumerate.__new__» ⟨[.type "enumerate", v], []⟩) (fun _ R s => H s.heap ∧
      R (.ok (.ret (.ref (s.heap.push o).objs.size))) { s with heap := (s.heap.push o).push { cls := .type "enumerate", data := .fields #[.none, .bool false, .ref s.heap.objs.size, rawInt 0, .none, .none] } }) :=
  .of_wp fun prog w A R s h => by
    obtain ⟨hp, g, d, tk, os⟩ := s; obtain ⟨h1, h⟩ := h
    have hsub := sub_enumerate
    have q1 : ∀ {A' : Around} {E : Value → Shared → Prop} {Q : Value → Shared → Prop}, Q (.ref hp.objs.size) ⟨hp.push o, g, d, tk, os⟩ → wpAny (model prog w) A' (pyIter v) Q E ⟨hp, g, d, tk, os⟩ :=
      fun q => B.iter prog w _ _ ⟨hp, g, d, tk, os⟩ _ h1 q
    wp_walk using q1
    refine wpAny_stack_any fun st => wpAny_pure ?_
    split
    · rename_i c _ _ _ _ _
      cases (c == Value.type "enumerate")
      · wp_walk using q1
        exact ⟨_, rfl, h⟩
      · wp_walk using q1
        exact ⟨_, rfl, h⟩
    · wp_walk using q1
      exact ⟨_, rfl, h⟩
section
variable {prog : Program} {w : World} {A : Around} {E : Value → Shared → Prop} {s : Shared}
theorem Cu_enum1 {v : Value} {o : Obj} {H : Heap → Prop} {Q : Value → Shared → Prop} (B : Begins v o H) (h1 : H s.heap)
    (h : ∀ h', IsEnum h' (s.heap.objs.size + 1) s.heap.objs.size 0 .none → h'.get? s.heap.objs.size = some o → h'.objs.size = s.heap.objs.size + 2 →
      (∀ b o, s.heap.get? b = some o → h'.get? b = some o) → Q (.ref (s.heap.objs.size + 1)) { s with heap := h' }) :
    wpAny (model prog w) A (call (.type "enumerate") [v]) Q E s := by
  refine callType_new F.called_enumerate (by decide) (F.typeCall_enumerate_1 _) (F.newCall_enumerate_1 _) (fun obj => F.args_object_init_2 obj _) F.entry_enumerate_new
    (Cu_meets_enum1 B) ⟨h1, ?_⟩
  have hz : (s.heap.push o).objs.size = s.heap.objs.size + 1 := Heap.size_push ..
  show _ ∧ _
  rw [hz]
  have he : IsEnum ((s.heap.push o).push { cls := .type "enumerate", data := .fields #[.none, .bool false, .ref s.heap.objs.size, rawInt 0, .none, .none] }) (s.heap.objs.size + 1) s.heap.objs.size 0 .none := by
    have := Heap.get?_push_size (s.heap.push o) (o := { cls := .type "enumerate", data := .fields #[.none, .bool false, .ref s.heap.objs.size, rawInt 0, .none, .none] }) rfl
    rw [hz] at this; exact this
  refine ⟨⟨_, he, rfl⟩, h _ he (Heap.get?_push_of_some _ (Heap.get?_push_size _ B.free)) (by rw [Heap.size_push, hz]) fun b o x => Heap.get?_push_of_some _ (Heap.get?_push_of_some _ x)⟩
end
end PySem

namespace Cu
open PySem PySem.Spec L2
open PyProof.Rows (Call_ callWith_type1 boot_enumerate)
/-- what is walked by enumerate: a list (b) or a tuple -/
def Sq (K : K') (b : Bool) (H : Hp) (a : Addr) (xs : List V) : Prop := if b = true then SqL K H a xs else SqT K H a xs
/-- (k, x0), (k + 1, x1), .. -/
def Itn (K : K') (b : Bool) (a : Addr) (k : Int) : It :=
  ⟨fun i H => ∃ (xs : List V) (x : V), Sq K b H a xs ∧ xs[i]? = some x, fun i H v H' => ∃ T x, v = .ref T ∧ H T = none ∧ H' = upd H T (.tup [.int (k + (i : Nat)), x]) ∧ ∀ xs, Sq K b H a xs → xs[i]? = some x, fun i H => ∃ xs : List V, Sq K b H a xs ∧ xs.length = i⟩
/-- the iterator within -/
def InIt (b : Bool) (h : Heap) (it a : Addr) (i : Nat) : Prop := if b = true then h.IsListIter it a i else h.IsTupleIter it a i
theorem InIt.at {b : Bool} {h h' : Heap} {it a : Addr} {i : Nat} (x : InIt b h it a i) (k : ∀ o, h.get? it = some o → h'.get? it = some o) : InIt b h' it a i := by
  unfold InIt at *
  cases b with
  | true => exact Heap.IsListIter.at x k
  | false => exact Heap.IsTupleIter.at x k
theorem InIt.ex {b : Bool} {h : Heap} {it a : Addr} {i : Nat} (x : InIt b h it a i) : ∃ o, h.get? it = some o ∧ ∀ v, o.data ≠ .cell v := by
  unfold InIt at x
  cases b with
  | true => obtain ⟨o, h1, _, h3⟩ := x; exact ⟨o, h1, fun v q => by rw [h3] at q; cases q⟩
  | false => obtain ⟨o, h1, _, h3⟩ := x; exact ⟨o, h1, fun v q => by rw [h3] at q; cases q⟩
section
variable {X : Cx} {pins : List (Addr × Obj)} {σ : L2.St} {H : Hp} {s : Shared}
theorem sq_draws {b : Bool} {a it : Addr} {xs : List V} (I : Inv X pins σ H s) (h : Sq X.K b H a xs) (hh : X.A.handled = none) (hne : a ≠ it) : ∃ (its : List Value) (fp : List Addr) (St : Nat → Heap → Prop), Vals xs its ∧
    Draws X.prog X.w X.A.in1 it fp its.toArray.size (fun i v => its.toArray[i]? = some v) St ∧ (∀ i, InIt b s.heap it a i → St i s.heap) ∧ (∀ i h', St i h' → InIt b h' it a i) ∧ fp = [it, a] := by
  unfold Sq at h
  cases b with
  | true =>
    obtain ⟨its, rv, p, _⟩ := I.list h
    exact ⟨its, _, _, rv, Draws.list (A := X.A.in1) hh it a hne its.toArray, fun i x => ⟨x, p.isList⟩, fun i h' x => x.1, rfl⟩
  | false =>
    obtain ⟨its, rv, p, _⟩ := I.tuple h
    exact ⟨its, _, _, rv, Draws.tuple (A := X.A.in1) hh it a hne its.toArray, fun i x => ⟨x, p⟩, fun i h' x => x.1, rfl⟩
theorem sq_inj {b : Bool} {a : Addr} {xs ys : List V} (I : Inv X pins σ H s) (h : Sq X.K b H a xs) (h' : Sq X.K b H a ys) : xs = ys := by
  unfold Sq at h h'
  cases b with
  | true => exact I.list_inj h h'
  | false => exact I.tuple_inj h h'
theorem sq_there {b : Bool} {a : Addr} {xs : List V} (I : Inv X pins σ H s) (h : Sq X.K b H a xs) : ∃ o, s.heap.get? a = some o ∧ (o.cls = .type "list" ∨ o.cls = .type "tuple") := by
  unfold Sq at h
  cases b with
  | true => obtain ⟨its, rv, ⟨o, n, h1, h2, _⟩, _⟩ := I.list h; exact ⟨o, h1, .inl h2⟩
  | false => obtain ⟨its, rv, ⟨o, h1, h2, _⟩, _⟩ := I.tuple h; exact ⟨o, h1, .inr h2⟩
theorem InIt.cls {b : Bool} {h : Heap} {it a : Addr} {i : Nat} (x : InIt b h it a i) : ∃ o, h.get? it = some o ∧ o.cls ≠ .type "list" ∧ o.cls ≠ .type "tuple" := by
  unfold InIt at x
  cases b with
  | true => obtain ⟨o, h1, h2, h3⟩ := x; exact ⟨o, h1, by rw [h2]; decide +kernel, by rw [h2]; decide +kernel⟩
  | false => obtain ⟨o, h1, h2, h3⟩ := x; exact ⟨o, h1, by rw [h2]; decide +kernel, by rw [h2]; decide +kernel⟩
end
theorem turn_enumA {P : Program} {w : World} {K : K'} {elts : List Expr} {kk : Nat} {tpos : Pos} (b : Bool) (k0 : Int) (a e it : Addr) :
    Turn P w K (.Tuple elts kk tpos) (Itn K b a k0) [e, it] e (fun i h => (∃ old, IsEnum h e it (k0 + (i : Nat)) old) ∧ InIt b h it a i ∧ e ≠ it) where
  mem := by simp
  obj := fun i h st c hc => by
    obtain ⟨⟨old, he⟩, hi, _⟩ := st
    have e' : c = e ∨ c = it := by simpa using hc
    rcases e' with z | z
    · rw [z]; exact ⟨_, he, fun v q => nomatch q⟩
    · rw [z]; exact hi.ex
  keep := fun i h h' st k => let ⟨⟨old, he⟩, hi, hne⟩ := st; ⟨⟨old, k e (by simp) _ he⟩, hi.at fun o q => k it (by simp) o q, hne⟩
  item := by
    intro X hP hw hK hc i pins s σ H E I hf st hg
    subst hP hw hK
    obtain ⟨⟨old, he⟩, hit, hne⟩ := st
    obtain ⟨xs, x, hq, hx⟩ := hg
    have hai : a ≠ it := fun z => by
      obtain ⟨o, h1, h2⟩ := sq_there I hq
      obtain ⟨o', h1', h3, h4⟩ := hit.cls
      rw [z, h1'] at h1
      cases h1
      rcases h2 with h2 | h2
      · exact h3 h2
      · exact h4 h2
    have hae : a ≠ e := fun z => by
      obtain ⟨o, h1, h2⟩ := sq_there I hq
      have he' : s.heap.get? e = some _ := he
      rw [z, he'] at h1
      cases h1
      rcases h2 with h2 | h2
      · exact absurd (Value.type.inj h2) (by decide +kernel)
      · exact absurd (Value.type.inj h2) (by decide +kernel)
    obtain ⟨its, fp, St, rv, Dr, hst, hst', hfp⟩ := sq_draws I hq (I.ok.hd hc) hai
    obtain ⟨u, hu, ru⟩ := rv.get hx
    have hel : e < s.heap.objs.size := Heap.lt_size he
    have hil : it < s.heap.objs.size := by obtain ⟨_, q, _⟩ := hit.ex; exact Heap.lt_size q
    have hlt : i < its.toArray.size := by
      have := (List.getElem?_eq_some_iff.mp hu).1
      simpa using this
    refine wpAny_pyNext_enum_itemC Dr he (hst i hit) hlt hne (by rw [hfp]; simp only [List.mem_cons, List.not_mem_nil, or_false, not_or]; exact ⟨hne, fun z => hae z.symm⟩) fun x' h' tk hPx ho hit' hT hsz hk => ?_
    have ex : x' = u := by
      have : its.toArray[i]? = some u := by simpa using hu
      rw [this] at hPx
      exact (Option.some.inj hPx).symm
    subst ex
    refine ⟨_, rfl, wpAny_letOwnedTupleGo_enum (s := { s with heap := h', toks := tk + 1 }) ho fun h'' he' sb => ?_⟩
    have hT2 : h''.get? s.heap.objs.size = some { cls := .type "tuple", data := .seq #[.int (k0 + (i : Nat)) tk, x'] } := (sb.2 _ (Nat.ne_of_gt hel)).trans hT
    have new : ObjOk X.prog X.w (upd H s.heap.objs.size (.tup [.int (k0 + (i : Nat)), x])) h'' s.heap.objs.size (.tup [.int (k0 + (i : Nat)), x]) :=
      ⟨by show 2 ≤ sizeLine; decide, [.int (k0 + (i : Nat)) tk, x'], .cons ⟨_, rfl⟩ (.cons ru .nil), ⟨_, hT2, rfl, _, rfl⟩⟩
    have I1 : Inv X pins σ (upd H s.heap.objs.size (.tup [.int (k0 + (i : Nat)), x])) { s with heap := h'', toks := tk + 1 } :=
      I.turnedNew (ch := [e, it]) (fun b ob hb q => (sb.2 b (fun z => hb (by simp [z]))).trans (hk b ob (fun z => hb (by simp [z])) (fun z => hb (by simp [z])) q)) hf (Nat.le_refl _) new
    refine ⟨.ref s.heap.objs.size, _, I1, rfl, ⟨_, x, rfl, I.hok.fresh (Nat.le_refl _), rfl, fun ys hy => by rw [sq_inj I hy hq]; exact hx⟩, ⟨⟨x', ?_⟩, (hst' _ _ hit').at fun o q => (sb.2 it (Ne.symm hne)).trans q, hne⟩, fun b hb => ?_⟩
    · have e1 : k0 + ((i + 1 : Nat) : Int) = k0 + (i : Int) + 1 := by omega
      rw [e1]; exact he'
    · have hb' : b < s.heap.objs.size := by
        have e' : b = e ∨ b = it := by simpa using hb
        rcases e' with z | z
        · rw [z]; exact hel
        · rw [z]; exact hil
      rw [upd_ne (Nat.ne_of_lt hb')]
      exact (hf b hb).1
  done := by
    intro X hP hw hK hc i pins s σ H E I hf st hg
    subst hP hw hK
    obtain ⟨⟨old, he⟩, hit, hne⟩ := st
    obtain ⟨xs, hq, hx⟩ := hg
    have hai : a ≠ it := fun z => by
      obtain ⟨o, h1, h2⟩ := sq_there I hq
      obtain ⟨o', h1', h3, h4⟩ := hit.cls
      rw [z, h1'] at h1
      cases h1
      rcases h2 with h2 | h2
      · exact h3 h2
      · exact h4 h2
    obtain ⟨its, fp, St, rv, Dr, hst, hst', hfp⟩ := sq_draws I hq (I.ok.hd hc) hai
    obtain ⟨f0, f1, f2, f3, f4, f5⟩ := hf it (by simp)
    have hl : its.toArray.size = i := by rw [List.size_toArray, ← rv.length]; exact hx
    exact wpAny_pyNext_enum_endD Dr he (by rw [hl]; exact hst i hit) fun h' eb => ⟨rfl, I.turned (t' := s.toks) (fun b o hb q => eb b o hb q) f0 f1 f3 f4 f5⟩
  self := fun A i s Q E st h => let ⟨⟨_, he⟩, _⟩ := st; wpAny_pyIter_enum he h
section
variable {X : Cx} {e e2 : Expr} {ta : TA} {p pos tpos : Pos} {elts : List Expr} {kk : Nat}
def iEnumA (K : K') (ta : TA) : TI := fun σ H R => ta σ H fun vs H1 => ∃ a xs b, vs = [.ref a] ∧ Sq K b H1 a xs ∧ R (Itn K b a 0) H1
def iEnum2 (K : K') (ta : TA) : TI := fun σ H R => ta σ H fun vs H1 => ∃ a xs b k, vs = [.ref a, .int k] ∧ (-(2 ^ 63) ≤ k ∧ k < 2 ^ 63) ∧ Sq K b H1 a xs ∧ R (Itn K b a k) H1
theorem sq_begins {b : Bool} {a : Addr} {xs : List V} {pins : List (Addr × Obj)} {σ : L2.St} {H : Hp} {s : Shared} (I : Inv X pins σ H s) (h : Sq X.K b H a xs) : ∃ (o : Obj) (Hh : Heap → Prop), Begins (.ref a) o Hh ∧ Hh s.heap ∧ (∀ (h' : Heap) (it : Addr), h'.get? it = some o → InIt b h' it a 0) := by
  unfold Sq at h
  cases b with
  | true =>
    obtain ⟨its, rv, p, _⟩ := I.list h
    exact ⟨_, _, begins_list a its.toArray, p.isList, fun h' it q => ⟨_, q, rfl, rfl⟩⟩
  | false =>
    obtain ⟨its, rv, p, _⟩ := I.tuple h
    exact ⟨_, _, begins_tuple a its.toArray, p, fun h' it q => ⟨_, q, rfl, rfl⟩⟩
theorem pi_enumA (hg : Gl X "enumerate") (hm : X.mg "enumerate" = none) (ha : PA X [e] ta) (hs : starEach [e] X.env = [(false, eval e X.env)] := by rfl) :
    PI X (.Tuple elts kk tpos) (.Call (.Name "enumerate" p) [e] [] pos) (iEnumA X.K ta) := by
  refine ⟨fun pins s σ H R I h => ?_⟩
  refine Call_ (ld_blt I hg hm boot_enumerate (callWith_type1 (thn (ha.run pos pins s σ H _ I h) fun us s1 ⟨vs, H1, I1, r1, q1⟩ => ?_) hs rfl))
  obtain ⟨a, xs, b, ex, hq, q⟩ := q1
  subst ex
  cases r1 with
  | cons r rr =>
    cases rr
    cases r
    obtain ⟨o, Hh, B, hB, hin⟩ := sq_begins I1 hq
    refine Cu_enum1 B hB fun h' he hit hsz hk => wpAny_pyIter_enum he ?_
    have I2 : Inv X pins σ H1 { s1 with heap := h' } := I1.kept (t' := s1.toks) hk
    refine ⟨s1.heap.objs.size + 1, [s1.heap.objs.size + 1, s1.heap.objs.size], _, _, H1, rfl, I2, turn_enumA b 0 a (s1.heap.objs.size + 1) s1.heap.objs.size, ⟨⟨.none, he⟩, hin _ _ hit, Nat.succ_ne_self _⟩, fun b hb => ?_, q⟩
    have e' : b = s1.heap.objs.size + 1 ∨ b = s1.heap.objs.size := by simpa using hb
    have hle : s1.heap.objs.size ≤ b := by
      rcases e' with z | z
      · rw [z]; exact Nat.le_add_right _ _
      · rw [z]; exact Nat.le_refl _
    exact I1.fpOk hle (I1.hok.fresh hle)
theorem pi_enum2 (hg : Gl X "enumerate") (hm : X.mg "enumerate" = none) (ha : PA X [e, e2] ta) (hs : starEach [e, e2] X.env = (false, eval e X.env) :: starEach [e2] X.env := by rfl) (hs2 : (backTo pos (starEach [e2] X.env)).any (·.1) = false := by rfl) :
    PI X (.Tuple elts kk tpos) (.Call (.Name "enumerate" p) [e, e2] [] pos) (iEnum2 X.K ta) := by
  refine ⟨fun pins s σ H R I h => ?_⟩
  refine Call_ (ld_blt I hg hm boot_enumerate (callWith_type1 (thn (ha.run pos pins s σ H _ I h) fun us s1 ⟨vs, H1, I1, r1, q1⟩ => ?_) hs hs2))
  obtain ⟨a, xs, b, k, ex, ⟨hk0, hk1⟩, hq, q⟩ := q1
  subst ex
  cases r1 with
  | cons r rr =>
    cases rr with
    | cons r2 rr =>
    cases rr
    cases r
    obtain ⟨t2, rfl⟩ := r2
    obtain ⟨o, Hh, B, hB, hin⟩ := sq_begins I1 hq
    refine enum_begins B hB hk0 hk1 fun h' he hit hsz hk => wpAny_pyIter_enum he ?_
    have I2 : Inv X pins σ H1 { s1 with heap := h' } := I1.kept (t' := s1.toks) hk
    refine ⟨s1.heap.objs.size + 1, [s1.heap.objs.size + 1, s1.heap.objs.size], _, _, H1, rfl, I2, turn_enumA b k a (s1.heap.objs.size + 1) s1.heap.objs.size, ⟨⟨.none, by simpa using he⟩, hin _ _ hit, Nat.succ_ne_self _⟩, fun b hb => ?_, q⟩
    have e' : b = s1.heap.objs.size + 1 ∨ b = s1.heap.objs.size := by simpa using hb
    have hle : s1.heap.objs.size ≤ b := by
      rcases e' with z | z
      · rw [z]; exact Nat.le_add_right _ _
      · rw [z]; exact Nat.le_refl _
    exact I1.fpOk hle (I1.hok.fresh hle)
/-- a list or a tuple is walked -/
def iAny (K : K') (tl : TE) : TI := fun σ H R => tl σ H fun x H1 => ∃ a, x = .ref a ∧ ((∃ xs, SqL K H1 a xs) ∧ R (Itl K a) H1 ∨ (∃ xs, SqT K H1 a xs) ∧ R (Itt K a) H1)
theorem pi_any {tg l : Expr} {tl : TE} (hl : PE X l tl) : PI X tg l (iAny X.K tl) := by
  refine ⟨fun pins s σ H R I h => ?_⟩
  refine thn (hl.run pins s σ H _ I h) fun v s1 ⟨x, H1, I1, r1, q1⟩ => ?_
  obtain ⟨a, ex, q | q⟩ := q1
  · obtain ⟨⟨xs, hq⟩, q⟩ := q
    subst ex
    cases r1
    obtain ⟨its, rv, p, hz⟩ := I1.list hq
    refine wpAny_pyIter_list p.isList ?_
    refine ⟨s1.heap.objs.size, [s1.heap.objs.size], _, _, H1, rfl, I1.kept (t' := s1.toks) fun b o e => Heap.get?_push_of_some _ e, turn_list a _, ⟨_, Heap.get?_push_size _ rfl, rfl, rfl⟩, fun b hb => ?_, q⟩
    have e : b = s1.heap.objs.size := by simpa using hb
    subst e
    exact I1.fpOk (Nat.le_refl _) (I1.hok.fresh (Nat.le_refl _))
  · obtain ⟨⟨xs, hq⟩, q⟩ := q
    subst ex
    cases r1
    obtain ⟨its, rv, p, hz⟩ := I1.tuple hq
    refine wpAny_pyIter_tuple (show s1.heap.IsTuple a its.toArray from p) ?_
    refine ⟨s1.heap.objs.size, [s1.heap.objs.size], _, _, H1, rfl, I1.kept (t' := s1.toks) fun b o e => Heap.get?_push_of_some _ e, turn_tuple a _, ⟨_, Heap.get?_push_size _ rfl, rfl, rfl⟩, fun b hb => ?_, q⟩
    have e : b = s1.heap.objs.size := by simpa using hb
    subst e
    exact I1.fpOk (Nat.le_refl _) (I1.hok.fresh (Nat.le_refl _))
end
section
variable {K : K'} {H0 : Hp} {L0 : List Addr} {δ : DS} {te : TE} {ta : TA} {R : List D → Prop}
theorem xi_anyL (h : XE K H0 L0 te δ fun x => ∃ ds, x = .lst ds ∧ R ds) : XI K H0 L0 (iAny K te) δ R := fun σ H L rl Q q =>
  h σ H L rl _ fun v H2 x e dv ⟨ds, ex, hr⟩ => by
    subst ex
    obtain ⟨a, vs, rfl, h1, h2⟩ := dv_seq dv
    exact ⟨a, rfl, .inl ⟨⟨vs, sq_mono (hid_same _ _) h1⟩, q _ H2 ds e (walkD_list h1 h2) hr⟩⟩
theorem xi_anyT (h : XE K H0 L0 te δ fun x => ∃ ds, x = .tup ds ∧ R ds) : XI K H0 L0 (iAny K te) δ R := fun σ H L rl Q q =>
  h σ H L rl _ fun v H2 x e dv ⟨ds, ex, hr⟩ => by
    subst ex
    obtain ⟨a, vs, rfl, h1, h2⟩ := dv_tup dv
    exact ⟨a, rfl, .inr ⟨⟨vs, st_mono (hid_same _ _) h1⟩, q _ H2 ds e (walkD_tup h1 h2) hr⟩⟩
theorem sqb_mono {b : Bool} {H H' : Hp} {a : Addr} {xs : List V} (e : Same H H') (h : Sq K b H a xs) : Sq K b H' a xs := by
  unfold Sq at *
  cases b with
  | true => exact sq_mono e h
  | false => exact st_mono e h
/-- the pairs (k, d0), (k + 1, d1), .. -/
def enumD (k : Int) (ds : List D) : List D := (List.range ds.length).map fun i => .tup [.int (k + (i : Nat)), ds.getD i .non]
theorem enumD_len (k : Int) (ds : List D) : (enumD k ds).length = ds.length := by unfold enumD; rw [List.length_map, List.length_range]
theorem enumD_get {k : Int} {ds : List D} {i : Nat} {d : D} (h : (enumD k ds)[i]? = some d) : ∃ x, ds[i]? = some x ∧ d = .tup [.int (k + (i : Nat)), x] := by
  unfold enumD at h
  rw [List.getElem?_map] at h
  by_cases hi : i < ds.length
  · rw [List.getElem?_range hi] at h
    refine ⟨ds[i], by simp [hi], ?_⟩
    have := Option.some.inj h
    rw [← this]
    simp [List.getD, hi]
  · rw [List.getElem?_eq_none (by rw [List.length_range]; omega)] at h
    cases h
theorem walkD_enum {b : Bool} {G : Hp} {a : Addr} {vs : List V} {ds : List D} {k : Int} (h : Sq K b G a vs) (r : DvA K G vs ds) : WalkD K G (Itn K b a k) (enumD k ds) where
  go := fun i H' hi e => by
    rw [enumD_len] at hi
    have : i < vs.length := by rw [r.length]; exact hi
    exact ⟨vs, vs[i], sqb_mono e h, by simp [this]⟩
  stop := fun H' e => ⟨vs, sqb_mono e h, by rw [enumD_len, r.length]⟩
  yld := fun i d H' x H'' L' hd e lv y => by
    obtain ⟨T, w, rfl, hT, rfl, hy⟩ := y
    obtain ⟨z, hz, rfl⟩ := enumD_get hd
    obtain ⟨v, h1, h2⟩ := r.get hz
    have := hy vs (sqb_mono (e.trans (hid_same _ _)) h)
    rw [h1] at this
    cases this
    exact new_pair e lv hT (.int _) h2
theorem xi_enumT (h : XA K H0 L0 ta δ fun xs => ∃ ds, xs = [.tup ds] ∧ R (enumD 0 ds)) : XI K H0 L0 (iEnumA K ta) δ R := fun σ H L rl Q q =>
  h σ H L rl _ fun vs H2 x e dv ⟨ds, ex, hr⟩ => by
    subst ex
    obtain ⟨v, rfl, hv⟩ := dv.one
    obtain ⟨a, vs, rfl, h1, h2⟩ := dv_tup hv
    exact ⟨a, vs, false, rfl, st_mono (hid_same _ _) h1, q _ H2 _ e (walkD_enum (b := false) h1 h2) hr⟩
theorem xi_enumL (h : XA K H0 L0 ta δ fun xs => ∃ ds, xs = [.lst ds] ∧ R (enumD 0 ds)) : XI K H0 L0 (iEnumA K ta) δ R := fun σ H L rl Q q =>
  h σ H L rl _ fun vs H2 x e dv ⟨ds, ex, hr⟩ => by
    subst ex
    obtain ⟨v, rfl, hv⟩ := dv.one
    obtain ⟨a, vs, rfl, h1, h2⟩ := dv_seq hv
    exact ⟨a, vs, true, rfl, sq_mono (hid_same _ _) h1, q _ H2 _ e (walkD_enum (b := true) h1 h2) hr⟩
theorem xi_enum2L (h : XA K H0 L0 ta δ fun xs => ∃ ds k, xs = [.lst ds, .int k] ∧ (-(2 ^ 63) ≤ k ∧ k < 2 ^ 63) ∧ R (enumD k ds)) : XI K H0 L0 (iEnum2 K ta) δ R := fun σ H L rl Q q =>
  h σ H L rl _ fun vs H2 x e dv ⟨ds, k, ex, hk, hr⟩ => by
    subst ex
    obtain ⟨v, u, rfl, hv, hu⟩ := dv.two
    cases hu
    obtain ⟨a, vs, rfl, h1, h2⟩ := dv_seq hv
    exact ⟨a, vs, true, k, rfl, hk, sq_mono (hid_same _ _) h1, q _ H2 _ e (walkD_enum (b := true) h1 h2) hr⟩
/-- pairs of two lists of one length -/
def zipD (ds es : List D) : List D := (ds.zip es).map fun p => .tup [p.1, p.2]
theorem xi_zipL (h : XA K H0 L0 ta δ fun xs => ∃ ds es, xs = [.lst ds, .lst es] ∧ ds.length = es.length ∧ R (zipD ds es)) : XI K H0 L0 (RZ.iZipA K ta) δ R := fun σ H L rl Q q =>
  h σ H L rl _ fun vs H2 x e dv ⟨ds, es, ex, hl, hr⟩ => by
    subst ex
    obtain ⟨v, u, rfl, hv, hu⟩ := dv.two
    obtain ⟨a, xs, rfl, h1, h2⟩ := dv_seq hv
    obtain ⟨b, ys, rfl, h3, h4⟩ := dv_seq hu
    have zl : (zipD ds es).length = ds.length := by unfold zipD; rw [List.length_map, List.length_zip, ← hl, Nat.min_self]
    refine ⟨a, b, xs, ys, rfl, .inl ⟨sq_mono (hid_same _ _) h1, sq_mono (hid_same _ _) h3, q _ H2 _ e ⟨fun i H' hi e => ?_, fun H' e => ?_, fun i d H' x H'' L' hd e lv y => ?_⟩ hr⟩⟩
    · rw [zl] at hi
      have i1 : i < xs.length := by rw [h2.length]; exact hi
      have i2 : i < ys.length := by rw [h4.length, ← hl]; exact hi
      exact ⟨xs, ys, xs[i], ys[i], sq_mono e h1, sq_mono e h3, by simp [i1], by simp [i2]⟩
    · exact ⟨xs, ys, sq_mono e h1, sq_mono e h3, .inl (by rw [zl, h2.length]; exact Nat.le_refl _)⟩
    · obtain ⟨T, w, z, rfl, hT, rfl, y1, y2⟩ := y
      unfold zipD at hd
      rw [List.getElem?_map] at hd
      cases hz : (ds.zip es)[i]? with
      | none => rw [hz] at hd; cases hd
      | some pr =>
        rw [hz] at hd
        cases hd
        obtain ⟨g1, g2⟩ := List.getElem?_zip_eq_some.mp hz
        obtain ⟨v1, q1, q2⟩ := h2.get g1
        obtain ⟨v2, q3, q4⟩ := h4.get g2
        have z1 := y1 xs (sq_mono (e.trans (hid_same _ _)) h1)
        have z2 := y2 ys (sq_mono (e.trans (hid_same _ _)) h3)
        rw [q1] at z1
        rw [q3] at z2
        cases z1
        cases z2
        exact new_pair e lv hT q2 q4
end
/-! ### short words for the defs -/
section
variable {X : Cx}
theorem pt_tru {a : Expr} {ta : TE} (ha : PE X a ta) (he : ∀ whole, isTrue a X.env whole = (do let v ← whole; standAt a.pos; holding [v] (truthy v)) := by intro _; rfl) : PT X a (tTruth X.K ta) := pt_truth ha he
/-- * of two ints, one of them small or both not too great -/
def CMulA (i j : Int) : Prop := CMul i j ∨ CMulW i j
theorem CMulA.ok {i j : Int} (h : CMulA i j) : IntMulOk i j := by
  rcases h with h | h
  · exact h.ok
  · exact h.ok
theorem op_mulA : OpR X (binaryOp .Mult) (rI CMulA fun i j => .int (i * j)) := opI fun _ _ _ _ _ _ _ hc q => PyProof.Rows.mul_int q hc.ok
theorem hu65 {A : Around} {k : Nat} (r : Room k A) : A.units + 65 < cLine := by have := r.un; omega
theorem hu1 {A : Around} {k : Nat} (r : Room k A) : A.units + 1 < cLine := by have := r.un; omega
end
/-- an own exception class over ValueError without an __init__ -/
structure Er (K : K') (mg : Str → Option Value) (x : Str) (C : Addr) : Prop where
  g : mg x = some (.ref C)
  k : PySem.W.keepIn K (.ref C) = true
  q : PySem.W.excIn K C [.type "ValueError", .type "Exception", .type "BaseException", .type "object"] "ValueError.__new__" = true
  b : PySem.W.subIn K (.ref C) (.type "BaseException") = some true
  t : PySem.W.typeIn K (.ref C) = some (.type "type")
section
variable {X : Cx}
theorem ps_raiseC {x m : Str} {j : Nat} {p p2 pos pos2 : Pos} {C : Addr} {E : XK} (hc : X.calm = true) (T : Er X.K X.mg x C) (tk : Takes X (fun cls d _ H => E cls d H)) (hg : Gl X x) (hdb : (x == ("__debug__" : Str)) = false := by decide) :
    PS X (.Raise (some (.Call (.Name x p) [.Constant (.str m) j p2] [] pos)) none pos2) (tRaiseC E C) :=
  ps_raise hc tk (pmk_own PySem.F.excBase_ValueError T.q T.g T.k (raises_own T.b T.t) hg hdb)
theorem passX {E : XK} (tk : Takes X (fun cls d _ H => E cls d H)) : Passes (L2.CX X.prog X.w) X E := passes_call tk fun _ _ _ _ h => h
end
/-- a def that stands behind the top -/
def FnE (K : K') (mg : Str → Option Value) (name : Str) (st : Stmt) (ps : List Str) : Prop := ∃ f fd, Fun K name name st f fd ∧ mg name = some (.ref f) ∧ Binds K fd ps []
/-- a def that may be called, with its promise -/
def CalE (P : Program) (w : World) (K : K') (mg : Str → Option Value) (base : Heap) (CX : CXT) (k : Nat) (name : Str) (ps : List Str) (sp : Sp) : Prop :=
  ∃ f fd, FnOk P w K mg base CX k f fd ps sp ∧ mg name = some (.ref f) ∧ PySem.W.keepIn K (.ref f) = true ∧ Binds K fd ps []
/-- a method -/
def MtE (K : K') (C : Addr) (m qual : Str) (st : Stmt) (ps : List Str) : Prop := ∃ f fd, Fun K m qual st f fd ∧ Meth K C m f ∧ Binds K fd ps []
def CalM (P : Program) (w : World) (K : K') (mg : Str → Option Value) (base : Heap) (CX : CXT) (k : Nat) (C : Addr) (m : Str) (ps : List Str) (sp : Sp) : Prop :=
  ∃ f fd, FnOk P w K mg base CX k f fd ps sp ∧ Meth K C m f ∧ Binds K fd ps []
end Cu

/-! The rules in the forms that the steps take. -/
namespace Cu
open PySem PySem.Spec L2
def Br (c : Bool) (A B : Prop) : Prop := (c = true → A) ∧ (c = false → B)
theorem br_t {A B : Prop} (h : A) : Br true A B := ⟨fun _ => h, fun z => nomatch z⟩
theorem br_f {A B : Prop} (h : B) : Br false A B := ⟨(fun z => nomatch z), fun _ => h⟩
theorem br_d {p : Prop} [Decidable p] {A B : Prop} (h1 : p → A) (h2 : ¬ p → B) : Br (decide p) A B := ⟨fun z => h1 (of_decide_eq_true z), fun z => h2 (of_decide_eq_false z)⟩
theorem br_n {c : Bool} {A B : Prop} (h : Br c B A) : Br (!c) A B := by
  cases c with
  | true => exact br_f (h.1 rfl)
  | false => exact br_t (h.2 rfl)
theorem br_c {c : Bool} {A B : Prop} (h1 : c = true → A) (h2 : c = false → B) : Br c A B := ⟨h1, h2⟩
theorem br_tt {c : Bool} {A B : Prop} (e : c = true) (h : A) : Br c A B := e ▸ br_t h
theorem br_ff {c : Bool} {A B : Prop} (e : c = false) (h : B) : Br c A B := e ▸ br_f h
/-- a value known to be True or False, by what it is -/
theorem br_same {c : Bool} {A : Prop} (h : A) : Br c A A := ⟨fun _ => h, fun _ => h⟩
def IsBl (x : D) (R : Bool → Prop) : Prop := ∃ b, x = .bl b ∧ R b
theorem isBl {b : Bool} {R : Bool → Prop} (h : R b) : IsBl (.bl b) R := ⟨b, rfl, h⟩
def IsTru (x : D) (R : Bool → Prop) : Prop := ∃ b, truD x = some b ∧ R b
theorem isTru_bl {b : Bool} {R : Bool → Prop} (h : R b) : IsTru (.bl b) R := ⟨b, rfl, h⟩
theorem isTru_int {i : Int} {R : Bool → Prop} (h : R (!decide (i = 0))) : IsTru (.int i) R := ⟨_, rfl, by
  have e : (i != 0) = !decide (i = 0) := by rw [bne, Bool.beq_eq_decide_eq]
  rw [e]; exact h⟩
theorem isTru_non {R : Bool → Prop} (h : R false) : IsTru .non R := ⟨_, rfl, h⟩
theorem isTru_lst {ds : List D} {R : Bool → Prop} (h : R (!ds.isEmpty)) : IsTru (.lst ds) R := ⟨_, rfl, h⟩
theorem isTru_tup {ds : List D} {R : Bool → Prop} (h : R (!ds.isEmpty)) : IsTru (.tup ds) R := ⟨_, rfl, h⟩
def IsSeq (x : D) (R : List D → Prop) : Prop := ∃ ds, (x = .lst ds ∨ x = .tup ds) ∧ R ds
theorem isSeq_l {ds : List D} {R : List D → Prop} (h : R ds) : IsSeq (.lst ds) R := ⟨ds, .inl rfl, h⟩
theorem isSeq_t {ds : List D} {R : List D → Prop} (h : R ds) : IsSeq (.tup ds) R := ⟨ds, .inr rfl, h⟩
def IsInt (x : D) (R : Int → Prop) : Prop := ∃ i, x = .int i ∧ R i
theorem isInt {i : Int} {R : Int → Prop} (h : R i) : IsInt (.int i) R := ⟨i, rfl, h⟩
def Sml (n : Nat) (A : Prop) : Prop := n ≤ 100000 ∧ A
theorem sml {n : Nat} {A : Prop} (e : n ≤ 100000) (h : A) : Sml n A := ⟨e, h⟩
def IsIns (C : Addr) (x : D) (R : List Str → List D → Prop) : Prop := ∃ ns ds, x = .ins C ns ds ∧ R ns ds
theorem isIns {C : Addr} {ns : List Str} {ds : List D} {R : List Str → List D → Prop} (h : R ns ds) : IsIns C (.ins C ns ds) R := ⟨ns, ds, rfl, h⟩
section
variable {K : K'} {H0 : Hp} {L0 : List Addr} {δ : DS} {R : D → Prop} {ta tb tc te : TE} {t u : TT} {s s' : TS} {P : Post}
theorem ye_andV (h : XE K H0 L0 ta δ fun x => IsBl x fun c => Br c (XE K H0 L0 tb δ R) (R (.bl false))) : XE K H0 L0 (tAndV ta tb) δ R := xe_andV h
theorem ye_orV (h : XE K H0 L0 ta δ fun x => IsBl x fun c => Br c (R (.bl true)) (XE K H0 L0 tb δ R)) : XE K H0 L0 (tOrV ta tb) δ R := xe_orV h
theorem ye_notV (h : XE K H0 L0 ta δ fun x => IsBl x fun c => R (.bl (!c))) : XE K H0 L0 (tNotV ta) δ R := xe_notV h
theorem ye_if (h : XT K H0 L0 t δ fun b => Br b (XE K H0 L0 ta δ R) (XE K H0 L0 tb δ R)) : XE K H0 L0 (tIf t ta tb) δ R := xe_if h
theorem yt_test {R : Bool → Prop} (h : XE K H0 L0 te δ fun x => IsBl x R) : XT K H0 L0 (tTest te) δ R := xt_test h
theorem yt_B {R : Bool → Prop} (h : XE K H0 L0 te δ fun x => IsBl x R) : XT K H0 L0 (tB te) δ R := xt_B h
theorem yt_and {R : Bool → Prop} (h : XT K H0 L0 t δ fun b => Br b (XT K H0 L0 u δ R) (R false)) : XT K H0 L0 (tAnd t u) δ R := xt_and h
theorem yt_or {R : Bool → Prop} (h : XT K H0 L0 t δ fun b => Br b (R true) (XT K H0 L0 u δ R)) : XT K H0 L0 (tOr t u) δ R := xt_or h
theorem yt_truth {R : Bool → Prop} (h : XE K H0 L0 te δ fun x => IsTru x R) : XT K H0 L0 (tTruth K te) δ R := xt_truth h
theorem ye_tup {ts : TA} (h : XA K H0 L0 ts δ fun ds => Sml ds.length (R (.tup ds))) : XE K H0 L0 (tTup ts) δ R := xe_tup h
theorem ye_lst {ts : TA} (h : XA K H0 L0 ts δ fun ds => Sml ds.length (R (.lst ds))) : XE K H0 L0 (tLst ts) δ R := xe_lst h
theorem yo_some {R : Option Int → Prop} (h : XE K H0 L0 te δ fun x => IsInt x fun i => R (some i)) : XO K H0 L0 (tPart te) δ R := xo_some h
theorem ye_fld {f : Str} {C : Addr} (hc : Cls K C) (hn : NoAttr K C f) (h : XE K H0 L0 te δ fun x => IsIns C x fun ns ds => ∃ d, fldD ns ds f = some d ∧ R d) : XE K H0 L0 (tFld K te f) δ R :=
  xe_fld hc hn (h.imp fun _ ⟨ns, ds, e, d, e2, r⟩ => ⟨ns, ds, d, e, e2, r⟩)
theorem ys_if (h : XT K H0 L0 t δ fun b => Br b (XS K H0 L0 s δ P) (XS K H0 L0 s' δ P)) : XS K H0 L0 (tIfS t s s') δ P := xs_if h
theorem ye_chain {r r' : R2} (h : XE K H0 L0 ta δ fun x => XE K H0 L0 tb δ fun y => XR K r x y fun z => IsBl z fun c => Br c (XE K H0 L0 tc δ fun w => XR K r' y w R) (R (.bl false))) : XE K H0 L0 (tChain r r' ta tb tc) δ R := fun σ H L rl Q q =>
  h σ H L rl _ fun v H2 x e2 dx hx => hx σ H2 L (rl.mono e2) _ fun w H3 y e3 dy hy => by
    have r3 := (rl.mono e2).mono e3
    refine hy H3 (L0 ++ L) v w r3.lv (dx.mono (hid_mono e3)) dy _ fun z H4 d e4 dz ⟨c, ed, h1, h2⟩ => ?_
    subst ed
    cases dz
    refine ⟨c, rfl, ?_⟩
    have r4 := r3.mono e4
    cases c with
    | true =>
      refine h1 rfl σ H4 L r4 _ fun w2 H5 y2 e5 dy2 hy2 => ?_
      exact hy2 H5 (L0 ++ L) w w2 (r4.mono e5).lv (dy.mono (hid_mono (e4.trans e5))) dy2 Q fun z H6 d e6 dz hd => q z H6 d ((((e2.trans e3).trans e4).trans e5).trans e6) dz hd
    | false => exact q _ H4 _ ((e2.trans e3).trans e4) (.bl false) (h2 rfl)
theorem yi_any {R : List D → Prop} (h : XE K H0 L0 te δ fun x => IsSeq x R) : XI K H0 L0 (iAny K te) δ R := fun σ H L rl Q q =>
  h σ H L rl _ fun v H2 x e dv ⟨ds, ex, hr⟩ => by
    rcases ex with rfl | rfl
    · obtain ⟨a, vs, rfl, h1, h2⟩ := dv_seq dv
      exact ⟨a, rfl, .inl ⟨⟨vs, sq_mono (hid_same _ _) h1⟩, q _ H2 ds e (walkD_list h1 h2) hr⟩⟩
    · obtain ⟨a, vs, rfl, h1, h2⟩ := dv_tup dv
      exact ⟨a, rfl, .inr ⟨⟨vs, st_mono (hid_same _ _) h1⟩, q _ H2 ds e (walkD_tup h1 h2) hr⟩⟩
def IsRng (xs : List D) (R : List D → Prop) : Prop := ∃ j : Int, xs = [.int j] ∧ (0 ≤ j ∧ j ≤ 1000000) ∧ R (rngD 0 j.toNat)
theorem isRng {j : Int} {R : List D → Prop} (h0 : 0 ≤ j ∧ j ≤ 1000000) (h : R (rngD 0 j.toNat)) : IsRng [.int j] R := ⟨j, rfl, h0, h⟩
theorem yi_rng1 {R : List D → Prop} {ta : TA} (h : XA K H0 L0 ta δ fun ds => IsRng ds R) : XI K H0 L0 (iRng1 ta) δ R := xi_rng1 fun σ H L rl Q q => h σ H L rl Q fun vs H2 ds e dv ⟨j, e1, ⟨e2, e3⟩, r⟩ => q vs H2 ds e dv ⟨j, e1, by omega, by omega, r⟩
def IsSeq1 (xs : List D) (R : List D → Prop) : Prop := ∃ ds, (xs = [.lst ds] ∨ xs = [.tup ds]) ∧ R ds
theorem isSeq1_l {ds : List D} {R : List D → Prop} (h : R ds) : IsSeq1 [.lst ds] R := ⟨ds, .inl rfl, h⟩
theorem isSeq1_t {ds : List D} {R : List D → Prop} (h : R ds) : IsSeq1 [.tup ds] R := ⟨ds, .inr rfl, h⟩
theorem yi_enum {ta : TA} {R : List D → Prop} (h : XA K H0 L0 ta δ fun xs => IsSeq1 xs fun ds => R (enumD 0 ds)) : XI K H0 L0 (iEnumA K ta) δ R := fun σ H L rl Q q =>
  h σ H L rl _ fun vs H2 x e dv ⟨ds, ex, hr⟩ => by
    rcases ex with rfl | rfl
    · obtain ⟨v, rfl, hv⟩ := dv.one
      obtain ⟨a, vs, rfl, h1, h2⟩ := dv_seq hv
      exact ⟨a, vs, true, rfl, sq_mono (hid_same _ _) h1, q _ H2 _ e (walkD_enum (b := true) h1 h2) hr⟩
    · obtain ⟨v, rfl, hv⟩ := dv.one
      obtain ⟨a, vs, rfl, h1, h2⟩ := dv_tup hv
      exact ⟨a, vs, false, rfl, st_mono (hid_same _ _) h1, q _ H2 _ e (walkD_enum (b := false) h1 h2) hr⟩
theorem ys_par {i j : Nat} {ta : TA} (h : XA K H0 L0 ta δ fun ds => match ds with | [d, e] => P.nx ((δ.set i (some (.sh d))).set j (some (.sh e))) | _ => False) : XS K H0 L0 (tPar i j ta) δ P :=
  xs_par fun σ H L rl Q q => h σ H L rl Q fun vs H2 ds e dv hx => by
    match ds, hx, dv with
    | [d, e'], hx, dv => exact q vs H2 _ e dv ⟨d, e', rfl, hx⟩
/-- += of an int -/
theorem xs_aug {i : Nat} {f : Int → Int → Int} {a : Int} (h0 : δ[i]? = some (some (.sh (.int a)))) (h : XE K H0 L0 te δ fun x => IsInt x fun b => P.nx (δ.set i (some (.sh (.int (f a b)))))) : XS K H0 L0 (tAug i te (ipI f)) δ P := fun σ H L rl Dd n r b c => by
  obtain ⟨v, e1, dv⟩ := rl.sh i _ h0
  cases dv
  refine ⟨_, e1, ?_⟩
  refine h σ H L rl _ fun w H2 d e dw ⟨k, ek, hk⟩ => ?_
  subst ek
  cases dw
  exact ⟨a, k, rfl, rfl, n _ _ L _ ((rl.mono e).set (.int _)) hk⟩
theorem ye_methE {W : WP} {ts : TA} {C : Addr} {m : Str} (h : XE K H0 L0 te δ fun x => IsIns C x fun ns os => m ∉ ns ∧ XA K H0 L0 ts δ fun ds => W (.ins C ns os :: ds) R noX) : XE K H0 L0 (tMeth C m (spD K W) [] E0 te ts) δ R :=
  xe_meth0 (h.imp fun x ⟨ns, os, e, h1, h2⟩ => ⟨ns, os, e, h1, by rw [e]; exact h2⟩)
end
end Cu

/-! sorted, min, dict, isinstance, list(dict), comprehensions by a relation, __init__ -/
namespace Cu
open PySem PySem.Spec L2
section
variable {K : K'} {H : Hp} {X : Cx} {pins : List (Addr × Obj)} {σ : L2.St} {s : Shared}
theorem dva_each : ∀ {vs : List V} {us : List Value} {ds : List D}, Vals vs us → DvA K H vs ds → W.EachIs (fun u d => ∃ v, RelV v u ∧ Dv K H v d) us ds
  | _, _, _, .nil, h => by cases h; exact .nil
  | _, _, _, .cons r rr, h => by
    cases h with
    | cons h1 h2 => exact .cons ⟨_, r, h1⟩ (dva_each rr h2)
theorem each_dva : ∀ {us : List Value} {ds : List D}, W.EachIs (fun u d => ∃ v, RelV v u ∧ Dv K H v d) us ds → ∃ vs, Vals vs us ∧ DvA K H vs ds
  | _, _, .nil => ⟨[], .nil, .nil⟩
  | _, _, .cons ⟨v, h1, h2⟩ r => by
    obtain ⟨vs, q1, q2⟩ := each_dva r
    exact ⟨v :: vs, .cons h1 q1, .cons h2 q2⟩
theorem each_reads (I : Inv X pins σ H s) : ∀ {us : List Value} {ds : List D}, W.EachIs (fun u d => ∃ v, RelV v u ∧ Dv X.K H v d) us ds → plns ds = true → W.EachIs (fun u d => ∃ as, Reads s.heap u (toP d) as) us ds
  | _, _, .nil, _ => .nil
  | _, d :: ds, .cons ⟨v, h1, h2⟩ r, p => by
    have q : pln d = true ∧ plns ds = true := by simpa [plns] using p
    exact .cons (Dp.reads I _ v _ (h2.dp q.1) h1) (each_reads I r q.2)
theorem toPs_map : ∀ ds : List D, toPs ds = ds.map toP
  | [] => rfl
  | d :: ds => by rw [toPs, List.map_cons, toPs_map ds]
end
/-! ### sorted -/
def sortD (ds : List D) : List D := ds.mergeSort (W.dataLe false toP)
def rSortD (K : K') : List V → Hp → VK → Prop := fun xs H Q => ∃ G a vs ds, Same G H ∧ xs = [.ref a] ∧ SqL K H a vs ∧ DvA K G vs ds ∧ plns ds = true ∧ W.AllAlike (ds.map toP) ∧ W.Sortable (ds.map toP) ∧ (∀ d ∈ ds, (toP d).depth ≤ 60) ∧
  ∀ p out, H p = none → DvA K G out (sortD ds) → Q (.ref p) (upd H p (.lst out))
theorem cl_sortD {X : Cx} (hu : X.A.units + 65 < cLine) : CallR X (.builtin "sorted") (rSortD X.K) := by
  intro pins s σ H xs us Q I rr h
  obtain ⟨G, a, vs, ds, hG, rfl, hq, hd, hp, hal, hso, hdep, q⟩ := h
  cases rr with
  | cons r rr =>
  cases rr
  cases r
  obtain ⟨its, rv, p, hl⟩ := I.list hq
  refine W.sorted_data (vs := its) (bs := ds) (enc := toP) (R := fun u d => ∃ v, RelV v u ∧ Dv X.K G v d) p.isList (dva_each rv hd) (each_reads I (dva_each rv (hd.mono hG)) hp) hal hso (by rw [← hd.length]; exact hl) (fun b hb => by have := hdep b hb; omega) fun out ho he => ?_
  obtain ⟨ws, rw1, dw⟩ := each_dva he
  obtain ⟨e, hat⟩ := PyProof.Rows.sortedAll_at s.heap its out.toArray
  have hle : ws.length ≤ sizeLine := by
    have h1 : ws.length = ds.length := by rw [dw.length, List.length_mergeSort]
    rw [h1, ← hd.length]; exact hl
  have new : ObjOk X.prog X.w (upd H (s.heap.objs.size + 1) (.lst ws)) (PyProof.Rows.sortedAll s.heap its out.toArray) (s.heap.objs.size + 1) (.lst ws) := ⟨hle, out, _, rw1, hat⟩
  exact ⟨.ref _, _, I.laid (t' := s.toks) (fun b u z => PyProof.Rows.sortedAll_old z) (Nat.le_add_right _ _) new, rfl, q _ ws (I.hok.fresh (Nat.le_add_right _ _)) dw⟩
/-! ### min of data -/
def rMinDt (K : K') : List V → Hp → VK → Prop := fun xs H Q => ∃ G a vs d ds, Same G H ∧ xs = [.ref a] ∧ SqL K H a vs ∧ DvA K G vs (d :: ds) ∧ plns (d :: ds) = true ∧ W.AlikeAll (toPs (d :: ds)) ∧ PyData.depthAll (toPs (d :: ds)) ≤ 60 ∧
  ∀ v e, e ∈ d :: ds → toP e = W.minD (toP d) (toPs ds) → Dv K G v e → Q v H
theorem each_get {α β : Type} {F : α → β → Prop} : ∀ {us : List α} {ds : List β}, W.EachIs F us ds → ∀ {i : Nat} {u : α}, us[i]? = some u → ∃ d, ds[i]? = some d ∧ F u d
  | _, _, .nil, i, u, e => by simp at e
  | _, _, .cons h r, 0, u, e => by
    have : _ = u := Option.some.inj e
    subst this
    exact ⟨_, rfl, h⟩
  | _, _, .cons h r, i + 1, u, e => by
    obtain ⟨v, h1, h2⟩ := each_get r (i := i) (u := u) (by simpa using e)
    exact ⟨v, by simpa using h1, h2⟩
theorem cl_minDt {X : Cx} (hc : X.calm = true) (hu : X.A.units + 65 < cLine) : CallR X (.builtin "min") (rMinDt X.K) := by
  intro pins s σ H xs us Q I rr h
  obtain ⟨G, a, vs, d, ds, hG, rfl, hq, hd, hp, hal, hdep, q⟩ := h
  cases rr with
  | cons r rr =>
  cases rr
  cases r
  obtain ⟨its, rv, p, hl⟩ := I.list hq
  have er := each_reads I (dva_each rv (hd.mono hG)) hp
  obtain ⟨as, hr⟩ := W.each_readsAll toP er
  rw [← toPs_map] at hr
  have hdep' : PyData.depthAll (toP d :: toPs ds) ≤ 60 := by simpa [toPs] using hdep
  refine W.min_list_data (vs := its.toArray) (x := toP d) (xs := toPs ds) (as := as) (I.ok.hd hc) p.isList (by simpa [toPs] using hr) (by simpa [toPs] using hal) (by omega) fun i v h' tk bs hv hrd hk => ?_
  have hv' : its[i]? = some v := by simpa using hv
  obtain ⟨e, he, w, rw1, dw⟩ := each_get (dva_each rv hd) hv'
  obtain ⟨e', he', as', hre⟩ := each_get er hv'
  rw [he] at he'
  cases he'
  have hre2 : Reads h' v (toP e) as' := W.reads_keeps hk hre
  exact ⟨w, H, I.kept (t' := tk) hk, rw1, q w e (List.mem_of_getElem? he) (hre2.unique _ _ hrd).1 dw⟩
/-- pairs of whole numbers -/
abbrev pairD (p : Int × Int) : D := .tup [.int p.1, .int p.2]
theorem toP_pair (p : Int × Int) : toP (pairD p) = .tuple [.int p.1, .int p.2] := by simp only [pairD, toP, toPs]
theorem pair_pln : ∀ ps : List (Int × Int), plns (ps.map pairD) = true
  | [] => by simp [plns]
  | p :: ps => by simp [plns, pair_pln ps, pairD, pln]
theorem pair_okD (p : Int × Int) : okD (pairD p) = true := okD_of (by simp [pairD, cmpD, cmpDs]) (by simp [pairD, depD, depDs])
theorem depDs_pairs : ∀ ps : List (Int × Int), depDs (ps.map pairD) ≤ 1
  | [] => by simp [depDs]
  | p :: ps => by
    have ih := depDs_pairs ps
    have e : depD (pairD p) = 1 := by simp [pairD, depD, depDs]
    rw [List.map_cons, depDs, e]
    omega
theorem pairs_okL (ps : List (Int × Int)) : okD (.lst (ps.map pairD)) = true := by
  refine okD_of ?_ ?_
  · simp only [cmpD]
    induction ps with
    | nil => simp [cmpDs]
    | cons p ps ih => simp [cmpDs, ih, pairD, cmpD]
  · simp only [depD]
    have := depDs_pairs ps
    omega
theorem pair_alike (a b : PyData) (c d : PyData) (h1 : W.alike a c = true) (h2 : W.alike b d = true) : W.alike (.tuple [a, b]) (.tuple [c, d]) = true := by
  show W.alikeAll [a, b] [c, d] = true
  show (W.alike a c && (W.alike b d && true)) = true
  rw [h1, h2]; rfl
theorem ints_alike (a c : Int) : W.alike (.int a) (.int c) = true := rfl
theorem pair_allAlike (ps : List (Int × Int)) : W.AllAlike ((ps.map pairD).map toP) := by
  intro d hd d' hd'
  rw [List.map_map] at hd hd'
  obtain ⟨p, _, rfl⟩ := List.mem_map.mp hd
  obtain ⟨q, _, rfl⟩ := List.mem_map.mp hd'
  simp only [Function.comp, toP_pair]
  exact pair_alike _ _ _ _ (ints_alike _ _) (ints_alike _ _)
def leP (p q : Int × Int) : Bool := W.dataLe false toP (pairD p) (pairD q)
theorem sortD_pair (ps : List (Int × Int)) : sortD (ps.map pairD) = (ps.mergeSort leP).map pairD := by
  unfold sortD
  rw [List.map_mergeSort]
  intro a _ b _
  rfl
section
variable {K : K'} {R : D → Prop}
theorem xc_sortP {ps : List (Int × Int)} (k : ∀ qs : List (Int × Int), qs.Perm ps → R (.lst (qs.map pairD))) : XC K (rSortD K) [.lst (ps.map pairD)] R := fun H L vs lv dv Q q => by
  obtain ⟨v, rfl, h⟩ := dv.one
  obtain ⟨a, xs, rfl, h1, h2⟩ := dv_seq h
  refine ⟨hid L H, a, xs, _, hid_same _ _, rfl, sq_mono (hid_same _ _) h1, h2, pair_pln ps, pair_allAlike ps, ?_, ?_, fun p out hp ho => ?_⟩
  · refine .inl fun d hd => ?_
    rw [List.map_map] at hd
    obtain ⟨p, _, rfl⟩ := List.mem_map.mp hd
    exact ⟨_, _, toP_pair p⟩
  · intro d hd
    obtain ⟨p, _, rfl⟩ := List.mem_map.mp hd
    have := dep_toP (d := pairD p)
    simp [pairD, depD, depDs] at this
    simp only [pairD]
    omega
  · rw [sortD_pair] at ho
    refine q _ _ (.lst ((ps.mergeSort leP).map pairD)) (same_upd hp) (new_lst lv hp ho) (k _ (List.mergeSort_perm _ _))
/-- the least of pairs: by the first, then by the second -/
theorem xc_minP {ps : List (Int × Int)} (h0 : ps ≠ []) (k : ∀ m, m ∈ ps → (∀ y ∈ ps, m.1 < y.1 ∨ m.1 = y.1 ∧ m.2 ≤ y.2) → R (pairD m)) : XC K (rMinDt K) [.lst (ps.map pairD)] R := fun H L vs lv dv Q q => by
  obtain ⟨v, rfl, h⟩ := dv.one
  obtain ⟨a, xs, rfl, h1, h2⟩ := dv_seq h
  cases ps with
  | nil => exact absurd rfl h0
  | cons p ps =>
    rw [List.map_cons] at h2
    refine ⟨hid L H, a, xs, _, _, hid_same _ _, rfl, sq_mono (hid_same _ _) h1, h2, by rw [← List.map_cons]; exact pair_pln (p :: ps), ?_, ?_, fun v e he hm hv => ?_⟩
    · rw [← List.map_cons, toPs_map]
      refine ⟨pair_allAlike (p :: ps), fun x hx => ?_⟩
      rw [List.map_map] at hx
      obtain ⟨q, _, rfl⟩ := List.mem_map.mp hx
      simp only [Function.comp, toP_pair]
      intro z; cases z
    · have e1 := dep_toPs (ds := pairD p :: ps.map pairD)
      have : depDs (pairD p :: ps.map pairD) ≤ 1 := by rw [← List.map_cons]; exact depDs_pairs (p :: ps)
      omega
    · rw [← List.map_cons] at he
      obtain ⟨m, hmem, rfl⟩ := List.mem_map.mp he
      refine q v H _ (Same.refl H) hv (k m hmem ?_)
      have inj : ∀ a b : Int × Int, toP (pairD a) = toP (pairD b) → a = b := fun a b z => by
        rw [toP_pair, toP_pair] at z
        cases a; cases b
        cases z
        rfl
      have lt : ∀ a b : Int × Int, W.dataLt (toP (pairD a)) (toP (pairD b)) = decide (a.1 < b.1 ∨ a.1 = b.1 ∧ a.2 < b.2) := fun a b => by rw [toP_pair, toP_pair, W.dataLt_ii]
      have key : ∀ (qs : List (Int × Int)) (a : Int × Int), ∃ m, W.minD (toP (pairD a)) (toPs (qs.map pairD)) = toP (pairD m) ∧ ∀ y ∈ a :: qs, m.1 < y.1 ∨ m.1 = y.1 ∧ m.2 ≤ y.2 := by
        intro qs
        induction qs with
        | nil => exact fun a => ⟨a, rfl, fun y hy => by rw [List.mem_singleton.mp hy]; exact .inr ⟨rfl, Int.le_refl _⟩⟩
        | cons b qs ih =>
          intro a
          have e : W.minD (toP (pairD a)) (toPs ((b :: qs).map pairD)) = W.minD (if W.dataLt (toP (pairD b)) (toP (pairD a)) = true then toP (pairD b) else toP (pairD a)) (toPs (qs.map pairD)) := rfl
          rw [e, lt]
          by_cases c : b.1 < a.1 ∨ b.1 = a.1 ∧ b.2 < a.2
          · rw [if_pos (by simpa using c)]
            obtain ⟨m, e1, e2⟩ := ih b
            refine ⟨m, e1, fun y hy => ?_⟩
            rcases List.mem_cons.mp hy with rfl | hy
            · have := e2 b List.mem_cons_self
              omega
            · exact e2 y hy
          · rw [if_neg (by simpa using c)]
            obtain ⟨m, e1, e2⟩ := ih a
            refine ⟨m, e1, fun y hy => ?_⟩
            rcases List.mem_cons.mp hy with rfl | hy
            · exact e2 y List.mem_cons_self
            · rcases List.mem_cons.mp hy with rfl | hy
              · have := e2 a List.mem_cons_self
                omega
              · exact e2 y (List.mem_cons_of_mem _ hy)
      obtain ⟨m', e1, e2⟩ := key ps p
      rw [e1] at hm
      rw [inj m m' hm]
      exact e2
end
end Cu

/-! dicts, isinstance, comprehensions by a relation, __init__ -/
namespace Cu
open PySem PySem.Spec L2
section
variable {K : K'} {H0 : Hp} {L0 : List Addr} {δ : DS} {R : D → Prop} {P : Post} {X : Cx} {ta tb te : TE} {ts : TA}
/-! ### dict(pairs), d[k] -/
def rDictA (K : K') : List V → Hp → VK → Prop := fun xs H Q => ∃ (a : Addr) (ps : List Addr) (kvs : List (Key × V)), xs = [.ref a] ∧ SqL K H a (ps.map V.ref) ∧ Paired (fun p kv => SqT K H p [kV kv.1, kv.2]) ps kvs ∧ ∀ p, H p = none → Q (.ref p) (upd H p (.dK (mergeK [] kvs)))
theorem cl_dict (hc : X.calm = true) : CallR X (.type "dict") (rDictA X.K) := call_dictP hc
abbrev kvD (p : Str × Int) : D := .tup [.str p.1, .int p.2]
theorem dict_pairs {H : Hp} : ∀ {vs : List V} {ps : List (Str × Int)}, DvA K H vs (ps.map kvD) → ∃ as : List Addr, vs = as.map V.ref ∧ Paired (fun p kv => SqT K H p [kV kv.1, kv.2]) as (ps.map fun p => ((Sum.inr p.1 : Key), V.int p.2))
  | _, [], .nil => ⟨[], rfl, .nil⟩
  | _, p :: ps, .cons h r => by
    obtain ⟨as, rfl, q⟩ := dict_pairs r
    obtain ⟨a, xs, rfl, h1, h2⟩ := dv_tup h
    obtain ⟨v, u, rfl, hv, hu⟩ := h2.two
    cases hv
    cases hu
    exact ⟨a :: as, rfl, .cons h1 q⟩
theorem st_paired {H H' : Hp} (e : Same H H') {as : List Addr} {kvs : List (Key × V)} (h : Paired (fun p kv => SqT K H p [kV kv.1, kv.2]) as kvs) : Paired (fun p kv => SqT K H' p [kV kv.1, kv.2]) as kvs := by
  induction h with
  | nil => exact .nil
  | cons h _ ih => exact .cons (st_mono e h) ih
theorem xc_dict {ps : List (Str × Int)} (k : R (.dct (mergeK [] (ps.map fun p => ((Sum.inr p.1 : Key), V.int p.2))))) : XC K (rDictA K) [.lst (ps.map kvD)] R := fun H L vs lv dv Q q => by
  obtain ⟨v, rfl, h⟩ := dv.one
  obtain ⟨a, xs, rfl, h1, h2⟩ := dv_seq h
  obtain ⟨as, rfl, h3⟩ := dict_pairs h2
  refine ⟨a, as, _, rfl, sq_mono (hid_same _ _) h1, st_paired (hid_same _ _) h3, fun p hp => q _ _ _ (same_upd hp) ?_ k⟩
  rw [hid_upd_out (lv.fresh hp)]
  exact .dct upd_same
def keyD : D → Option Key
  | .int i => some (Sum.inl i)
  | .str s => some (Sum.inr s)
  | _ => none
theorem keyD_kV {H : Hp} {v : V} {d : D} {k : Key} (h : Dv K H v d) (e : keyD d = some k) : v = kV k := by
  cases h <;> cases e <;> rfl
theorem xe_dget (h : XE K H0 L0 ta δ fun x => XE K H0 L0 tb δ fun y => ∃ kvs k v d, x = .dct kvs ∧ keyD y = some k ∧ valV kvs k = some v ∧ (∀ H, Dv K H v d) ∧ R d) : XE K H0 L0 (tDGet ta tb) δ R := fun σ H L rl Q q =>
  h σ H L rl _ fun v H2 x e2 dx hx => hx σ H2 L (rl.mono e2) _ fun w H3 y e3 dy ⟨kvs, k, u, d, ex, ey, eu, hu, hr⟩ => by
    subst ex
    cases dx with
    | dct hd =>
      have hd3 := e3 _ _ (hid_at hd).2
      exact ⟨_, u, rfl, .inl ⟨kvs, k, .inl hd3, keyD_kV dy ey, eu.symm⟩, q u H3 d (e2.trans e3) (hu _) hr⟩
/-! ### a dict with tuple keys of one's own -/
def kD : Key → D
  | .inl i => .int i
  | .inr s => .str s
theorem kDs_kV {H : Hp} : ∀ {vs : List V} {ns : List Key}, DvA K H vs (ns.map kD) → vs = ns.map kV
  | _, [], .nil => rfl
  | _, n :: ns, .cons h r => by
    rw [kDs_kV r]
    cases n with
    | inl i => cases h; rfl
    | inr s => cases h; rfl
theorem kV_dv (H : Hp) : ∀ ns : List Key, DvA K H (ns.map kV) (ns.map kD)
  | [] => .nil
  | .inl i :: ns => .cons (.int i) (kV_dv H ns)
  | .inr s :: ns => .cons (.str s) (kV_dv H ns)
def addK (ks : List (List Key)) (n : List Key) : List (List Key) := if ks.any (fun k => decide (k = n)) = true then ks else ks ++ [n]
theorem putK_keys (kvs : List (List Key × V)) (n : List Key) (v : V) : (putK kvs n v).map (·.1) = addK (kvs.map (·.1)) n := by
  unfold putK addK
  rw [List.any_map]
  simp only [Function.comp_def]
  by_cases h : (kvs.any fun kv => decide (kv.1 = n)) = true
  · rw [if_pos h, if_pos h, List.map_map]
    apply List.map_congr_left
    intro a _
    simp only [Function.comp]
    split <;> rfl
  · rw [if_neg h, if_neg h, List.map_append]
    rfl
/-- found[e1, e2] = e -/
theorem xs_dputT {i : Nat} {ks : List (List Key)} (h0 : δ[i]? = some (some (.od ks))) (hl : ks.length < 100000) (h : XE K H0 L0 te δ fun _ => XA K H0 L0 ts δ fun ds => ∃ ns : List Key, ds = ns.map kD ∧ ds.length ≤ 100000 ∧ P.nx (δ.set i (some (.od (addK ks ns))))) :
    XS K H0 L0 (sDPut (tVar i) (tTup ts) te) δ P := fun σ H L rl Dd n r b c =>
  h σ H L rl _ fun v H2 x e2 dx hx => by
    have r2 := rl.mono e2
    obtain ⟨l, kvs, e1, e3, e4, e5⟩ := r2.od i ks h0
    refine ⟨.ref l, e1, ?_⟩
    refine hx σ H2 L r2 _ fun vs H3 ds e6 dvs ⟨ns, ed, hlen, hr⟩ => ⟨sz100 (by rw [dvs.length]; exact hlen), fun p hp => ?_⟩
    subst ed
    have r3 := (r2.mono e6).mono (same_upd (o := .tup vs) hp)
    have hd : upd H3 p (.tup vs) l = some (.dT kvs) := (e6.trans (same_upd hp)) _ _ e4
    refine ⟨l, _, rfl, .inr ⟨kvs, ns, p, hd, rfl, ?_, ?_, rfl⟩, ?_⟩
    · rw [upd_same, kDs_kV dvs]
    · have : kvs.length = ks.length := by rw [← e5, List.length_map]
      rw [this]; exact szlt100 hl
    · refine n _ _ L _ (r3.chg h0 rfl e1 rfl (by rintro _ ⟨⟩) (fun ks' z => ?_) (by rintro _ _ _ _ ⟨⟩)) hr
      cases z
      exact ⟨_, rfl, by rw [putK_keys, e5]⟩
def rLstDT : List V → Hp → VK → Prop := fun xs H Q => ∃ d kvs, xs = [.ref d] ∧ Rd H d (.dT kvs) ∧ ∀ p bs, H p = none → IsKeys H kvs bs → Q (.ref p) (upd H p (.lst (bs.map V.ref)))
theorem cl_lstDT (hc : X.calm = true) : CallR X (.type "list") rLstDT := call_list_dT hc
theorem keys_dva {H : Hp} {L : List Addr} (lv : Lv L H) {kvs : List (List Key × V)} {bs : List Addr} (h : IsKeys H kvs bs) : DvA K (hid L H) (bs.map V.ref) ((kvs.map (·.1)).map fun ns => .tup (ns.map kD)) := by
  unfold IsKeys at h
  induction h with
  | nil => exact .nil
  | @cons a b _ _ h _ ih =>
    refine .cons (.tup (SqT.of ?_) (kV_dv _ _)) ih
    unfold hid
    rw [if_neg, h]
    intro z
    have := lv _ z
    rw [h] at this
    exact this
theorem xe_lstDT {i : Nat} {ks : List (List Key)} (h0 : δ[i]? = some (some (.od ks))) (k : R (.lst (ks.map fun ns => .tup (ns.map kD)))) : XE K H0 L0 (tCB rLstDT (tCons (tVar i) tNil)) δ R := fun σ H L rl Q q => by
  obtain ⟨l, kvs, e1, e3, e4, e5⟩ := rl.od i ks h0
  refine ⟨.ref l, e1, l, kvs, rfl, .inl e4, fun p bs hp hk => q _ _ (.lst (ks.map fun ns => .tup (ns.map kD))) (same_upd hp) (new_lst rl.lv hp ?_) k⟩
  rw [← e5]
  exact keys_dva rl.lv hk
/-! ### isinstance -/
theorem xe_isTL (h : XE K H0 L0 te δ fun x => ∃ ds, x = .tup ds ∧ R (.bl true)) : XE K H0 L0 (tIsTL K te) δ R := fun σ H L rl Q q =>
  h σ H L rl _ fun v H2 x e2 dx ⟨ds, ex, hr⟩ => by
    subst ex
    obtain ⟨a, vs, rfl, h1, h2⟩ := dv_tup dx
    exact ⟨⟨a, vs, rfl, st_mono (hid_same _ _) h1⟩, fun T hT => q _ _ _ (e2.trans (same_upd hT)) (.bl true) hr⟩
def rIsA (K : K') : List V → Hp → VK → Prop := rIsi K
theorem cl_isi : CallR X (.builtin "isinstance") (rIsA X.K) := call_isi
theorem xc_isInt {i : Int} (k : R (.bl true)) : XC K (rIsA K) [.int i, .ty "int"] R := fun H L vs lv dv Q q => by
  obtain ⟨v, u, rfl, h, h'⟩ := dv.two
  cases h; cases h'
  exact ⟨_, _, _, _, true, rfl, .ty "int", .base (.int i), kit_ty (by decide +kernel), q _ H _ (Same.refl H) (.bl _) k⟩
/-! ### texts -/
def signsD (s : Str) : List D := s.cps.toList.map fun c => .str ⟨#[c]⟩
theorem walkD_str {G : Hp} {s : Str} : WalkD K G (Its s) (signsD s) where
  go := fun i H' hi e => by
    show i < s.cps.size
    simpa [signsD] using hi
  stop := fun H' e => by simp [signsD, Its]
  yld := fun i d H' x H'' L' hd e lv y => by
    obtain ⟨rfl, c, h1, rfl⟩ := y
    have : (s.cps.toList.map fun c => D.str ⟨#[c]⟩)[i]? = some d := hd
    rw [List.getElem?_map] at this
    have h2 : s.cps.toList[i]? = some c := by simpa using h1
    rw [h2] at this
    cases this
    exact ⟨Same.refl _, .str _⟩
def IsStr (x : D) (R : Str → Prop) : Prop := ∃ s, x = .str s ∧ R s
theorem isStr {s : Str} {R : Str → Prop} (h : R s) : IsStr (.str s) R := ⟨s, rfl, h⟩
theorem yi_str {R : List D → Prop} (h : XE K H0 L0 te δ fun x => IsStr x fun s => R (signsD s)) : XI K H0 L0 (iStr te) δ R := fun σ H L rl Q q =>
  h σ H L rl _ fun v H2 x e dv ⟨s, ex, hr⟩ => by
    subst ex
    cases dv
    exact ⟨s, rfl, q _ H2 _ e walkD_str hr⟩
/-! ### comprehensions by a relation -/
theorem xe_lcR {wi : TI} {g : TG} {vs js : List Nat} (hj : ∀ j ∈ js, j ∈ vs) (h : XI K H0 L0 wi δ fun ds => ds.length ≤ 50000 ∧ ∃ Q : Nat → D → D → Prop,
    (∀ G, Same H0 G → ∀ i d, ds[i]? = some d → XG K G L0 js g d (wipeD δ vs) fun δ' => XE K G L0 te δ' (Q i d)) ∧ (∀ ys : List D, ys.length = ds.length → (∀ i d y, ds[i]? = some d → ys[i]? = some y → Q i d y) → R (.lst ys))) : XE K H0 L0 (tLc wi g tYes te vs) δ R :=
  xe_lc hj fun σ H L rl QQ q => h σ H L rl QQ fun J H2 ds e wk ⟨hl, Q, hs, hd⟩ => q J H2 ds e wk ⟨hl, fun i acc => acc.length = i ∧ ∀ k d y, ds[k]? = some d → acc[k]? = some y → Q k d y, ⟨rfl, fun k d y _ z => by simp at z⟩, fun G eG i d acc hid ⟨hlen, hacc⟩ => by
    refine fun σ H L v rl dv Q' q' => hs G eG i d hid σ H L v rl dv Q' fun σ' δ' r' a b he => q' σ' δ' r' a b ?_
    refine xt_yes ⟨fun _ => he.imp fun y hy => ⟨by rw [List.length_append, hlen]; rfl, fun k d' y' hk hy' => ?_⟩, fun z => nomatch z⟩
    by_cases hki : k < acc.length
    · rw [List.getElem?_append_left hki] at hy'
      exact hacc k d' y' hk hy'
    · rw [List.getElem?_append_right (by omega)] at hy'
      have hk0 : k - acc.length = 0 := by
        cases hkk : k - acc.length with
        | zero => rfl
        | succ m => rw [hkk] at hy'; simp at hy'
      rw [hk0] at hy'
      have hki2 : k = i := by omega
      subst hki2
      rw [hid] at hk
      cases hk
      cases hy'
      exact hy, fun acc _ ⟨hlen, hacc⟩ => hd acc hlen hacc⟩
/-- by functions: the items a x, the new ones b x -/
theorem xe_lcF {α : Type} {wi : TI} {g : TG} {vs js : List Nat} (hj : ∀ j ∈ js, j ∈ vs) (h : XI K H0 L0 wi δ fun ds => ∃ (xs : List α) (a b : α → D), ds = xs.map a ∧ xs.length ≤ 50000 ∧
    (∀ G, Same H0 G → ∀ (i : Nat) (x : α), xs[i]? = some x → XG K G L0 js g (a x) (wipeD δ vs) fun δ' => XE K G L0 te δ' fun y => y = b x) ∧ R (.lst (xs.map b))) : XE K H0 L0 (tLc wi g tYes te vs) δ R :=
  xe_lcR hj fun σ H L rl QQ q => h σ H L rl QQ fun J H2 ds e wk ⟨xs, a, b, hds, hl, hs, hr⟩ => q J H2 ds e wk ⟨by rw [hds, List.length_map]; exact hl, fun i d y => ∃ x, xs[i]? = some x ∧ d = a x ∧ y = b x, fun G eG i d hi => by
    rw [hds, List.getElem?_map] at hi
    cases hx : xs[i]? with
    | none => rw [hx] at hi; cases hi
    | some x =>
      rw [hx] at hi
      cases hi
      refine fun σ H L v rl dv Q' q' => hs G eG i x hx σ H L v rl dv Q' fun σ' δ' r' a1 b1 he => q' σ' δ' r' a1 b1 ?_
      exact he.imp fun y hy => ⟨x, hx, rfl, hy⟩, fun ys hlen hys => by
    have : ys = xs.map b := by
      apply List.ext_getElem?
      intro i
      rw [List.getElem?_map]
      by_cases hi : i < xs.length
      · obtain ⟨x, hx⟩ : ∃ x, xs[i]? = some x := ⟨xs[i], by simp [hi]⟩
        obtain ⟨y, hy⟩ : ∃ y, ys[i]? = some y := by
          have : i < ys.length := by rw [hlen, hds, List.length_map]; exact hi
          exact ⟨ys[i], by simp [this]⟩
        obtain ⟨x', h1, h2, h3⟩ := hys i (a x) y (by rw [hds, List.getElem?_map, hx]; rfl) hy
        rw [hx] at h1
        cases h1
        rw [hx, hy, h3]
        rfl
      · have h1 : ys[i]? = none := List.getElem?_eq_none (by rw [hlen, hds, List.length_map]; omega)
        have h2 : xs[i]? = none := List.getElem?_eq_none (by omega)
        rw [h1, h2]
        rfl
    rw [this]
    exact hr⟩
/-- with a test -/
theorem xe_lcFt {α : Type} {wi : TI} {g : TG} {tt : TT} {vs js : List Nat} (hj : ∀ j ∈ js, j ∈ vs) (h : XI K H0 L0 wi δ fun ds => ∃ (xs : List α) (a b : α → D) (p : α → Bool), ds = xs.map a ∧ xs.length ≤ 50000 ∧
    (∀ G, Same H0 G → ∀ (i : Nat) (x : α), xs[i]? = some x → XG K G L0 js g (a x) (wipeD δ vs) fun δ' => XT K G L0 tt δ' fun c => c = p x ∧ (c = true → XE K G L0 te δ' fun y => y = b x)) ∧ R (.lst ((xs.filter p).map b))) : XE K H0 L0 (tLc wi g tt te vs) δ R :=
  xe_lc hj fun σ H L rl QQ q => h σ H L rl QQ fun J H2 ds e wk ⟨xs, a, b, p, hds, hl, hs, hr⟩ => q J H2 ds e wk ⟨by rw [hds, List.length_map]; exact hl, fun i acc => acc = ((xs.take i).filter p).map b, rfl, fun G eG i d acc hi hacc => by
    rw [hds, List.getElem?_map] at hi
    cases hx : xs[i]? with
    | none => rw [hx] at hi; cases hi
    | some x =>
      rw [hx] at hi
      cases hi
      have e1 : xs.take (i + 1) = xs.take i ++ [x] := by
        rw [List.take_add_one, hx]
        rfl
      refine fun σ H L v rl dv Q' q' => hs G eG i x hx σ H L v rl dv Q' fun σ' δ' r' a1 b1 he => q' σ' δ' r' a1 b1 ?_
      refine he.imp fun c ⟨hc, hy⟩ => ⟨fun ht => (hy ht).imp fun y hyy => ?_, fun hf => ?_⟩
      · show acc ++ [y] = ((xs.take (i + 1)).filter p).map b
        rw [e1, List.filter_append, List.map_append, hacc, hyy, List.filter_cons, if_pos (by rw [← hc]; exact ht)]
        rfl
      · show acc = ((xs.take (i + 1)).filter p).map b
        rw [e1, List.filter_append, List.map_append, hacc, List.filter_cons, if_neg (by rw [← hc, hf]; decide)]
        simp, fun acc _ hacc => by
    have e1 : acc = (xs.filter p).map b := by
      have e2 : acc = ((xs.take ds.length).filter p).map b := hacc
      rw [e2, hds, List.length_map, List.take_length]
    rw [e1]
    exact hr⟩
end
/-! ### __init__ -/
def startI (N : List Str) (x C : Addr) (ds : List D) : DS := some (.oi x C [] []) :: (ds.map (fun d => some (.sh d)) ++ List.replicate (N.length - (ds.length + 1)) none)
theorem startI_get {N : List Str} {x C : Addr} {ds : List D} {i : Nat} {s : SD} (h : (startI N x C ds)[i]? = some (some s)) : (i = 0 ∧ s = .oi x C [] []) ∨ ∃ j d, i = j + 1 ∧ ds[j]? = some d ∧ s = .sh d := by
  cases i with
  | zero => cases h; exact .inl ⟨rfl, rfl⟩
  | succ j =>
    have e : (ds.map (fun d => some (SD.sh d)) ++ List.replicate (N.length - (ds.length + 1)) none)[j]? = some (some s) := h
    by_cases hi : j < ds.length
    · rw [List.getElem?_append_left (by rw [List.length_map]; exact hi), List.getElem?_map] at e
      cases q : ds[j]? with
      | none => rw [q] at e; cases e
      | some d' => rw [q] at e; cases e; exact .inr ⟨j, d', rfl, q, rfl⟩
    · rw [List.getElem?_append_right (by rw [List.length_map]; omega), List.getElem?_replicate] at e
      split at e <;> cases e
theorem startI_rel {K : K'} {H1 : Hp} {L : List Addr} {N : List Str} {vs : List V} {ds : List D} {x dx C : Addr} (h : DvA K (hid L H1) vs ds) (lv : Lv L H1) (hx : H1 x = none) (hdx : H1 dx = none) (ne : dx ≠ x) :
    Rel K H1 L (L2.start N (.ref x :: vs)) (upd (upd H1 dx (.own x)) x (.ins C dx [])) [x] (startI N x C ds) := by
  have sm : Same H1 (upd (upd H1 dx (.own x)) x (.ins C dx [])) := fun a o e => by
    rw [upd_ne (ne_of_none e hx), upd_ne (ne_of_none e hdx)]
    exact e
  have nx : x ∉ L := fun z => (lv x z).ne hx
  have sm2 : Same (hid L H1) (hid (L ++ [x]) (upd (upd H1 dx (.own x)) x (.ins C dx []))) := fun a o e => by
    obtain ⟨n1, e1⟩ := hid_at e
    unfold hid
    rw [if_neg]
    · exact sm _ _ e1
    · simp only [List.mem_append, List.mem_singleton, not_or]
      exact ⟨n1, ne_of_none e1 hx⟩
  have stt : ∀ (j : Nat) (d : D), ds[j]? = some d → ∃ v, (L2.start N (.ref x :: vs))[j + 1]? = some (some v) ∧ Dv K (hid (L ++ [x]) (upd (upd H1 dx (.own x)) x (.ins C dx []))) v d := fun j d e => by
    obtain ⟨v, h1, h2⟩ := h.get e
    refine ⟨v, ?_, h2.mono sm2⟩
    unfold L2.start
    have hj : j < vs.length := (List.getElem?_eq_some_iff.mp h1).1
    rw [List.getElem?_append_left (by rw [List.length_map]; simp only [List.length_cons]; omega), List.map_cons, List.getElem?_cons_succ, List.getElem?_map, h1]
    rfl
  refine ⟨?_, ?_, fun i d e => ?_, fun i v d e => ?_, fun i d e => ?_, fun i d e => ?_, fun i l' C' ns d e => ?_, fun a b s t l nab ha hb hs ht hl => ?_, fun l hl => ?_, fun l hl => ?_⟩
  · unfold L2.start startI
    simp only [List.length_append, List.length_map, List.length_cons, List.length_replicate, h.length]
    omega
  · intro a o e
    unfold hid
    rw [if_neg (by simpa using ne_of_none e hx)]
    exact sm _ _ e
  · rcases startI_get e with ⟨rfl, z⟩ | ⟨j, d', rfl, q, z⟩
    · cases z
    · cases z
      exact stt j d q
  · rcases startI_get e with ⟨rfl, z⟩ | ⟨j, d', rfl, q, z⟩ <;> cases z
  · rcases startI_get e with ⟨rfl, z⟩ | ⟨j, d', rfl, q, z⟩ <;> cases z
  · rcases startI_get e with ⟨rfl, z⟩ | ⟨j, d', rfl, q, z⟩ <;> cases z
  · rcases startI_get e with ⟨rfl, z⟩ | ⟨j, d', rfl, q, z⟩
    · cases z
      exact ⟨dx, [], rfl, List.mem_singleton.mpr rfl, upd_same, rfl, .nil⟩
    · cases z
  · rcases startI_get ha with ⟨rfl, z⟩ | ⟨j, d', rfl, q, z⟩
    · rcases startI_get hb with ⟨rfl, z'⟩ | ⟨j, d', rfl, q, z'⟩
      · exact absurd rfl nab
      · cases z'; cases ht
    · cases z; cases hs
  · rcases List.mem_append.mp hl with z | z
    · exact (lv l z).mono sm
    · rw [List.mem_singleton.mp z, upd_same]; exact trivial
  · rw [List.mem_singleton.mp hl]; exact nx
abbrev postI (x : Addr) (R : D → Prop) : Post := ⟨fun δ' => ∃ d, δ'[0]? = some (some (.sv (.ref x) d)) ∧ R d, fun _ => False, fun _ => False, fun _ => False⟩
theorem init_run {K : K'} {H1 : Hp} {L : List Addr} {N : List Str} {vs : List V} {ds : List D} {x dx C : Addr} {R : D → Prop} {Q : VK} {t : TS} (h : DvA K (hid L H1) vs ds) (lv : Lv L H1) (hx : H1 x = none) (hdx : H1 dx = none) (ne : dx ≠ x)
    (q : ∀ H' r, Same H1 H' → Dv K (hid L H') (.ref x) r → R r → Q .non H') (xs : XS K H1 L t (startI N x C ds) (postI x R)) :
    t { nx := fun _ H' => Q .non H', rt := Q } (L2.start N (.ref x :: vs)) (upd (upd H1 dx (.own x)) x (.ins C dx [])) :=
  xs _ _ [x] (startI_rel h lv hx hdx ne) _ (fun σ' H' L' δ' r ⟨d, hd, hr⟩ => q H' d (r.ex.trans (hid_same _ _)) ((r.sv 0 _ d hd).2.mono (hid_sub fun a ha => List.mem_append_left _ ha)) hr) (fun v H' d e dv hr => hr.elim) (fun _ _ _ _ _ z => z.elim) (fun _ _ _ _ _ z => z.elim)
section
variable {P : Program} {w : World} {K : K'} {mg : Str → Option Value} {base : Heap}
theorem def0I {x qual : Str} {st : Stmt} {f C : Addr} {fd : FuncData} {N ps : List Str} {k : Nat} {W : WP} (F : Fun K x qual st f fd) (S : FnScope N ps (defScope st)) (len : ∀ ds R RX, W ds R RX → ds.length + 1 = ps.length)
    (hb : ∀ (cdv : Value) (A : Around) (outer : List Env) (s : Shared) (H H1 : Hp) (vs : List V) (Q : VK) (E : XK) (L : List Addr) (ds : List D) (R : D → Prop) (RX : Addr → Prop) (xa : Addr), Room k (A.deeper (PyProof.Rows.envOfC qual (defScope st) s.heap.objs.size f cdv)) → W ds R RX →
      ∃ t, PSs (cxOf CX0 P w K mg base N qual (defScope st) f cdv A outer s H E).nox (defBody st) t ∧ XS K H1 L t (startI N xa C ds) (postI xa R)) : FnOk P w K mg base CX0 (k + 1) f fd ps (spI K C W) := by
  refine F.ok S (fun vs H Q E h => ?_) (fun cdv A outer s H vs Q E hr h => ?_)
  · obtain ⟨H1, xa, dx, us, L, ds, R, RX, rfl, _, _, _, _, _, dv, w, _⟩ := h
    rw [List.length_cons, dv.length]
    exact len ds R RX w
  · obtain ⟨H1, xa, dx, us, L, ds, R, RX, rfl, rfl, nx, ndx, ne, lv, dv, w, q, _⟩ := h
    obtain ⟨t, h1, h2⟩ := hb cdv A outer s _ H1 [] Q E L ds R RX xa hr w
    exact ⟨t, h1, init_run dv lv nx ndx ne q h2⟩
theorem defXI {x qual : Str} {st : Stmt} {f C : Addr} {fd : FuncData} {N ps : List Str} {k : Nat} {W : WP} (F : Fun K x qual st f fd) (S : FnScope N ps (defScope st)) (len : ∀ ds R RX, W ds R RX → ds.length + 1 = ps.length)
    (hb : ∀ (cdv : Value) (A : Around) (outer : List Env) (s : Shared) (H H1 : Hp) (vs : List V) (Q : VK) (E : XK) (L : List Addr) (ds : List D) (R : D → Prop) (RX : Addr → Prop) (xa : Addr), Room k (A.deeper (PyProof.Rows.envOfC qual (defScope st) s.heap.objs.size f cdv)) → W ds R RX →
      (∀ c H', Same H1 H' → RX c → E (.ref c) none H') → ∃ t, PSs (cxOf (L2.CX P w) P w K mg base N qual (defScope st) f cdv A outer s H E) (defBody st) t ∧ XS K H1 L t (startI N xa C ds) (postI xa R)) : FnOk P w K mg base (L2.CX P w) (k + 1) f fd ps (spI K C W) := by
  refine F.okX S (fun vs H Q E h => ?_) (fun cdv A outer s H vs Q E hr h => ?_)
  · obtain ⟨H1, xa, dx, us, L, ds, R, RX, rfl, _, _, _, _, _, dv, w, _⟩ := h
    rw [List.length_cons, dv.length]
    exact len ds R RX w
  · obtain ⟨H1, xa, dx, us, L, ds, R, RX, rfl, rfl, nx, ndx, ne, lv, dv, w, q, hE⟩ := h
    obtain ⟨t, h1, h2⟩ := hb cdv A outer s _ H1 [] Q E L ds R RX xa hr w hE
    exact ⟨t, h1, init_run dv lv nx ndx ne q h2⟩
theorem defXID {x qual : Str} {pa : Arguments} {bd : List Stmt} {sc : Scope} {dvs : List V} {kws : List (Str × V)} {f C : Addr} {fd : FuncData} {N ps : List Str} {k : Nat} {W : WP} (F : FunD K x qual pa bd sc dvs kws f fd) (S : FnScope N ps sc) (len : ∀ ds R RX, W ds R RX → ds.length + 1 = ps.length)
    (hb : ∀ (cdv : Value) (A : Around) (outer : List Env) (s : Shared) (H H1 : Hp) (vs : List V) (Q : VK) (E : XK) (L : List Addr) (ds : List D) (R : D → Prop) (RX : Addr → Prop) (xa : Addr), Room k (A.deeper (PyProof.Rows.envOfC qual sc s.heap.objs.size f cdv)) → W ds R RX →
      (∀ c H', Same H1 H' → RX c → E (.ref c) none H') → ∃ t, PSs (cxOf (L2.CX P w) P w K mg base N qual sc f cdv A outer s H E) bd t ∧ XS K H1 L t (startI N xa C ds) (postI xa R)) : FnOk P w K mg base (L2.CX P w) (k + 1) f fd ps (spI K C W) := by
  refine F.ok S (fun vs H Q E h => ?_) (fun cdv A outer s H vs Q E hr h => ?_)
  · obtain ⟨H1, xa, dx, us, L, ds, R, RX, rfl, _, _, _, _, _, dv, w, _⟩ := h
    rw [List.length_cons, dv.length]
    exact len ds R RX w
  · obtain ⟨H1, xa, dx, us, L, ds, R, RX, rfl, rfl, nx, ndx, ne, lv, dv, w, q, hE⟩ := h
    obtain ⟨t, h1, h2⟩ := hb cdv A outer s _ H1 [] Q E L ds R RX xa hr w hE
    exact ⟨t, h1, init_run dv lv nx ndx ne q h2⟩
end
/-- an __init__ that stands behind the top -/
def InE (K : K') (C : Addr) (qual : Str) (st : Stmt) (ps : List Str) : Prop := ∃ f fd, Fun K "__init__" qual st f fd ∧ Mk K C f ∧ Binds K fd ps []
/-- a class that may be called, with its __init__'s promise -/
def CalI (P : Program) (w : World) (K : K') (mg : Str → Option Value) (base : Heap) (CX : CXT) (k : Nat) (C : Addr) (ps : List Str) (sp : Sp) : Prop :=
  ∃ f fd, FnOk P w K mg base CX k f fd ps sp ∧ Mk K C f ∧ Binds K fd ps []
/-- an __init__ whose last parameter's default is the empty tuple -/
def InD (K : K') (C : Addr) (qual : Str) (st : Stmt) (ps : List Str) : Prop := ∃ f fd T u, FunD K "__init__" qual (defArgs st) (defBody st) (defScope st) [.ref T] [] f fd ∧ Mk K C f ∧ Binds K fd ps [] ∧ Binds K fd ps [u] ∧ Vals [.ref T] [u] ∧ ∀ H, Dv K H (.ref T) (.tup [])
def CalID (P : Program) (w : World) (K : K') (mg : Str → Option Value) (base : Heap) (CX : CXT) (k : Nat) (C : Addr) (ps : List Str) (sp : Sp) : Prop :=
  ∃ f fd T u, FnOk P w K mg base CX k f fd ps sp ∧ Mk K C f ∧ Binds K fd ps [] ∧ Binds K fd ps [u] ∧ Vals [.ref T] [u] ∧ ∀ H, Dv K H (.ref T) (.tup [])
section
variable {K : K'} {H0 : Hp} {L0 : List Addr} {δ : DS} {R : D → Prop}
theorem ye_make {W : WP} {ts : TA} {E : XK} {C : Addr} (h : XA K H0 L0 ts δ fun ds => W ds R noX) : XE K H0 L0 (tMake C (spI K C W) [] E ts) δ R :=
  xe_make [] (fun _ => .nil) noX (fun _ _ _ z => z.elim) (fun σ H L rl Q q => h σ H L rl Q fun vs H2 ds e dv hw => q vs H2 ds e dv (by show W (ds ++ []) R noX; rw [List.append_nil]; exact hw))
theorem ye_makeD {W : WP} {ts : TA} {E : XK} {C T : Addr} (hT : ∀ H, Dv K H (.ref T) (.tup [])) (h : XA K H0 L0 ts δ fun ds => W (ds ++ [.tup []]) R noX) : XE K H0 L0 (tMake C (spI K C W) [.ref T] E ts) δ R :=
  xe_make [.tup []] (fun H => .cons (hT H) .nil) noX (fun _ _ _ z => z.elim) h
end
end Cu

/-! More rules in the forms that the steps take. -/
namespace Cu
open PySem PySem.Spec L2
def Fld (ns : List Str) (ds : List D) (f : Str) (R : D → Prop) : Prop := ∃ d, fldD ns ds f = some d ∧ R d
theorem fldk {ns : List Str} {ds : List D} {f : Str} {d : D} {R : D → Prop} (h : fldD ns ds f = some d) (k : R d) : Fld ns ds f R := ⟨d, h, k⟩
def NoIn (m : Str) (ns : List Str) (A : Prop) : Prop := m ∉ ns ∧ A
theorem noIn {m : Str} {ns : List Str} {A : Prop} (h : m ∉ ns) (k : A) : NoIn m ns A := ⟨h, k⟩
/-- the rest is a matter of known truth -/
theorem R_bl {R : D → Prop} {a b : Bool} (k : R (.bl a)) (e : b = a) : R (.bl b) := e ▸ k
theorem R_int {R : D → Prop} {a b : Int} (k : R (.int a)) (e : b = a) : R (.int b) := e ▸ k
theorem R_eq {R : D → Prop} {a b : D} (k : R a) (e : b = a) : R b := e ▸ k
section
variable {K : K'} {H0 : Hp} {L0 : List Addr} {δ : DS} {R : D → Prop} {te : TE} {P : Post}
theorem ye_fldN {f : Str} {C : Addr} (hc : Cls K C) (hn : NoAttr K C f) (h : XE K H0 L0 te δ fun x => IsIns C x fun ns ds => Fld ns ds f R) : XE K H0 L0 (tFld K te f) δ R := ye_fld hc hn h
theorem ye_methN {W : WP} {ts : TA} {C : Addr} {m : Str} {E : XK} (h : XE K H0 L0 te δ fun x => IsIns C x fun ns os => NoIn m ns (XA K H0 L0 ts δ fun ds => W (.ins C ns os :: ds) R noX)) : XE K H0 L0 (tMeth C m (spD K W) [] E te ts) δ R :=
  xe_meth0 (h.imp fun x ⟨ns, os, e, h1, h2⟩ => ⟨ns, os, e, h1, by rw [e]; exact h2⟩)
theorem xsl_K {ds : List D} {lo hi : Option Int} (k : R (.lst (cutD ds lo hi))) : XSl K (.klst ds) lo hi R := fun H L v lv hv Q q => by
  obtain ⟨a, vs, rfl, hs, ha⟩ := dv_klst hv
  exact .inl ⟨a, vs, rfl, sq_mono (hid_same _ _) hs, fun p hp => q _ _ _ (same_upd hp) (new_lst lv hp (cut_rel ha)) k⟩
theorem isTL {ds : List D} {A : Prop} {R : D → Prop} (h : R (.bl true)) : ∃ ds', D.tup ds = .tup ds' ∧ R (.bl true) := ⟨ds, rfl, h⟩
theorem xs_fldN {i : Nat} {l C : Addr} {ns : List Str} {ds : List D} {f : Str} (hc : Cls K C) (hn : NoAttr K C f) (h0 : δ[i]? = some (some (.oi l C ns ds))) (hf : f ∉ ns) (hl : ns.length < 1000) (h : XE K H0 L0 te δ fun d => P.nx (δ.set i (some (.oi l C (ns ++ [f]) (ds ++ [d]))))) :
    XS K H0 L0 (sFld K (tVar i) te f) δ P := xs_fld hc hn h0 hf hl h
end
section
variable {K : K'} {R : D → Prop}
theorem xr_isN0 (k : R (.bl true)) : XR K rIsNn .non .non R := xr_isNn k
theorem xr_isNi {i : Int} (k : R (.bl false)) : XR K rIsNn (.int i) .non R := xr_isNn k
theorem xr_isNt {ds : List D} (k : R (.bl false)) : XR K rIsNn (.tup ds) .non R := xr_isNn k
theorem xr_isNl {ds : List D} (k : R (.bl false)) : XR K rIsNn (.lst ds) .non R := xr_isNn k
theorem xr_notN0 (k : R (.bl false)) : XR K rNotNn .non .non R := xr_notNn k
theorem xr_notNi {i : Int} (k : R (.bl true)) : XR K rNotNn (.int i) .non R := xr_notNn k
theorem xr_notNt {ds : List D} (k : R (.bl true)) : XR K rNotNn (.tup ds) .non R := xr_notNn k
theorem xr_notNl {ds : List D} (k : R (.bl true)) : XR K rNotNn (.lst ds) .non R := xr_notNn k
end
/-! a list's cut -/
theorem cutD_none (ds : List D) (n : Nat) : cutD ds none (some (n : Int)) = ds.take n := by
  unfold cutD
  rw [HT.sIx_nat]
  show (ds.drop 0).take (min n ds.length - 0) = _
  rw [List.drop_zero, Nat.sub_zero]
  by_cases h : n ≤ ds.length
  · rw [Nat.min_eq_left h]
  · rw [Nat.min_eq_right (by omega), List.take_of_length_le (by omega), List.take_of_length_le (by omega)]
theorem cutD_from (ds : List D) (n : Nat) : cutD ds (some (n : Int)) none = ds.drop n := by
  unfold cutD
  rw [HT.sIx_nat]
  show (ds.drop (min n ds.length)).take (ds.length - min n ds.length) = _
  rw [List.take_of_length_le (by rw [List.length_drop]; omega)]
  by_cases h : n ≤ ds.length
  · rw [Nat.min_eq_left h]
  · rw [Nat.min_eq_right (by omega), List.drop_of_length_le (by omega), List.drop_of_length_le (by omega)]
end Cu

/-! The derivations' rules with the written part K named: within comprehensions too. -/
namespace Cu
open PySem PySem.Spec L2
section
variable {X : Cx} {K : K'}
theorem ck {f : Value} (r : K' → List V → Hp → VK → Prop) (h : CallR X f (r X.K)) (e : X.K = K) : CallR X f (r K) := e ▸ h
theorem ok' {f : Value → Value → Sem Value} (r : K' → R2) (h : OpR X f (r X.K)) (e : X.K = K) : OpR X f (r K) := e ▸ h
theorem ik (r : K' → R2) (h : IxR X (r X.K)) (e : X.K = K) : IxR X (r K) := e ▸ h
theorem sk (h : SlR X (rSlAny X.K)) (e : X.K = K) : SlR X (rSlAny K) := e ▸ h
theorem pe_fldK {a : Expr} {f : Str} {pos : Pos} {ta : TE} (e : X.K = K) (h : PE X a ta) (hb : attributeBase a f X.env (eval a X.env) = eval a X.env := by rfl) : PE X (.Attribute a f pos) (tFld K ta f) := e ▸ pe_fld h hb
theorem pt_truK {a : Expr} {ta : TE} (e : X.K = K) (ha : PE X a ta) (he : ∀ whole, isTrue a X.env whole = (do let v ← whole; standAt a.pos; holding [v] (truthy v)) := by intro _; rfl) : PT X a (tTruth K ta) := e ▸ pt_tru ha he
theorem pi_anyK {tg l : Expr} {tl : TE} (e : X.K = K) (hl : PE X l tl) : PI X tg l (iAny K tl) := e ▸ pi_any hl
theorem pi_enumAK {elts : List Expr} {kk : Nat} {tpos p pos : Pos} {a : Expr} {ta : TA} (e : X.K = K) (hg : Gl X "enumerate") (hm : X.mg "enumerate" = none) (ha : PA X [a] ta) (hs : starEach [a] X.env = [(false, eval a X.env)] := by rfl) :
    PI X (.Tuple elts kk tpos) (.Call (.Name "enumerate" p) [a] [] pos) (iEnumA K ta) := e ▸ pi_enumA hg hm ha hs
theorem pi_enum2K {elts : List Expr} {kk : Nat} {tpos p pos : Pos} {a e2 : Expr} {ta : TA} (e : X.K = K) (hg : Gl X "enumerate") (hm : X.mg "enumerate" = none) (ha : PA X [a, e2] ta) (hs : starEach [a, e2] X.env = (false, eval a X.env) :: starEach [e2] X.env := by rfl) (hs2 : (backTo pos (starEach [e2] X.env)).any (·.1) = false := by rfl) :
    PI X (.Tuple elts kk tpos) (.Call (.Name "enumerate" p) [a, e2] [] pos) (iEnum2 K ta) := e ▸ pi_enum2 hg hm ha hs hs2
theorem pi_zipK {elts : List Expr} {kk : Nat} {tpos p pos : Pos} {a e2 : Expr} {ta : TA} (e : X.K = K) (hg : Gl X "zip") (hm : X.mg "zip" = none) (ha : PA X [a, e2] ta) (hs : starEach [a, e2] X.env = (false, eval a X.env) :: starEach [e2] X.env := by rfl) (hs2 : (backTo pos (starEach [e2] X.env)).any (·.1) = false := by rfl) :
    PI X (.Tuple elts kk tpos) (.Call (.Name "zip" p) [a, e2] [] pos) (RZ.iZipA K ta) := e ▸ RZ.pi_zipA hg hm ha hs hs2
theorem pg_tupK {pos : Pos} {es : List Expr} {k : Nat} {t : TGs} {n : Nat} (e : X.K = K) (hc : X.calm = true) (h : PGs X es t) (h1 : (assignEach es X.env).length = n := by rfl) (h2 : List.findIdx? (fun x => x.1) (assignEach es X.env) = none := by rfl) :
    PG X (.Tuple es k pos) (gTup K n t) := e ▸ pg_tup hc h h1 h2
theorem pe_isiTLK {p pos tpos : Pos} {a : Expr} {es : List Expr} {te : TE} {k : Nat} (e : X.K = K) (h : PE X a te) (hg : Gl X "isinstance") (hm : X.mg "isinstance" = none) (ha : PA X es (tCons (tC (.ty "tuple")) (tCons (tC (.ty "list")) tNil)))
    (h1 : starEach [a, .Tuple es k tpos] X.env = (false, eval a X.env) :: starEach [.Tuple es k tpos] X.env := by rfl) (h2 : starEach [.Tuple es k tpos] X.env = (false, eval (.Tuple es k tpos) X.env) :: starEach [] X.env := by rfl) (h3 : (backTo pos (starEach [.Tuple es k tpos] X.env)).any (·.1) = false := by rfl) :
    PE X (.Call (.Name "isinstance" p) [a, .Tuple es k tpos] [] pos) (tIsTL K te) := e ▸ pe_isiTL h hg hm ha h1 h2 h3
end
section
variable {K : K'} {H0 : Hp} {L0 : List Addr} {δ : DS} {te : TE} {P : Post}
def YG (K : K') (H0 : Hp) (L0 : List Addr) (g : TG) (d : D) (δ : DS) (R : DS → Prop) : Prop := ∃ js, XG K H0 L0 js g d δ R
def YGs (K : K') (H0 : Hp) (L0 : List Addr) (g : TGs) (ds : List D) (δ : DS) (R : DS → Prop) : Prop := ∃ js, XGs K H0 L0 js g ds δ R
theorem yg_name {i : Nat} {d : D} {R : DS → Prop} (h : R (δ.set i (some (.sh d)))) : YG K H0 L0 (gName i) d δ R := ⟨[i], xg_name h⟩
theorem ygs_nil {R : DS → Prop} (h : R δ) : YGs K H0 L0 gNil [] δ R := ⟨[], xgs_nil h⟩
theorem ygs_cons {i : Nat} {g : TGs} {d : D} {ds : List D} {R : DS → Prop} (h : YGs K H0 L0 g ds (δ.set i (some (.sh d))) R) : YGs K H0 L0 (gCons (gName i) g) (d :: ds) δ R := let ⟨js, h⟩ := h; ⟨i :: js, xgs_cons h⟩
theorem yg_tup {g : TGs} {ds : List D} {n : Nat} {R : DS → Prop} (hn : ds.length = n) (h : YGs K H0 L0 g ds δ R) : YG K H0 L0 (gTup K n g) (.tup ds) δ R := let ⟨js, h⟩ := h; ⟨js, xg_tup hn h⟩
theorem ys_asgT {g : TG} (h : XE K H0 L0 te δ fun d => YG K H0 L0 g d δ P.nx) : XS K H0 L0 (tAsg te g) δ P := fun σ H L rl Dd n r b c =>
  h σ H L rl _ fun v H2 d e dv ⟨js, hd⟩ => hd σ H2 L v (rl.mono e) dv _ fun σ' δ' r' _ _ hr => n σ' H2 L δ' r' hr
end
section
variable {K : K'} {H0 : Hp} {L0 : List Addr} {δ : DS} {te : TE} {R : D → Prop}
def IsTup (x : D) (A : Prop) : Prop := ∃ ds, x = .tup ds ∧ A
theorem isTup {ds : List D} {A : Prop} (h : A) : IsTup (.tup ds) A := ⟨ds, rfl, h⟩
theorem ye_isTL (h : XE K H0 L0 te δ fun x => IsTup x (R (.bl true))) : XE K H0 L0 (tIsTL K te) δ R := xe_isTL h
end
/-- the second branch first: the first may lean on it -/
theorem br_dk {p : Prop} [Decidable p] {A B : Prop} (h : B) (h1 : p → B → A) : Br (decide p) A B := ⟨fun z => h1 (of_decide_eq_true z) h, fun _ => h⟩
/-- not too great -/
def Sz (i : Int) : Prop := i.natAbs < 2 ^ 1000
theorem sz_of {i : Int} (h1 : -(2 ^ 400) ≤ i) (h2 : i ≤ 2 ^ 400) : Sz i := by
  unfold Sz
  have h : i.natAbs ≤ 2 ^ 400 := by omega
  exact Nat.lt_of_le_of_lt h (by decide +kernel)
theorem sz_nat {i : Int} (h : i.natAbs ≤ 2 ^ 400) : Sz i := Nat.lt_of_le_of_lt h (by decide +kernel)
theorem sz_log {i : Int} (h : Sz i) : i.natAbs.log2 < 1000 := by
  unfold Sz at h
  by_cases z : i.natAbs = 0
  · rw [z]; decide
  · exact (Nat.log2_lt z).mpr h
theorem mulS {i j : Int} (a : Sz i) (b : Sz j) : CMulA i j := .inr (by
  have := sz_log a
  have := sz_log b
  show _ < 1000000
  omega)
theorem divS {i j : Int} (h : 0 < j) (b : Sz j) : CDivW i j := ⟨h, by have := sz_log b; omega⟩
end Cu

/-! Errors that are let out or caught. -/
namespace Cu
open PySem PySem.Spec L2
section
variable {K : K'} {H0 : Hp} {L0 : List Addr} {δ : DS} {R : D → Prop} {P : Post} {ts : TA} {te : TE}
theorem ye_makeX {W : WP} {E : XK} {C : Addr} (RX : Addr → Prop) (hE : ∀ c H', Same H0 H' → RX c → E (.ref c) none H') (h : XA K H0 L0 ts δ fun ds => W ds R RX) : XE K H0 L0 (tMake C (spI K C W) [] E ts) δ R :=
  xe_make [] (fun _ => .nil) RX hE (fun σ H L rl Q q => h σ H L rl Q fun vs H2 ds e dv hw => q vs H2 ds e dv (by show W (ds ++ []) R RX; rw [List.append_nil]; exact hw))
/-- a call within a try -/
theorem xe_callS {W : WP} {Wx : WX} (RX : Addr → Prop) (hW : ∀ c σ H L, RX c → Rel K H0 L0 σ H L δ → Wx (.ref c) none σ H) (h : XA K H0 L0 ts δ fun ds => W ds R RX) : XE K H0 L0 (tCallS (spD K W) (WE Wx) ts) δ R := fun σ H L rl Q q =>
  h σ H L rl _ fun vs H2 ds e2 dvs w => by
    have r2 := rl.mono e2
    exact ⟨L0 ++ L, ds, R, RX, r2.lv, dvs, w, fun v H' r e3 dv hr => q v H' r (e2.trans e3) dv hr, fun c H' e3 x => hW c σ H' L x (r2.mono e3)⟩
/-- how the clauses take an error of the class c -/
def HX (K : K') (H0 : Hp) (L0 : List Addr) (δ : DS) (P : Post) (c : Addr) : List (Value × (Addr → Value → Option Addr → TS)) → Prop
  | [] => False
  | (v, ts) :: r => ∃ b, PySem.W.exmOne K (.ref c) v = some b ∧ (b = true → ∀ a, XS K H0 L0 (ts a (.ref c) none) δ P) ∧ (b = false → HX K H0 L0 δ P c r)
theorem hx_yes {c : Addr} {v : Value} {ts : Addr → Value → Option Addr → TS} {r : List (Value × (Addr → Value → Option Addr → TS))} (e : PySem.W.exmOne K (.ref c) v = some true) (h : ∀ a, XS K H0 L0 (ts a (.ref c) none) δ P) : HX K H0 L0 δ P c ((v, ts) :: r) := ⟨true, e, fun _ => h, fun z => nomatch z⟩
theorem hx_no {c : Addr} {v : Value} {ts : Addr → Value → Option Addr → TS} {r : List (Value × (Addr → Value → Option Addr → TS))} (e : PySem.W.exmOne K (.ref c) v = some false) (h : HX K H0 L0 δ P c r) : HX K H0 L0 δ P c ((v, ts) :: r) := ⟨false, e, (fun z => nomatch z), fun _ => h⟩
/-- a try with clauses without names, that lets nothing out -/
def tTry (K : K') (tb : WX → TS) (l : List (Value × (Addr → Value → Option Addr → TS))) : TS := fun D σ H => tb (wMany K (fun _ _ _ _ => False) D l) D σ H
theorem xs_try {tb : WX → TS} {l : List (Value × (Addr → Value → Option Addr → TS))} (RX : Addr → Prop) (hh : ∀ c, RX c → HX K H0 L0 δ P c l)
    (hb : ∀ W : WX, (∀ c σ H L, RX c → Rel K H0 L0 σ H L δ → W (.ref c) none σ H) → XS K H0 L0 (tb W) δ P) : XS K H0 L0 (tTry K tb l) δ P := fun σ H L rl Dd n r b c =>
  hb (wMany K (fun _ _ _ _ => False) Dd l) (fun cc σ' H' L' hx rl' => by
    have go : ∀ l, HX K H0 L0 δ P cc l → wMany K (fun _ _ _ _ => False) Dd l (.ref cc) none σ' H' := by
      intro l
      induction l with
      | nil => exact fun h => h.elim
      | cons a l ih =>
        obtain ⟨v, ts⟩ := a
        rintro ⟨k, e, h1, h2⟩
        exact ⟨k, e, fun hk a _ => h1 hk a σ' H' L' rl' Dd n r b c, fun hk => ih (h2 hk)⟩
    exact go l (hh cc hx)) σ H L rl Dd n r b c
end
section
variable {X : Cx} {K : K'} {body : List Stmt} {h₀ : ExceptHandler} {hds : List ExceptHandler} {l : List (Value × (Addr → Value → Option Addr → TS))} {pos : Pos} {tb : WX → TS}
theorem ps_try_manyK (e : X.K = K) (hs : X.stack = X.env :: X.outer) (hf : X.env.frame = some X.env.locals)
    (hb : ∀ (W : WX) (pn : List (Addr × Obj)) (xe : Value → Shared → Prop), Takes (X.tr pn xe) W → PassesOwn (model X.prog X.w) X.A X.env xe → PSs (X.tr pn xe) body (tb W))
    (hh : HdsOk X (h₀ :: hds) l) : PS X (.Try body (h₀ :: hds) [] [] pos) (tTry K tb l) := e ▸ ps_try_many hs hf takes0 hb hh
end
/-- what the clauses ask of a class of errors -/
structure Ec (K : K') (C : Addr) : Prop where
  h : PySem.W.hasDictIn K C = true
  b : PySem.W.subIn K (.ref C) (.type "BaseException") = some true
  t : PySem.W.typeIn K (.ref C) = some (.type "type")
theorem exm_cls {K : K'} {C : Addr} {cls : Value} {b : Bool} (e : Ec K C) (h : PySem.W.subIn K cls (.ref C) = some b) : PySem.W.exmOne K cls (.ref C) = some b := PySem.W.exm_ref e.b e.h e.t h
/-! ### an own list is read, for a scalar -/
def Scl (d : D) (A : Prop) : Prop := scalD d = true ∧ A
theorem scl_bl {b : Bool} {A : Prop} (h : A) : Scl (.bl b) A := ⟨rfl, h⟩
theorem scl_int {b : Int} {A : Prop} (h : A) : Scl (.int b) A := ⟨rfl, h⟩
section
variable {K : K'} {H0 : Hp} {L0 : List Addr} {δ : DS} {R : D → Prop} {ta : TE}
theorem xe_opFz {r : R2} {i : Nat} {ds : List D} (h0 : δ[i]? = some (some (.ow ds))) (h : XE K H0 L0 ta (δ.set i (some (.sh (.lst ds)))) fun x => XR K r x (.lst ds) fun d => Scl d (R d)) : XE K H0 L0 (tOp r ta (tVar i)) δ R := by
  have hi : i < δ.length := (List.getElem?_eq_some_iff.mp h0).1
  exact xe_fz h0 (xe_op (h.imp fun x hx => xe_var (d := .lst ds) (by rw [List.getElem?_set_self hi]) hx))
theorem xe_lenFz {r : List V → Hp → VK → Prop} {i : Nat} {ds : List D} (h0 : δ[i]? = some (some (.ow ds))) (h : XC K r [.lst ds] fun d => Scl d (R d)) : XE K H0 L0 (tCB r (tCons (tVar i) tNil)) δ R := by
  have hi : i < δ.length := (List.getElem?_eq_some_iff.mp h0).1
  exact xe_fz h0 (xe_cb (xa_cons (xe_var (d := .lst ds) (by rw [List.getElem?_set_self hi]) (xa_nil h))))
end
/-! ### pairs of whole numbers compared -/
theorem eqD_pair (p q : Int × Int) : eqD (pairD p) (pairD q) = decide (p = q) := by
  simp only [pairD, eqD_tc, eqD_tn, eqD_int, Bool.and_true]
  rw [Bool.eq_iff_iff, Bool.and_eq_true, decide_eq_true_eq, decide_eq_true_eq, decide_eq_true_eq]
  exact ⟨fun h => Prod.ext h.1 h.2, fun h => ⟨congrArg (·.1) h, congrArg (·.2) h⟩⟩
theorem eqD_tpairs : ∀ (ps qs : List (Int × Int)), eqD (.tup (ps.map pairD)) (.tup (qs.map pairD)) = decide (ps = qs)
  | [], [] => by rw [List.map_nil, eqD_tn]; rfl
  | [], q :: qs => by rw [List.map_nil, List.map_cons, eqD_tr]; rfl
  | p :: ps, [] => by rw [List.map_nil, List.map_cons, eqD_tl]; rfl
  | p :: ps, q :: qs => by
    rw [List.map_cons, List.map_cons, eqD_tc, eqD_pair, eqD_tpairs ps qs, Bool.eq_iff_iff, Bool.and_eq_true, decide_eq_true_eq, decide_eq_true_eq, decide_eq_true_eq]
    exact ⟨fun h => by rw [h.1, h.2], fun h => ⟨(List.cons.inj h).1, (List.cons.inj h).2⟩⟩
theorem pairs_okT (ps : List (Int × Int)) : okD (.tup (ps.map pairD)) = true := by
  refine okD_of ?_ ?_
  · simp only [cmpD]
    induction ps with
    | nil => simp [cmpDs]
    | cons p ps ih => simp [cmpDs, ih, pairD, cmpD]
  · simp only [depD]
    have := depDs_pairs ps
    omega
theorem pairs_any (xs : List (Int × Int)) (p : Int × Int) : (xs.map pairD).any (fun z => eqD z (pairD p)) = decide (p ∈ xs) := by
  rw [Bool.eq_iff_iff, List.any_eq_true, decide_eq_true_eq]
  constructor
  · rintro ⟨z, hz, h⟩
    obtain ⟨q, hq, rfl⟩ := List.mem_map.mp hz
    rw [eqD_pair] at h
    exact of_decide_eq_true h ▸ hq
  · intro h
    exact ⟨_, List.mem_map_of_mem h, by rw [eqD_pair]; exact decide_eq_true rfl⟩
section
variable {K : K'} {R : D → Prop}
theorem xr_inPT {p : Int × Int} {ps : List (Int × Int)} (k : R (.bl (decide (p ∈ ps)))) : XR K (rInA K) (pairD p) (.tup (ps.map pairD)) R := xr_inT (pair_okD p) (pairs_okT ps) (by rw [pairs_any]; exact k)
theorem xr_notInPT {p : Int × Int} {ps : List (Int × Int)} (k : R (.bl (!decide (p ∈ ps)))) : XR K (rNotInA K) (pairD p) (.tup (ps.map pairD)) R := xr_notInT (pair_okD p) (pairs_okT ps) (by rw [pairs_any]; exact k)
theorem xr_notInPL {p : Int × Int} {ps : List (Int × Int)} (k : R (.bl (!decide (p ∈ ps)))) : XR K (rNotInA K) (pairD p) (.lst (ps.map pairD)) R := xr_notInL (pair_okD p) (pairs_okL ps) (by rw [pairs_any]; exact k)
theorem xr_nePT {ps qs : List (Int × Int)} (k : R (.bl (!decide (ps = qs)))) : XR K (rNeD K) (.tup (ps.map pairD)) (.tup (qs.map pairD)) R := xr_ne (pairs_okT ps) (pairs_okT qs) (by rw [eqD_tpairs]; exact k)
theorem xr_neP {p q : Int × Int} (k : R (.bl (!decide (p = q)))) : XR K (rNeD K) (pairD p) (pairD q) R := xr_ne (pair_okD p) (pair_okD q) (by rw [eqD_pair]; exact k)
end
end Cu

/-! Texts: str, join, split, f-strings, cuts; lists that grow by lists; a written dict; isinstance. -/
namespace Cu
open PySem PySem.Spec L2
def numS (i : Int) : Str := Str.ofString (toString i)
section
variable {K : K'} {H0 : Hp} {L0 : List Addr} {δ : DS} {R : D → Prop} {P : Post} {ta tb te : TE} {X : Cx}
/-! ### str -/
def rStrA : List V → Hp → VK → Prop := fun xs H Q => (∃ i : Int, xs = [.int i] ∧ i.natAbs.log2 < 1920 ∧ Q (.str (Str.ofString (toString i))) H) ∨ ∃ a, xs = [.str a] ∧ Q (.str a) H
theorem cl_str : CallR X (.type "str") rStrA := CallR.or call_str_int SkE.call_str_str
theorem xc_strI {i : Int} (h : Sz i) (k : R (.str (numS i))) : XC K rStrA [.int i] R := fun H L vs lv dv Q q => by
  obtain ⟨v, rfl, h'⟩ := dv.one
  cases h'
  exact .inl ⟨i, rfl, Nat.lt_trans (sz_log h) (by decide), q _ H _ (Same.refl H) (.str _) k⟩
theorem xc_strS {s : Str} (k : R (.str s)) : XC K rStrA [.str s] R := fun H L vs lv dv Q q => by
  obtain ⟨v, rfl, h'⟩ := dv.one
  cases h'
  exact .inr ⟨s, rfl, q _ H _ (Same.refl H) (.str _) k⟩
/-! ### join, split -/
def rJoinA (K : K') : V → List V → Hp → VK → Prop := fun x xs H Q => ∃ a p, ∃ ys : List Str, x = .str a ∧ xs = [.ref p] ∧ (SqL K H p (ys.map V.str) ∨ SqT K H p (ys.map V.str)) ∧ (ys.map (·.length)).sum + ys.length * a.length ≤ 16777216 ∧ Q (.str (Txt.join a ys)) H
def IsTxts (y : D) (R : List Str → Prop) : Prop := ∃ ws : List Str, y = .lst (ws.map D.str) ∧ R ws
theorem isTxts {ws : List Str} {R : List Str → Prop} (h : R ws) : IsTxts (.lst (ws.map D.str)) R := ⟨ws, rfl, h⟩
theorem xe_join (h : XE K H0 L0 ta δ fun x => IsStr x fun a => XE K H0 L0 tb δ fun y => IsTxts y fun ws => (ws.map (·.length)).sum + ws.length * a.length ≤ 16777216 ∧ R (.str (Txt.join a ws))) : XE K H0 L0 (tM1 (rJoinA K) ta tb) δ R := fun σ H L rl Q q =>
  h σ H L rl _ fun v H2 x e2 dx ⟨a, ex, hx⟩ => by
    subst ex
    cases dx
    refine ⟨⟨a, rfl⟩, hx σ H2 L (rl.mono e2) _ fun u H3 y e3 dy ⟨ws, ey, hs, hr⟩ => ?_⟩
    subst ey
    obtain ⟨p, xs, rfl, h1, h2⟩ := dv_seq dy
    exact ⟨a, p, ws, rfl, rfl, .inl (by rw [← h2.txts]; exact sq_mono (hid_same _ _) h1), hs, q _ H3 _ (e2.trans e3) (.str _) hr⟩
def rSplitA : V → List V → Hp → VK → Prop := fun x xs H Q => ∃ a b, x = .str a ∧ xs = [.str b] ∧ (b.length == 0) = false ∧ a.length + 2 ≤ sizeLine ∧ rNewStrs (Txt.split a b) H Q
theorem xe_split (h : XE K H0 L0 ta δ fun x => IsStr x fun a => XE K H0 L0 tb δ fun y => IsStr y fun b => (b.length == 0) = false ∧ a.length ≤ 90000 ∧ R (.lst ((Txt.split a b).map D.str))) : XE K H0 L0 (tM1 rSplitA ta tb) δ R := fun σ H L rl Q q =>
  h σ H L rl _ fun v H2 x e2 dx ⟨a, ex, hx⟩ => by
    subst ex
    cases dx
    refine ⟨⟨a, rfl⟩, hx σ H2 L (rl.mono e2) _ fun u H3 y e3 dy ⟨b, ey, hb, ha, hr⟩ => ?_⟩
    subst ey
    cases dy
    exact ⟨a, b, rfl, rfl, hb, sz100 (by omega), fun p hp => q _ _ _ ((e2.trans e3).trans (same_upd hp)) (new_lst ((rl.mono e2).mono e3).lv hp (DvA.ofTxts _)) hr⟩
/-! ### f-strings -/
def tJ (ts : List TE) : TE := fun σ H Q => tJs ts Str.empty σ H fun out H1 => Q (.str out) H1
def XJs (K : K') (H0 : Hp) (L0 : List Addr) (ts : List TE) (acc : Str) (δ : DS) (R : Str → Prop) : Prop := ∀ σ H L, Rel K H0 L0 σ H L δ → ∀ Q : Str → Hp → Prop, (∀ out H2, Same H H2 → R out → Q out H2) → tJs ts acc σ H Q
theorem xj_nil {acc : Str} {R : Str → Prop} (h : R acc) : XJs K H0 L0 [] acc δ R := fun σ H L rl Q q => q acc H (Same.refl H) h
theorem xj_cons {t : TE} {ts : List TE} {acc : Str} {R : Str → Prop} (h : XE K H0 L0 t δ fun x => IsStr x fun y => (acc ++ y).length ≤ 100000 ∧ XJs K H0 L0 ts (acc ++ y) δ R) : XJs K H0 L0 (t :: ts) acc δ R := fun σ H L rl Q q =>
  h σ H L rl _ fun v H2 x e2 dx ⟨y, ex, hy, hx⟩ => by
    subst ex
    cases dx
    exact ⟨y, rfl, sz100 hy, hx σ H2 L (rl.mono e2) Q fun out H3 e3 hr => q out H3 (e2.trans e3) hr⟩
theorem xe_joined {ts : List TE} (h : XJs K H0 L0 ts Str.empty δ fun out => R (.str out)) : XE K H0 L0 (tJ ts) δ R := fun σ H L rl Q q =>
  h σ H L rl _ fun out H2 e2 hr => q _ H2 _ e2 (.str _) hr
def IsFmt (x : D) (R : D → Prop) : Prop := (∃ i : Int, x = .int i ∧ Sz i ∧ R (.str (numS i))) ∨ (∃ s : Str, x = .str s ∧ s.length ≤ 100000 ∧ R (.str s))
theorem isFmtI {i : Int} (h : Sz i) (k : R (.str (numS i))) : IsFmt (.int i) R := .inl ⟨i, rfl, h, k⟩
theorem isFmtS {s : Str} (h : s.length ≤ 100000) (k : R (.str s)) : IsFmt (.str s) R := .inr ⟨s, rfl, h, k⟩
theorem xe_fmt (h : XE K H0 L0 te δ fun x => IsFmt x R) : XE K H0 L0 (tFmt te) δ R := fun σ H L rl Q q =>
  h σ H L rl _ fun v H2 x e2 dx hx => by
    rcases hx with ⟨i, ex, hi, hr⟩ | ⟨s, ex, hs, hr⟩
    · subst ex
      cases dx
      exact .inr ⟨i, rfl, Nat.lt_trans (sz_log hi) (by decide), q _ H2 _ e2 (.str _) hr⟩
    · subst ex
      cases dx
      exact .inl ⟨s, rfl, sz100 hs, q _ H2 _ e2 (.str _) hr⟩
/-! ### a text's cut -/
theorem xe_slS {tl th : TO} (h : XE K H0 L0 te δ fun x => IsStr x fun z => XO K H0 L0 tl δ fun lo => XO K H0 L0 th δ fun hi => z.length ≤ 100000 ∧ R (.str (cutS z lo hi))) : XE K H0 L0 (tSl rSlS te tl th) δ R := fun σ H L rl Q q =>
  h σ H L rl _ fun v H2 x e2 dx ⟨z, ex, hx⟩ => by
    subst ex
    cases dx
    exact hx σ H2 L (rl.mono e2) _ fun lo H3 e3 hlo => hlo σ H3 L ((rl.mono e2).mono e3) _ fun hi H4 e4 ⟨hz, hr⟩ => ⟨z, rfl, sz100 hz, q _ H4 _ ((e2.trans e3).trans e4) (.str _) hr⟩
/-! ### an own list grows by a list -/
theorem ip_ext : PIp X .Add rExt2 := iop_ext
theorem set_id {α : Type} {l : List α} {i : Nat} {x : α} (h : l[i]? = some x) : l.set i x = l := by
  apply List.ext_getElem?
  intro j
  by_cases e : i = j
  · subst e
    rw [List.getElem?_set_self (List.getElem?_eq_some_iff.mp h).1, h]
  · rw [List.getElem?_set_ne e]
theorem xs_augL {i : Nat} {ds : List D} (h0 : δ[i]? = some (some (.ow ds))) (hl : ds.length ≤ 50000) (h : XE K H0 L0 te δ fun y => ∃ es, y = .lst es ∧ es.length ≤ 50000 ∧ P.nx (δ.set i (some (.ow (ds ++ es))))) : XS K H0 L0 (tAug i te rExt2) δ P := fun σ H L rl Dd n r b c => by
  obtain ⟨l, vs, e1, e2, e3, e4⟩ := rl.ow i ds h0
  refine ⟨.ref l, e1, h σ H L rl _ fun v H2 d e dv ⟨es, ed, hes, hd⟩ => ?_⟩
  subst ed
  obtain ⟨p, ys, rfl, h1, h2⟩ := dv_lst dv
  have r2 := rl.mono e
  have e4' := e4.mono (hid_mono (L := L0 ++ L) e)
  refine ⟨l, p, vs, ys, rfl, rfl, e _ _ e3, (hid_at h1).2, sz100 (by rw [e4.length, h2.length]; omega), ?_⟩
  show Dd.nx (List.set σ i (some (V.ref l))) _
  rw [set_id e1]
  refine n _ _ L _ (r2.chg h0 rfl e1 rfl (fun ds' z => ?_) (by rintro _ ⟨⟩) (by rintro _ _ _ _ ⟨⟩)) hd
  cases z
  exact ⟨_, rfl, e4'.append h2⟩
/-! ### isinstance -/
theorem xc_isStr {s : Str} (k : R (.bl true)) : XC K (rIsA K) [.str s, .ty "str"] R := fun H L vs lv dv Q q => by
  obtain ⟨v, u, rfl, h, h'⟩ := dv.two
  cases h; cases h'
  exact ⟨_, _, _, _, true, rfl, .ty "str", .base (.str s), kit_ty (by decide +kernel), q _ H _ (Same.refl H) (.bl _) k⟩
theorem xc_isBl {s : Bool} (k : R (.bl true)) : XC K (rIsA K) [.bl s, .ty "bool"] R := fun H L vs lv dv Q q => by
  obtain ⟨v, u, rfl, h, h'⟩ := dv.two
  cases h; cases h'
  exact ⟨_, _, _, _, true, rfl, .ty "bool", .base (.bl s), kit_ty (by decide +kernel), q _ H _ (Same.refl H) (.bl _) k⟩
theorem xc_isLst {ds : List D} (k : R (.bl true)) : XC K (rIsA K) [.lst ds, .ty "list"] R := fun H L vs lv dv Q q => by
  obtain ⟨v, u, rfl, h, h'⟩ := dv.two
  cases h'
  obtain ⟨a, xs, rfl, h1, h2⟩ := dv_lst h
  exact ⟨_, _, _, _, true, rfl, .ty "list", .base (.lst (hid_at h1).2), kit_ty (by decide +kernel), q _ H _ (Same.refl H) (.bl _) k⟩
/-! ### a written dict with text keys -/
def rNotKd (K : K') (aS : Addr) : R2 := fun x y H Q => ∃ (z : Str) (r : Option Value), x = .str z ∧ y = .ref aS ∧ PySem.W.nsIn K aS z = some r ∧ Q (.bl (!r.isSome)) H
theorem op_notKd {w : World} {aS : Addr} (e : X.K = K) (ew : X.w = w) (D : ∃ es n, KDict K w aS es n) : OpR X (compareOp .NotIn) (rNotKd K aS) := by
  subst e
  subst ew
  obtain ⟨es, n, D⟩ := D
  exact op_notIn_kd D
theorem ix_kdK {w : World} (e : X.K = K) (ew : X.w = w) : IxR X (rIxD K w) := by
  subst e
  subst ew
  exact ix_kdict
theorem xe_notKd {aS : Addr} (h : XE K H0 L0 ta δ fun x => IsStr x fun z => ∃ r, PySem.W.nsIn K aS z = some r ∧ R (.bl (!r.isSome))) : XE K H0 L0 (tOp (rNotKd K aS) ta (tC (.ref aS))) δ R := fun σ H L rl Q q =>
  h σ H L rl _ fun v H2 x e2 dx ⟨z, ex, r, hr, hx⟩ => by
    subst ex
    cases dx
    exact ⟨z, r, rfl, rfl, hr, q _ H2 _ e2 (.bl _) hx⟩
theorem xe_getKd {w : World} {aS : Addr} (h : XE K H0 L0 tb δ fun y => IsStr y fun z => ∃ v d, KDct K w aS z v ∧ (∀ H, Dv K H v d) ∧ R d) : XE K H0 L0 (tOp (rIxD K w) (tC (.ref aS)) tb) δ R := fun σ H L rl Q q =>
  h σ H L rl _ fun v H2 x e2 dx ⟨z, ex, u, d, hu, hd, hr⟩ => by
    subst ex
    cases dx
    exact ⟨aS, z, u, rfl, rfl, hu, q _ H2 _ e2 (hd _) hr⟩
end
section
variable {X : Cx} {K : K'}
theorem pe_joinK {o e : Expr} {to te : TE} {apos pos : Pos} (eK : X.K = K) (ho : PE X o to) (he : PE X e te) (hs : starEach [e] X.env = [(false, eval e X.env)] := by rfl) (hbase : attributeBase o "join" X.env (eval o X.env) = eval o X.env := by rfl) (hline : (apos.endLine == pos.line) = true := by rfl) :
    PE X (.Call (.Attribute o "join" apos) [e] [] pos) (tM1 (rJoinA K) to te) := eK ▸ pe_join ho he hs hbase hline
theorem pe_splitK {o e : Expr} {to te : TE} {apos pos : Pos} (ho : PE X o to) (he : PE X e te) (hs : starEach [e] X.env = [(false, eval e X.env)] := by rfl) (hbase : attributeBase o "split" X.env (eval o X.env) = eval o X.env := by rfl) (hline : (apos.endLine == pos.line) = true := by rfl) :
    PE X (.Call (.Attribute o "split" apos) [e] [] pos) (tM1 rSplitA to te) := pe_split ho he hs hbase hline
theorem pe_joinedK {v1 v2 : Expr} {rest : List Expr} {ts : List TE} {pos : Pos} (h : PJ X (v1 :: v2 :: rest) ts) : PE X (.JoinedStr (v1 :: v2 :: rest) pos) (tJ ts) := pe_joined h
end
end Cu
namespace Cu
open PySem PySem.Spec L2
section
variable {K : K'} {R : D → Prop}
theorem xc_isTup {ds : List D} (k : R (.bl true)) : XC K (rIsA K) [.tup ds, .ty "tuple"] R := fun H L vs lv dv Q q => by
  obtain ⟨v, u, rfl, h, h'⟩ := dv.two
  cases h'
  obtain ⟨a, xs, rfl, h1, h2⟩ := dv_tup h
  have kit : PySem.W.kitOne K (.type "tuple") (.type "tuple") = some true := kit_ty (by decide +kernel)
  rcases st_mono (hid_same _ _) h1 with (h | ⟨o, h⟩) | ⟨o, its, n, e, c, _⟩
  · exact ⟨_, _, _, _, true, rfl, .ty "tuple", .base (.tup h), kit, q _ H _ (Same.refl H) (.bl _) k⟩
  · exact ⟨_, _, _, _, true, rfl, .ty "tuple", .fTuple h, kit, q _ H _ (Same.refl H) (.bl _) k⟩
  · exact ⟨_, _, _, _, true, rfl, .ty "tuple", .kTuple e c, kit, q _ H _ (Same.refl H) (.bl _) k⟩
end
end Cu
namespace Cu
open PySem PySem.Spec L2
section
variable {K : K'} {H0 : Hp} {L0 : List Addr} {δ : DS} {R : D → Prop} {P : Post}
theorem okS {s : Str} (h : PyData.strOk s = true) : okD (.str s) = true := okD_of (by simp [cmpD, h]) (by simp [depD])
theorem xr_eqS {s t : Str} (hs : PyData.strOk s = true) (ht : PyData.strOk t = true) (k : R (.bl (decide (s = t)))) : XR K (rEqD K) (.str s) (.str t) R := xr_eq (okS hs) (okS ht) (by rw [eqD_str]; exact k)
theorem xr_neS {s t : Str} (hs : PyData.strOk s = true) (ht : PyData.strOk t = true) (k : R (.bl (!decide (s = t)))) : XR K (rNeD K) (.str s) (.str t) R := xr_ne (okS hs) (okS ht) (by rw [eqD_str]; exact k)
/-- the truth of an own list -/
theorem xt_truFz {i : Nat} {ds : List D} {R : Bool → Prop} (h0 : δ[i]? = some (some (.ow ds))) (h : R (!ds.isEmpty)) : XT K H0 L0 (tTruth K (tVar i)) δ R := by
  have hi : i < δ.length := (List.getElem?_eq_some_iff.mp h0).1
  exact xt_fz h0 (xt_truth (xe_var (d := .lst ds) (by rw [List.getElem?_set_self hi]) ⟨_, rfl, h⟩))
/-- x = [..]: a list of one's own -/
theorem xs_ownL {i : Nat} {ts : TA} (h : XA K H0 L0 ts δ fun ds => ds.length ≤ 100000 ∧ P.nx (δ.set i (some (.ow ds)))) : XS K H0 L0 (tAsg (tLst ts) (gName i)) δ P := fun σ H L rl Dd n r b c =>
  h σ H L rl _ fun vs H2 ds e2 dvs ⟨hl, hr⟩ => ⟨sz100 (by rw [dvs.length]; exact hl), fun p hp =>
    n _ _ _ _ ((rl.mono e2).new (o := .lst vs) (s := .ow ds) hp rfl (fun ds' z => by cases z; exact ⟨vs, rfl, dvs⟩) (fun _ z => nomatch z) (fun _ _ _ _ z => nomatch z)) hr⟩
end
end Cu

/-! Texts of numbers: plain facts. -/
namespace Cu
open PySem PySem.Spec L2 TL
theorem numS_nat (n : Nat) : numS (n : Int) = Str.ofString (toString ((n : Nat) : Int)) := rfl
theorem numS_tl {i : Int} (h : 0 ≤ i) : tl (numS i) = numL i.toNat := by
  obtain ⟨n, rfl⟩ := Int.eq_ofNat_of_zero_le h
  exact tl_num n
/-- a word of a number: digits, not too many, no zero ahead -/
def numOk (m : Nat) (s : Str) : Bool := decide (1 ≤ s.length ∧ s.length ≤ m) && s.cps.toList.all (fun c => decide (c ∈ ("0123456789" : Str).cps.toList)) && (decide (s = ("0" : Str)) || !decide ((s.cps.toList.head?) = some 48))
theorem digit_mem {c : Nat} : c ∈ ("0123456789" : Str).cps.toList ↔ 48 ≤ c ∧ c ≤ 57 := by
  have e : ("0123456789" : Str).cps.toList = [48, 49, 50, 51, 52, 53, 54, 55, 56, 57] := by decide +kernel
  rw [e]
  simp only [List.mem_cons, List.not_mem_nil, or_false]
  omega
theorem numL_head {n : Nat} (h : 0 < n) : (numL n).head? ≠ some 48 := by
  induction n using Nat.strongRecOn with
  | _ n ih =>
    by_cases hn : n < 10
    · rw [numL_lt hn]
      simp
      omega
    · rw [numL_step (by omega)]
      have := ih (n / 10) (by omega) (by omega)
      cases e : numL (n / 10) with
      | nil => exact absurd e (numL_ne _)
      | cons a l =>
        rw [e] at this
        simpa using this
theorem numS_len {i : Int} {k : Nat} (hk : 0 < k) (h : 0 ≤ i) (h2 : i < ((10 ^ k : Nat) : Int)) : (numS i).length ≤ k := by
  rw [len_tl, numS_tl h]
  exact numL_len hk (by omega)
theorem numS_ok {i : Int} {k : Nat} (hk : 0 < k) (h : 0 ≤ i) (h2 : i < ((10 ^ k : Nat) : Int)) : numOk k (numS i) = true := by
  have hl := numS_len hk h h2
  have ht := numS_tl h
  have hne : 1 ≤ (numS i).length := by
    rw [len_tl, ht]
    have := numL_ne i.toNat
    cases e : numL i.toNat with
    | nil => exact absurd e this
    | cons a l => simp
  unfold numOk
  rw [decide_eq_true ⟨hne, hl⟩, Bool.true_and, Bool.and_eq_true]
  constructor
  · rw [List.all_eq_true]
    intro c hc
    have hc' : c ∈ tl (numS i) := hc
    rw [ht] at hc'
    exact decide_eq_true (digit_mem.mpr (numL_digits _ c hc'))
  · by_cases z : i = 0
    · subst z
      rw [Bool.or_eq_true]
      left
      exact decide_eq_true (by decide +kernel)
    · rw [Bool.or_eq_true]
      right
      have e : (numS i).cps.toList = numL i.toNat := ht
      rw [e]
      simpa using numL_head (n := i.toNat) (by omega)
theorem numS_int {i : Int} (h : 0 ≤ i) (hl : (numS i).length ≤ 4300) : PySem.intText? (numS i) = some i := by
  obtain ⟨n, rfl⟩ := Int.eq_ofNat_of_zero_le h
  rw [len_tl, numS_tl h] at hl
  exact int_num hl
theorem numS_free {i : Int} {c : Nat} (h : 0 ≤ i) (hc : c < 48 ∨ 57 < c) : c ∉ tl (numS i) := by
  rw [numS_tl h]
  exact numL_free hc
theorem numOk_of {m : Nat} {s : Str} (h : numOk m s = true) : (1 ≤ s.length ∧ s.length ≤ m) ∧ (∀ c ∈ s.cps.toList, c ∈ ("0123456789" : Str).cps.toList) ∧ (s = ("0" : Str) ∨ s.cps.toList.head? ≠ some 48) := by
  unfold numOk at h
  rw [Bool.and_eq_true, Bool.and_eq_true] at h
  obtain ⟨⟨h1, h2⟩, h3⟩ := h
  refine ⟨of_decide_eq_true h1, fun c hc => of_decide_eq_true (List.all_eq_true.mp h2 c hc), ?_⟩
  rw [Bool.or_eq_true] at h3
  rcases h3 with h | h
  · exact .inl (of_decide_eq_true h)
  · right
    simpa using h
theorem strOk_of {s : Str} (h : ∀ c ∈ s.cps.toList, c < 1114112) : PyData.strOk s = true := by
  unfold PyData.strOk
  rw [← Array.all_toList, List.all_eq_true]
  exact fun c hc => decide_eq_true (h c hc)
theorem numS_strOk {i : Int} (h : 0 ≤ i) : PyData.strOk (numS i) = true := strOk_of fun c hc => by
  have hc' : c ∈ tl (numS i) := hc
  rw [numS_tl h] at hc'
  have := numL_digits _ c hc'
  omega
/-! joined and split by a sign -/
theorem split_join_nl {parts : List Str} (hne : parts ≠ []) (hp : ∀ p ∈ parts, 10 ∉ tl p) : Txt.split (Txt.join ("\n" : Str) parts) ("\n" : Str) = parts := split_join (s := 10) (S := []) (by decide +kernel) (by decide +kernel) hne hp
theorem split_join_sp {parts : List Str} (hne : parts ≠ []) (hp : ∀ p ∈ parts, 32 ∉ tl p) : Txt.split (Txt.join (" " : Str) parts) (" " : Str) = parts := split_join (s := 32) (S := []) (by decide +kernel) (by decide +kernel) hne hp
theorem tl_joinT (y : Str) (parts : List Str) : tl (Txt.join y parts) = joinL (tl y) (parts.map tl) := by rw [join_eq, tl_join]
theorem joinL_mem {S : List Nat} {c : Nat} : ∀ {parts : List (List Nat)}, c ∈ joinL S parts → c ∈ S ∨ ∃ p ∈ parts, c ∈ p
  | [], h => by simp [joinL] at h
  | [p], h => .inr ⟨p, List.mem_singleton.mpr rfl, h⟩
  | p :: q :: r, h => by
    have h' : c ∈ p ++ (S ++ joinL S (q :: r)) := h
    rcases List.mem_append.mp h' with h | h
    · exact .inr ⟨p, List.mem_cons_self, h⟩
    · rcases List.mem_append.mp h with h | h
      · exact .inl h
      · rcases joinL_mem h with h | ⟨z, hz, h⟩
        · exact .inl h
        · exact .inr ⟨z, List.mem_cons_of_mem _ hz, h⟩
theorem joinL_len {S : List Nat} : ∀ {parts : List (List Nat)}, (joinL S parts).length ≤ (parts.map List.length).sum + parts.length * S.length
  | [] => by simp [joinL]
  | [p] => by simp [joinL]
  | p :: q :: r => by
    have ih := joinL_len (S := S) (parts := q :: r)
    have e : joinL S (p :: q :: r) = p ++ (S ++ joinL S (q :: r)) := rfl
    rw [e, List.length_append, List.length_append, List.map_cons, List.sum_cons, List.length_cons, Nat.add_mul]
    omega
theorem len_append (a b : Str) : (a ++ b).length = a.length + b.length := by
  rw [len_tl, len_tl a, len_tl b, tl_append, List.length_append]
theorem str_assoc (a b c : Str) : a ++ b ++ c = a ++ (b ++ c) := ext_tl (by simp only [tl_append, List.append_assoc])
theorem empty_app (a : Str) : Str.empty ++ a = a := ext_tl (by rw [tl_append]; rfl)
theorem join_two (y a b : Str) : Txt.join y [a, b] = a ++ y ++ b := ext_tl (by rw [tl_joinT, tl_append, tl_append, List.append_assoc]; rfl)
theorem join_cons (y a b : Str) (r : List Str) : Txt.join y (a :: b :: r) = a ++ y ++ Txt.join y (b :: r) := ext_tl (by rw [tl_joinT, tl_append, tl_append, tl_joinT, List.append_assoc]; rfl)
end Cu

/-! Two walks in a comprehension, stars, not of lists, lists turned round, an error with a name. -/
namespace Cu
open PySem PySem.Spec L2
section
variable {K : K'} {H0 : Hp} {L0 : List Addr} {δ : DS} {R : D → Prop} {P : Post} {ta tb te : TE}
theorem ye_notT (h : XE K H0 L0 te δ fun x => IsTru x fun b => R (.bl (!b))) : XE K H0 L0 (tNotT K te) δ R := fun σ H L rl Q q =>
  h σ H L rl _ fun v H2 x e2 dx ⟨b, ex, hr⟩ => ⟨b, tru_of (dx.mono (hid_same _ _)) ex, q _ H2 _ e2 (.bl _) hr⟩
theorem xa_star {t : TA} {R : List D → Prop} (h : XE K H0 L0 te δ fun x => ∃ ds, x = .lst ds ∧ XA K H0 L0 t δ fun es => R (ds ++ es)) : XA K H0 L0 (StX.tStar K te t) δ R := fun σ H L rl Q q =>
  h σ H L rl _ fun v H2 x e2 dx ⟨ds, ex, hx⟩ => by
    subst ex
    obtain ⟨p, xs, rfl, h1, h2⟩ := dv_seq dx
    exact ⟨p, xs, rfl, .inr (sq_mono (hid_same _ _) h1), hx σ H2 L (rl.mono e2) _ fun ys H3 es e3 dys hr => q _ H3 _ (e2.trans e3) ((h2.mono (hid_mono e3)).append dys) hr⟩
theorem xe_revL (h : XE K H0 L0 te δ fun x => ∃ ds, x = .lst ds ∧ R (.lst ds.reverse)) : XE K H0 L0 (tRevL K te) δ R := fun σ H L rl Q q =>
  h σ H L rl _ fun v H2 x e2 dx ⟨ds, ex, hr⟩ => by
    subst ex
    obtain ⟨a, xs, rfl, h1, h2⟩ := dv_seq dx
    exact ⟨a, xs, rfl, sq_mono (hid_same _ _) h1, fun p hp => q _ _ _ (e2.trans (same_upd hp)) (new_lst (rl.mono e2).lv hp h2.reverse) hr⟩
theorem xr_isB {b c : Bool} (k : R (.bl (decide (b = c)))) : XR K rIsB (.bl b) (.bl c) R := fun H L v u lv hv hu Q q => by
  cases hv; cases hu
  exact ⟨b, c, rfl, rfl, q _ H _ (Same.refl H) (.bl _) k⟩
theorem xr_notB {b c : Bool} (k : R (.bl (!decide (b = c)))) : XR K rNotB (.bl b) (.bl c) R := fun H L v u lv hv hu Q q => by
  cases hv; cases hu
  exact ⟨b, c, rfl, rfl, q _ H _ (Same.refl H) (.bl _) k⟩
end
/-! ### [e for x in xs for y in ys] -/
section
variable {K : K'} {H0 : Hp} {L0 : List Addr} {δ : DS} {R : D → Prop}
theorem wipe_set_in {σ : L2.St} {vs : List Nat} {i : Nat} {x : Option V} (h : i ∈ vs) : wipe ((wipe σ vs).set i x) vs = wipe σ vs :=
  wipe_eq (fun k hk => List.getElem?_set_ne (fun z => hk (by rw [← z]; exact h))) (by rw [List.length_set])
theorem Rel.updHid {σ : L2.St} {H : Hp} {L : List Addr} {Dl : Addr} {o : HO} (r : Rel K H0 L0 σ H L δ) (hL : Dl ∈ L) (ho : NT (some o)) (ns : ∀ {j : Nat} {u : SD} {m : Addr}, δ[j]? = some (some u) → u.own = true → σ[j]? = some (some (.ref m)) → m ≠ Dl) : Rel K H0 L0 σ (upd H Dl o) L δ := by
  have inM : Dl ∈ L0 ++ L := List.mem_append_right _ hL
  have eh : hid (L0 ++ L) (upd H Dl o) = hid (L0 ++ L) H := hid_upd_in inM
  refine ⟨r.len, by rw [hid_upd_in hL]; exact r.ex, fun j d hj => by rw [eh]; exact r.sh j d hj, fun j v d hj => by rw [eh]; exact r.sv j v d hj, fun j d hj => ?_, fun j d hj => ?_, fun j l' C ns' d hj => ?_, r.ap, fun a ha => ?_, r.dis⟩
  · obtain ⟨a, v, q1, q2, q3, q4⟩ := r.ow j d hj
    exact ⟨a, v, q1, q2, by rw [upd_ne (ns hj rfl q1)]; exact q3, by rw [eh]; exact q4⟩
  · obtain ⟨a, v, q1, q2, q3, q4⟩ := r.od j d hj
    exact ⟨a, v, q1, q2, by rw [upd_ne (ns hj rfl q1)]; exact q3, q4⟩
  · obtain ⟨dx, v, q1, q2, q3, q4, q5⟩ := r.oi j l' C ns' d hj
    exact ⟨dx, v, q1, q2, by rw [upd_ne (ns hj rfl q1)]; exact q3, q4, by rw [eh]; exact q5⟩
  · by_cases ea : a = Dl
    · rw [ea, upd_same]; exact ho
    · rw [upd_ne ea]; exact r.lv a ha
/-- what stands while the new list at Dl takes its items -/
structure LcSt (K : K') (H0 : Hp) (L0 : List Addr) (δ : DS) (σ : L2.St) (H2 : Hp) (L : List Addr) (Dl : Addr) (acc : List D) (H' : Hp) : Prop where
  rl : Rel K H0 L0 σ H' (Dl :: L) δ
  s2 : Same H2 (hid [Dl] H')
  at_ : ∃ xs, H' Dl = some (.lst xs) ∧ DvA K (hid (L0 ++ Dl :: L) H') xs acc
theorem LcSt.mono {σ : L2.St} {H2 H' H'' : Hp} {L : List Addr} {Dl : Addr} {acc : List D} (s : LcSt K H0 L0 δ σ H2 L Dl acc H') (e : Same H' H'') : LcSt K H0 L0 δ σ H2 L Dl acc H'' where
  rl := s.rl.mono e
  s2 := fun a o z => by
    obtain ⟨n2, z2⟩ := hid_at (s.s2 a o z)
    unfold hid
    rw [if_neg n2]
    exact e a o z2
  at_ := let ⟨xs, h1, h2⟩ := s.at_; ⟨xs, e _ _ h1, h2.mono (hid_mono e)⟩
theorem LcSt.push {σ : L2.St} {H2 H' : Hp} {L : List Addr} {Dl : Addr} {acc : List D} (r2 : Rel K H0 L0 σ H2 L δ) (hD : H2 Dl = none) (s : LcSt K H0 L0 δ σ H2 L Dl acc H') {w : V} {d : D} (dw : Dv K (hid (L0 ++ Dl :: L) H') w d) (hl : acc.length < 100000) :
    ∃ xs, H' Dl = some (.lst xs) ∧ xs.length < sizeLine ∧ LcSt K H0 L0 δ σ H2 L Dl (acc ++ [d]) (upd H' Dl (.lst (xs ++ [w]))) := by
  obtain ⟨xs, h1, h2⟩ := s.at_
  have inL : Dl ∈ Dl :: L := List.mem_cons_self
  have inM : Dl ∈ L0 ++ Dl :: L := List.mem_append_right _ inL
  refine ⟨xs, h1, szlt100 (by rw [h2.length]; exact hl), s.rl.updHid inL trivial (fun {j u m} hj hu hm z => ?_), by rw [hid_upd_in (by simp)]; exact s.s2, ⟨_, upd_same, ?_⟩⟩
  · obtain ⟨m', e1, e2⟩ := r2.addr hj hu
    rw [hm] at e1
    cases e1
    exact (r2.lv m (List.mem_append_right _ e2)).ne (z ▸ hD)
  · rw [hid_upd_in inM]
    exact h2.append (.cons dw .nil)
theorem flat_len {α β γ : Type} (xs : List α) (ys : List β) (f : α → β → γ) : (xs.flatMap fun x => ys.map (f x)).length = xs.length * ys.length := by
  induction xs with
  | nil => simp
  | cons a l ih => rw [List.flatMap_cons, List.length_append, List.length_map, ih, List.length_cons, Nat.add_mul]; omega
theorem xe_lc2N {α β : Type} {wi wi1 : TI} {te : TE} {vs vs1 : List Nat} {gi gj : Nat} (hi : gi ∈ vs) (hj : gj ∈ vs1) (h : XI K H0 L0 wi δ fun ds => ∃ (xs : List α) (a : α → D) (ys : List β) (b : β → D) (e : α → β → D), ds = xs.map a ∧ xs.length ≤ 200 ∧ ys.length ≤ 200 ∧
    (∀ x ∈ xs, XI K H0 L0 wi1 ((wipeD δ vs).set gi (some (.sh (a x)))) fun es => es = ys.map b ∧ ∀ y ∈ ys, XE K H0 L0 te ((wipeD ((wipeD δ vs).set gi (some (.sh (a x)))) vs1).set gj (some (.sh (b y)))) fun d => d = e x y) ∧
    R (.lst (xs.flatMap fun x => ys.map (e x)))) : XE K H0 L0 (tLc2 wi (gName gi) tYes wi1 (gName gj) tYes te vs vs1) δ R := fun σ H L rl Q q =>
  h σ H L rl _ fun J H2 ds e2 wk ⟨xs, a, ys, b, e, hds, hlx, hly, hs, hr⟩ Dl hD => by
    have r2 := rl.mono e2
    have hlen : ds.length = xs.length := by rw [hds, List.length_map]
    have nD : Dl ∉ L0 ++ L := fun z => (r2.lv Dl z).ne hD
    have gsame : ∀ {acc : List D} {H' : Hp}, LcSt K H0 L0 δ σ H2 L Dl acc H' → Same (hid (L0 ++ L) H2) (hid (L0 ++ Dl :: L) H') := fun {acc H'} s a o z => by
      obtain ⟨n1, z1⟩ := hid_at z
      obtain ⟨n2, z2⟩ := hid_at (s.s2 a o z1)
      unfold hid
      rw [if_neg ?_]
      · exact z2
      · intro w
        rcases List.mem_append.mp w with w | w
        · exact n1 (List.mem_append_left _ w)
        · rcases List.mem_cons.mp w with w | w
          · exact n2 (by simp [w])
          · exact n1 (List.mem_append_right _ w)
    refine ⟨fun i m H' => m = ds.length - i ∧ i ≤ ds.length ∧ LcSt K H0 L0 δ σ H2 L Dl ((xs.take i).flatMap fun x => ys.map (e x)) H', ⟨ds.length, by simp, Nat.zero_le _, r2.hide hD trivial, ?_, ⟨[], upd_same, .nil⟩⟩, ?_⟩
    · intro a o z
      unfold hid
      have na : a ≠ Dl := ne_of_none z hD
      rw [if_neg (by simpa using na), upd_ne na]
      exact z
    rintro i m H' ⟨rfl, hi', st⟩
    by_cases hlt : i < ds.length
    · have hx : xs[i]? = some xs[i] := by simp [show i < xs.length by omega]
      have hdi : ds[i]? = some (a xs[i]) := by
        have q0 := congrArg (fun l : List D => l[i]?) hds
        simp only [List.getElem?_map, hx] at q0
        exact q0
      generalize xs[i] = x at hx hdi
      have hmem := List.mem_of_getElem? hx
      have et : xs.take (i + 1) = xs.take i ++ [x] := by rw [List.take_add_one, hx]; rfl
      refine .inr ⟨wk.go i H' hlt ((gsame st).trans (hid_same _ _)), fun H'' => LcSt K H0 L0 δ σ H2 L Dl ((xs.take (i + 1)).flatMap fun x => ys.map (e x)) H'', fun H'' n => ⟨ds.length - (i + 1), by omega, rfl, hlt, n⟩, fun v H'' y => ?_⟩
      obtain ⟨e3, dx⟩ := wk.yld i _ H' v H'' (L0 ++ Dl :: L) hdi (gsame st) st.rl.lv y
      have st3 := st.mono e3
      refine ⟨wipe_set_in hi, ?_⟩
      show wi1 ((wipe σ vs).set gi (some v)) H'' _
      refine hs x hmem ((wipe σ vs).set gi (some v)) H'' (Dl :: L) ((st3.rl.wipe vs).set dx) _ fun J1 H4 es e4 wk1 ⟨hes, hte⟩ => ?_
      have st4 := st3.mono e4
      have dx4 := dx.mono (hid_mono (L := L0 ++ Dl :: L) e4)
      have hle : es.length = ys.length := by rw [hes, List.length_map]
      have same4 : ∀ {acc : List D} {H5 : Hp}, Same (hid (L0 ++ Dl :: L) H4) (hid (L0 ++ Dl :: L) H5) → Same (hid (L0 ++ Dl :: L) H4) H5 := fun z => z.trans (hid_same _ _)
      refine ⟨fun j k H5 => k = es.length - j ∧ j ≤ es.length ∧ LcSt K H0 L0 δ σ H2 L Dl (((xs.take i).flatMap fun x => ys.map (e x)) ++ (ys.take j).map (e x)) H5 ∧ Same (hid (L0 ++ Dl :: L) H4) (hid (L0 ++ Dl :: L) H5), ⟨es.length, by simp, Nat.zero_le _, by simpa using st4, Same.refl _⟩, ?_⟩
      rintro j k H5 ⟨rfl, hj', st5, sm5⟩
      by_cases hltj : j < es.length
      · have hy : ys[j]? = some ys[j] := by simp [show j < ys.length by omega]
        have hej : es[j]? = some (b ys[j]) := by
          have q0 := congrArg (fun l : List D => l[j]?) hes
          simp only [List.getElem?_map, hy] at q0
          exact q0
        generalize ys[j] = y' at hy hej
        have ety : ys.take (j + 1) = ys.take j ++ [y'] := by rw [List.take_add_one, hy]; rfl
        refine .inr ⟨wk1.go j H5 hltj (sm5.trans (hid_same _ _)), fun H6 => LcSt K H0 L0 δ σ H2 L Dl (((xs.take i).flatMap fun x => ys.map (e x)) ++ (ys.take (j + 1)).map (e x)) H6 ∧ Same (hid (L0 ++ Dl :: L) H4) (hid (L0 ++ Dl :: L) H6), fun H6 n => ⟨es.length - (j + 1), by omega, rfl, hltj, n.1, n.2⟩, fun v1 H6 y1 => ?_⟩
        obtain ⟨e6, dy⟩ := wk1.yld j _ H5 v1 H6 (L0 ++ Dl :: L) hej sm5 st5.rl.lv y1
        have st6 := st5.mono e6
        have sm6 : Same (hid (L0 ++ Dl :: L) H4) (hid (L0 ++ Dl :: L) H6) := sm5.trans (hid_mono e6)
        refine ⟨wipe_set_in hj, ?_⟩
        show te ((wipe ((wipe σ vs).set gi (some v)) vs1).set gj (some v1)) H6 _
        have dx6 : Dv K (hid (L0 ++ Dl :: L) H6) v (a x) := dx4.mono sm6
        refine hte y' (List.mem_of_getElem? hy) _ H6 (Dl :: L) ((((st6.rl.wipe vs).set dx6).wipe vs1).set dy) _ fun w H7 d e7 dw hd => ?_
        subst hd
        have st7 := st6.mono e7
        have la : (((xs.take i).flatMap fun x => ys.map (e x)) ++ (ys.take j).map (e x)).length < 100000 := by
          rw [List.length_append, flat_len, List.length_map, List.length_take, List.length_take]
          have : min i xs.length * ys.length ≤ 200 * 200 := Nat.mul_le_mul (by omega) hly
          omega
        obtain ⟨zs, z1, z2, z3⟩ := st7.push r2 hD dw la
        refine ⟨zs, z1, z2, ?_, ?_⟩
        · rw [ety, List.map_append, ← List.append_assoc]
          exact z3
        · rw [hid_upd_in (List.mem_append_right _ List.mem_cons_self)]
          exact sm6.trans (hid_mono e7)
      · have ej : j = es.length := by omega
        subst ej
        refine .inl ⟨wk1.stop H5 (sm5.trans (hid_same _ _)), ?_⟩
        show LcSt K H0 L0 δ σ H2 L Dl ((xs.take (i + 1)).flatMap fun x => ys.map (e x)) H5
        rw [hle, List.take_length] at st5
        rw [et, List.flatMap_append]
        simpa using st5
    · have ei : i = ds.length := by omega
      subst ei
      rw [hlen, List.take_length] at st
      obtain ⟨zs, h1, h2⟩ := st.at_
      refine .inl ⟨wk.stop H' ((gsame st).trans (hid_same _ _)), q _ H' _ (e2.trans (st.s2.trans (hid_same _ _))) ?_ hr⟩
      have sub : ∀ a ∈ L0 ++ L, a ∈ L0 ++ Dl :: L := fun a ha => (List.mem_append.mp ha).elim (fun z => List.mem_append_left _ z) fun z => List.mem_append_right _ (List.mem_cons_of_mem _ z)
      refine .lst ?_ (h2.mono (hid_sub sub))
      unfold hid
      rw [if_neg nD]
      exact h1
end
/-! ### except D as e: return isinstance(e, ValueError) -/
def tIsExc (K : K') (D : Addr) (a : Addr) (cls : Value) (d : Option Addr) (ta : TA) : TE := fun σ H Q => cls = .ref D ∧ d = none ∧ tCB (rIsE K D a) ta σ H Q
theorem pe_isExc {X : Cx} {K : K'} {a D : Addr} {oe : Obj} {cls : Value} {d : Option Addr} {pn : List (Addr × Obj)} {e c : Expr} {ta : TA} {p pos : Pos} (eK : X.K = K) (C : ExcC K D) (hz : Zc cls d oe) (hf : ∃ vs, oe.data = .fields vs) (hg : Gl (X.suite a ((a, oe) :: pn)) "isinstance") (hm : X.mg "isinstance" = none)
    (ha : PA (X.suite a ((a, oe) :: pn)) [e, c] ta) (he : starEach [e, c] X.env = (false, eval e X.env) :: starEach [c] X.env := by rfl) (hpl : (backTo pos (starEach [c] X.env)).any (·.1) = false := by rfl) :
    PE (X.suite a ((a, oe) :: pn)) (.Call (.Name "isinstance" p) [e, c] [] pos) (tIsExc K D a cls d ta) := by
  subst eK
  refine ⟨fun pins s σ H Q I h => ?_⟩
  obtain ⟨rfl, rfl, h⟩ := h
  exact (pe_callB (call_isE C hz hf) hg hm (by decide +kernel) ha (by decide) (by decide) he hpl).run pins s σ H Q I h
def tTryIs (K : K') (D : Addr) (i : Nat) (tb : WX → TS) : TS := fun Dd σ H => tb (wAs K (.ref D) i (fun a cls d => tRet (tIsExc K D a cls d (tCons (tVar i) (tCons (tC (.ty "ValueError")) tNil)))) (fun _ _ _ _ => False) Dd) Dd σ H
theorem xs_tryIs {K : K'} {H0 : Hp} {L0 : List Addr} {δ : DS} {P : Post} {D : Addr} {i : Nat} {tb : WX → TS} (he : PySem.W.exmOne K (.ref D) (.ref D) = some true) (hi : i < δ.length) (hk : PySem.W.kitOne K (.ref D) (.type "ValueError") = some true) (hr : P.rt (.bl true))
    (hb : ∀ W : WX, (∀ c σ H L, c = D → Rel K H0 L0 σ H L δ → W (.ref c) none σ H) → XS K H0 L0 (tb W) δ P) : XS K H0 L0 (tTryIs K D i tb) δ P := fun σ H L rl Dd n r b c =>
  hb (wAs K (.ref D) i (fun a cls d => tRet (tIsExc K D a cls d (tCons (tVar i) (tCons (tC (.ty "ValueError")) tNil)))) (fun _ _ _ _ => False) Dd) (fun cc σ' H' L' hc rl' => by
    subst hc
    refine ⟨true, he, fun _ a ha => ?_, fun z => nomatch z⟩
    refine ⟨rfl, rfl, ?_⟩
    refine ⟨.ref a, by rw [List.getElem?_set_self (by rw [rl'.len]; exact hi)], ?_⟩
    refine ⟨.ty "ValueError", .type "ValueError", true, rfl, fun u z => z, hk, ?_⟩
    exact r (.bl true) H' (.bl true) (rl'.ex.trans (hid_same _ _)) (.bl true) hr) σ H L rl Dd n r b c
theorem ps_tryIs {X : Cx} {K : K'} {D : Addr} {i : Nat} {x n : Str} {body : List Stmt} {np pos pos' : Pos} {tb : WX → TS} (eK : X.K = K) (hs : X.stack = X.env :: X.outer) (hf : X.env.frame = some X.env.locals) (hN : X.N.Nodup) (hi : X.N[i]? = some n) (hln : X.env.kindOf n = some .local) (hc : Names X x (.ref D))
    (hb : ∀ (W : WX) (pn : List (Addr × Obj)) (xe : Value → Shared → Prop), Takes (X.tr pn xe) W → PassesOwn (model X.prog X.w) X.A X.env xe → PSs (X.tr pn xe) body (tb W)) (b₀ : Stmt)
    (hsu : ∀ (a : Addr) (oe : Obj) (cls : Value) (d : Option Addr) (pn : List (Addr × Obj)), Zc cls d oe → (∃ vs, oe.data = .fields vs) → PSs (X.suite a ((a, oe) :: pn)) [b₀] (tRet (tIsExc K D a cls d (tCons (tVar i) (tCons (tC (.ty "ValueError")) tNil))))) :
    PS X (.Try body [.ExceptHandler (some (.Name x np)) (some n) [b₀] pos'] [] [] pos) (tTryIs K D i tb) := by
  subst eK
  exact ps_try_as (ts := fun a cls d => tRet (tIsExc X.K D a cls d (tCons (tVar i) (tCons (tC (.ty "ValueError")) tNil)))) hs hf hN hi hln hc takes0 hb hsu
theorem pe_revLK {X : Cx} {K : K'} {e : Expr} {te : TE} {k : Nat} {p1 p2 p3 pos : Pos} (eK : X.K = K) (he : PE X e te) : PE X (.Subscript e (.Slice none none (some (.UnaryOp .USub (.Constant (.int 1) k p1) p2)) p3) pos) (tRevL K te) := eK ▸ pe_revL he
theorem pa_starK {X : Cx} {K : K'} {e : Expr} {es : List Expr} {p : Pos} {te : TE} {t : TA} (eK : X.K = K) (h : PE X e te) (r : PA X es t) : PA X (.Starred e p :: es) (StX.tStar K te t) := eK ▸ StX.pa_star h r
theorem pe_notTK {X : Cx} {K : K'} {a : Expr} {pos : Pos} {ta : TE} (eK : X.K = K) (h : PE X a ta) : PE X (.UnaryOp .Not a pos) (tNotT K ta) := eK ▸ pe_notT h
end Cu

namespace Cu
open PySem PySem.Spec L2 TL
local macro_rules | `(tactic| walk_at "cnd") => `(tactic| first
  | exact Or.inl (Or.inr ⟨by decide, by decide⟩)
  | exact Or.inl (Or.inl ⟨by decide, by decide⟩)
  | exact ⟨by decide, by decide⟩
  | exact ⟨by decide, by decide, by decide⟩
  | assumption
  | omega)
local macro_rules | `(tactic| walk_at "x1") => `(tactic| first
  | with_reducible refine xs_seq ?_
  | (with_reducible refine xs_own ?_)
  | (with_reducible refine xs_ownD ?_)
  | (with_reducible refine xs_asg ?_)
  | (with_reducible refine ye_andV ?_)
  | (with_reducible refine ye_orV ?_)
  | (with_reducible refine ye_notV ?_)
  | (with_reducible refine ye_if ?_)
  | (with_reducible refine yt_test ?_)
  | (with_reducible refine yt_B ?_)
  | (with_reducible refine yt_and ?_)
  | (with_reducible refine yt_or ?_)
  | (with_reducible refine xt_not ?_)
  | (with_reducible refine yt_truth ?_)
  | (with_reducible refine ye_chain ?_)
  | (with_reducible refine xe_op ?_)
  | (with_reducible refine xe_un ?_)
  | (with_reducible refine xu_neg ?_)
  | (with_reducible refine xa_nil ?_)
  | (with_reducible refine xa_cons ?_)
  | ((with_reducible refine' xe_lstDT ?v_ ?_); (case v_ => rfl))
  | (with_reducible refine xe_cb ?_)
  | (with_reducible refine xe_int ?_)
  | (with_reducible refine xe_bl ?_)
  | (with_reducible refine xe_non ?_)
  | (with_reducible refine xe_str ?_)
  | (with_reducible refine xe_ty ?_)
  | ((with_reducible refine' xe_var ?v_ ?_); (case v_ => rfl))
  | ((with_reducible refine' xe_sv ?v_ ?_); (case v_ => rfl))
  | (with_reducible refine xe_call0 ?_)
  | (with_reducible refine ye_methN ?_)
  | ((with_reducible refine noIn ?v_ ?_); (case v_ => decide))
  | ((with_reducible refine' fldk ?v_ ?_); (case v_ => rfl))
  | (with_reducible refine xs_retN ?_)
  | (with_reducible refine xsl_K ?_)
  | (with_reducible refine ye_make ?_)
  | (with_reducible refine isTup ?_)
  | (with_reducible refine ye_isTL ?_)
  | (with_reducible refine xc_isInt ?_)
  | (with_reducible refine xc_lstK ?_)
  | (with_reducible refine xc_all ?_)
  | (with_reducible refine xc_any ?_)
  | ((with_reducible refine' xr_ixK ?a_ ?_); (case a_ => rfl))
  | (with_reducible refine isStr ?_)
  | (with_reducible refine yi_str ?_)
  | (with_reducible refine ye_tup ?_)
  | (with_reducible refine ye_lst ?_)
  | ((with_reducible refine sml ?s_ ?_); (case s_ => exact Nat.le_of_ble_eq_true rfl))
  | (with_reducible refine isBl ?_)
  | (with_reducible refine isInt ?_)
  | (with_reducible refine isTru_bl ?_)
  | (with_reducible refine isTru_int ?_)
  | (with_reducible refine isTru_non ?_)
  | (with_reducible refine isTru_lst ?_)
  | (with_reducible refine isTru_tup ?_)
  | (with_reducible refine isSeq_l ?_)
  | (with_reducible refine isSeq_t ?_)
  | (with_reducible refine isSeq1_l ?_)
  | (with_reducible refine isSeq1_t ?_)
  | (with_reducible refine isIns ?_)
  | (with_reducible refine xr_addI ?_)
  | ((with_reducible refine xr_addT ?s_ ?_); (case s_ => exact Nat.le_of_ble_eq_true rfl))
  | (with_reducible refine xr_I0 ?_)
  | (with_reducible refine xr_B0 ?_)
  | (with_reducible refine xr_eqI ?_)
  | (with_reducible refine xr_neI ?_)
  | (with_reducible refine xr_isN0 ?_)
  | (with_reducible refine xr_isNi ?_)
  | (with_reducible refine xr_isNt ?_)
  | (with_reducible refine xr_isNl ?_)
  | (with_reducible refine xr_notN0 ?_)
  | (with_reducible refine xr_notNi ?_)
  | (with_reducible refine xr_notNt ?_)
  | (with_reducible refine xr_notNl ?_)
  | (with_reducible refine xr_isNn ?_)
  | (with_reducible refine xr_notNn ?_)
  | ((with_reducible refine xr_I ?c_ ?_); (case c_ => walk_at "cnd"))
  | ((with_reducible refine' xr_ixT ?a_ ?_); (case a_ => rfl))
  | ((with_reducible refine' xr_ixL ?a_ ?_); (case a_ => rfl))
  | (with_reducible refine yo_some ?_)
  | (with_reducible refine xo_none ?_)
  | (with_reducible refine xe_sl ?_)
  | (with_reducible refine xsl_L ?_)
  | (with_reducible refine xsl_T ?_)
  | (with_reducible refine xc_lenL ?_)
  | (with_reducible refine xc_lenT ?_)
  | ((with_reducible refine xc_lenS ?s_ ?_); (case s_ => omega))
  | (with_reducible refine xc_abs ?_)
  | (with_reducible refine xc_max2 ?_)
  | (with_reducible refine xc_min2 ?_)
  | (with_reducible refine xc_intI ?_)
  | (with_reducible refine xc_intB ?_)
  | (with_reducible refine xc_gcd ?_)
  | (with_reducible refine xc_tupL ?_)
  | (with_reducible refine xc_tupT ?_)
  | (with_reducible refine xc_lstL ?_)
  | (with_reducible refine xc_lstT ?_)
  | (with_reducible refine xs_ret ?_)
  | (with_reducible refine yi_rng1 ?_)
  | (with_reducible refine yi_any ?_)
  | (with_reducible refine yi_enum ?_)
  | ((with_reducible refine isRng ?r_ ?_); (case r_ => first | omega | assumption))
  | ((with_reducible refine' xs_app ?h_ ?l_ ?_); (case h_ => rfl); (case l_ => first | (simp only [List.length_map, List.length_cons, List.length_nil, List.length_append]; omega) | fail))
  | ((with_reducible refine' xs_aug ?h_ ?_); (case h_ => rfl))
  | (with_reducible refine ys_if ?_)
  | (with_reducible refine xs_next ?_)
  | (with_reducible refine xs_drop ?_)
  | (with_reducible refine ys_par ?_)
  | (with_reducible refine xg_name ?_)
  | (with_reducible refine ys_asgT ?_)
  | (with_reducible refine yg_name ?_)
  | ((with_reducible refine yg_tup ?n_ ?_); (case n_ => rfl))
  | (with_reducible refine ygs_cons ?_)
  | (with_reducible refine ygs_nil ?_)
  | ((with_reducible refine xg_tup ?n_ ?_); (case n_ => rfl))
  | (with_reducible refine xgs_cons ?_)
  | (with_reducible refine xgs_nil ?_)
  | (with_reducible refine xt_yes ?_)
  | (with_reducible refine br_t ?_)
  | (with_reducible refine br_f ?_)
  | (with_reducible refine br_n ?_))
local macro_rules | `(tactic| walk_at "x") => `(tactic| repeat' (walk_at "x1"))

def top (i : Nat) : Stmt := PySem.Challenge.pw_cushioned_k61_whole_checked_texts.main.body.getD i (.Pass ⟨0, 0, 0, 0⟩)
/-! ### what the text asks of the top -/
structure Tx (K : K') (mg : Str → Option Value) (C_Table C_InvalidTable C_InvalidBall aW : Addr) (tk : Nat → Tok) : Prop where
  b_range : mg "range" = none
  b_int : mg "int" = none
  b_abs : mg "abs" = none
  b_len : mg "len" = none
  b_max : mg "max" = none
  b_all : mg "all" = none
  b_any : mg "any" = none
  b_tuple : mg "tuple" = none
  b_list : mg "list" = none
  b_sorted : mg "sorted" = none
  b_isinstance : mg "isinstance" = none
  b_enumerate : mg "enumerate" = none
  b_str : mg "str" = none
  b_bool : mg "bool" = none
  b_ValueError : mg "ValueError" = none
  g_gcd : mg "gcd" = some (.builtin "math.gcd")
  m_MOST : mg "MOST" = some (.int 1000000000000000000000000000000 (tk 0))
  m_MOST_POCKETS : mg "MOST_POCKETS" = some (.int 12 (tk 1))
  m_NAME_CHARS : mg "NAME_CHARS" = some (.str "abcdefghijklmnopqrstuvwxyz0123456789" (tk 2))
  m_MOST_NAME_CHARS : mg "MOST_NAME_CHARS" = some (.int 12 (tk 3))
  m_DIGITS : mg "DIGITS" = some (.str "0123456789" (tk 4))
  m_MOST_DIGITS : mg "MOST_DIGITS" = some (.int 70 (tk 5))
  m_PAIR_NUMBERS : mg "PAIR_NUMBERS" = some (.int 5 (tk 6))
  m_WHOLE : mg "WHOLE" = some (.ref aW)
  d_WHOLE : ∀ H, Dv K H (.ref aW) (.klst [.tup [.int 0, .int 1]])
  c_Table : mg "Table" = some (.ref C_Table)
  cl_Table : Cls K C_Table
  n_width : NoAttr K C_Table "width"
  n_height : NoAttr K C_Table "height"
  n_pockets : NoAttr K C_Table "pockets"
  e_InvalidTable : Er K mg "InvalidTable" C_InvalidTable
  x_InvalidTable : Ec K C_InvalidTable
  e_InvalidBall : Er K mg "InvalidBall" C_InvalidBall
  x_InvalidBall : Ec K C_InvalidBall
  s_InvalidBall_InvalidBall : PySem.W.subIn K (.ref C_InvalidBall) (.ref C_InvalidBall) = some true
  x61 : ExcC K C_InvalidBall
  v61 : PySem.W.kitOne K (.ref C_InvalidBall) (.type "ValueError") = some true
section
variable {K : K'} {mg : Str → Option Value} {C_Table C_InvalidTable C_InvalidBall aW : Addr} {tk : Nat → Tok} {H0 : Hp} {L0 : List Addr} {δ : DS} {R : D → Prop} {te : TE} {P : Post}
theorem f_width (T : Tx K mg C_Table C_InvalidTable C_InvalidBall aW tk) (h : XE K H0 L0 te δ fun x => IsIns C_Table x fun ns ds => Fld ns ds "width" R) : XE K H0 L0 (tFld K te "width") δ R := ye_fldN T.cl_Table T.n_width h
theorem f_height (T : Tx K mg C_Table C_InvalidTable C_InvalidBall aW tk) (h : XE K H0 L0 te δ fun x => IsIns C_Table x fun ns ds => Fld ns ds "height" R) : XE K H0 L0 (tFld K te "height") δ R := ye_fldN T.cl_Table T.n_height h
theorem f_pockets (T : Tx K mg C_Table C_InvalidTable C_InvalidBall aW tk) (h : XE K H0 L0 te δ fun x => IsIns C_Table x fun ns ds => Fld ns ds "pockets" R) : XE K H0 L0 (tFld K te "pockets") δ R := ye_fldN T.cl_Table T.n_pockets h
theorem s_width {i : Nat} {l : Addr} {ns : List Str} {ds : List D} (T : Tx K mg C_Table C_InvalidTable C_InvalidBall aW tk) (h0 : δ[i]? = some (some (.oi l C_Table ns ds))) (hf : ("width" : Str) ∉ ns) (hl : ns.length < 1000) (h : XE K H0 L0 te δ fun d => P.nx (δ.set i (some (.oi l C_Table (ns ++ [("width" : Str)]) (ds ++ [d]))))) :
    XS K H0 L0 (sFld K (tVar i) te "width") δ P := xs_fldN T.cl_Table T.n_width h0 hf hl h
theorem s_height {i : Nat} {l : Addr} {ns : List Str} {ds : List D} (T : Tx K mg C_Table C_InvalidTable C_InvalidBall aW tk) (h0 : δ[i]? = some (some (.oi l C_Table ns ds))) (hf : ("height" : Str) ∉ ns) (hl : ns.length < 1000) (h : XE K H0 L0 te δ fun d => P.nx (δ.set i (some (.oi l C_Table (ns ++ [("height" : Str)]) (ds ++ [d]))))) :
    XS K H0 L0 (sFld K (tVar i) te "height") δ P := xs_fldN T.cl_Table T.n_height h0 hf hl h
theorem s_pockets {i : Nat} {l : Addr} {ns : List Str} {ds : List D} (T : Tx K mg C_Table C_InvalidTable C_InvalidBall aW tk) (h0 : δ[i]? = some (some (.oi l C_Table ns ds))) (hf : ("pockets" : Str) ∉ ns) (hl : ns.length < 1000) (h : XE K H0 L0 te δ fun d => P.nx (δ.set i (some (.oi l C_Table (ns ++ [("pockets" : Str)]) (ds ++ [d]))))) :
    XS K H0 L0 (sFld K (tVar i) te "pockets") δ P := xs_fldN T.cl_Table T.n_pockets h0 hf hl h
theorem c_whole (T : Tx K mg C_Table C_InvalidTable C_InvalidBall aW tk) (k : R (.klst [.tup [.int 0, .int 1]])) : XE K H0 L0 (tC (.ref aW)) δ R := xe_c T.d_WHOLE k
end
/-! ### the data -/
abbrev tblD (C : Addr) (w h : Int) (ps : List (Int × Int)) : D := .ins C ["width", "height", "pockets"] [.int w, .int h, .tup (ps.map pairD)]
def isPt (w h x y : Int) : Bool := decide (0 ≤ x ∧ x ≤ w) && decide (0 ≤ y ∧ y ≤ h)
def nameOk (s : Str) : Bool := decide (1 ≤ s.length ∧ s.length ≤ 12) && (match s.cps.toList with | c :: _ => !decide (c ∈ ("0123456789" : Str).cps.toList) | [] => false) && s.cps.toList.all (fun c => decide (c ∈ ("abcdefghijklmnopqrstuvwxyz0123456789" : Str).cps.toList))
structure BallV where
  n : Str
  x : Int
  y : Int
  dx : Int
  dy : Int
  m : Int
abbrev ballD (b : BallV) : D := .tup [.str b.n, .int b.x, .int b.y, .int b.dx, .int b.dy, .int b.m]
def okB (w h : Int) (b : BallV) : Bool := isPt w h b.x b.y && decide (0 ≤ b.m ∧ b.m ≤ 1000000000000000000000000000000) && ((decide (-1 = b.dx) || (decide (0 = b.dx) || decide (1 = b.dx))) && (decide (-1 = b.dy) || (decide (0 = b.dy) || decide (1 = b.dy))) && !(decide (b.dx = 0) && decide (b.dy = 0)))
theorem okB_of {w h : Int} {b : BallV} (k : okB w h b = true) : isPt w h b.x b.y = true ∧ (0 ≤ b.m ∧ b.m ≤ 1000000000000000000000000000000) ∧ (b.dx = -1 ∨ b.dx = 0 ∨ b.dx = 1) ∧ (b.dy = -1 ∨ b.dy = 0 ∨ b.dy = 1) ∧ ¬ (b.dx = 0 ∧ b.dy = 0) := by
  unfold okB at k
  simp only [Bool.and_eq_true, Bool.or_eq_true, decide_eq_true_eq, Bool.not_eq_true', Bool.and_eq_false_iff, decide_eq_false_iff_not] at k
  obtain ⟨⟨h1, h2⟩, ⟨h3, h4⟩, h5⟩ := k
  exact ⟨h1, h2, by omega, by omega, by omega⟩
theorem isPt_of {w h x y : Int} (k : isPt w h x y = true) : (0 ≤ x ∧ x ≤ w) ∧ (0 ≤ y ∧ y ≤ h) := by
  unfold isPt at k
  simp only [Bool.and_eq_true, decide_eq_true_eq] at k
  exact k
theorem isPt_mk {w h x y : Int} (a : 0 ≤ x ∧ x ≤ w) (b : 0 ≤ y ∧ y ≤ h) : isPt w h x y = true := by
  unfold isPt
  rw [decide_eq_true a, decide_eq_true b]
  rfl
theorem okB_mk {w h : Int} {b : BallV} (h1 : 0 ≤ b.x ∧ b.x ≤ w) (h2 : 0 ≤ b.y ∧ b.y ≤ h) (h3 : 0 ≤ b.m ∧ b.m ≤ 1000000000000000000000000000000) (h4 : b.dx = -1 ∨ b.dx = 0 ∨ b.dx = 1) (h5 : b.dy = -1 ∨ b.dy = 0 ∨ b.dy = 1) (h6 : ¬ (b.dx = 0 ∧ b.dy = 0)) : okB w h b = true := by
  unfold okB isPt
  simp only [Bool.and_eq_true, Bool.or_eq_true, decide_eq_true_eq, Bool.not_eq_true', Bool.and_eq_false_iff, decide_eq_false_iff_not]
  exact ⟨⟨⟨h1, h2⟩, h3⟩, ⟨by omega, by omega⟩, by omega⟩
/-- a table -/
structure OkT (w h : Int) (ps : List (Int × Int)) : Prop where
  w1 : 1 ≤ w
  w2 : w ≤ 1000000000000000000000000000000
  h1 : 1 ≤ h
  h2 : h ≤ 1000000000000000000000000000000
  len : ps.length ≤ 12
  nd : ps.Nodup
  pt : ∀ p ∈ ps, isPt w h p.1 p.2 = true
/-! rows of papers -/
abbrev rowVD : RowV → D
  | .x => .tup [.str "x"]
  | .y => .tup [.str "y"]
  | .pr r m s n d => .tup [.str "pair", .int r, .int m, .int s, .int n, .int d]
def RowOk (B : Int) : RowV → Prop
  | .pr r m s n d => (0 ≤ r ∧ r ≤ B) ∧ (0 ≤ m ∧ m ≤ B) ∧ (0 ≤ s ∧ s ≤ B) ∧ (0 ≤ n ∧ n ≤ B) ∧ 0 ≤ d ∧ d ≤ B
  | _ => True
theorem RowOk.le {B C : Int} (h : B ≤ C) {row : RowV} (k : RowOk B row) : RowOk C row := by
  cases row with
  | x => trivial
  | y => trivial
  | pr r m s n d =>
    obtain ⟨a, b, c, d, e⟩ := k
    exact ⟨by omega, by omega, by omega, by omega, by omega⟩
theorem eqD_row (a b : RowV) : eqD (rowVD a) (rowVD b) = decide (a = b) := by
  have n1 : decide (("x" : Str) = ("y" : Str)) = false := by decide +kernel
  have n2 : decide (("y" : Str) = ("x" : Str)) = false := by decide +kernel
  have n3 : decide (("x" : Str) = ("pair" : Str)) = false := by decide +kernel
  have n4 : decide (("y" : Str) = ("pair" : Str)) = false := by decide +kernel
  have n5 : decide (("pair" : Str) = ("x" : Str)) = false := by decide +kernel
  have n6 : decide (("pair" : Str) = ("y" : Str)) = false := by decide +kernel
  cases a with
  | x =>
    cases b with
    | x => simp [eqD_tc, eqD_tn, eqD_str]
    | y => simp only [rowVD, eqD_tc, eqD_str, n1, Bool.false_and]; rfl
    | pr => simp only [rowVD, eqD_tc, eqD_str, n3, Bool.false_and]; rfl
  | y =>
    cases b with
    | x => simp only [rowVD, eqD_tc, eqD_str, n2, Bool.false_and]; rfl
    | y => simp [eqD_tc, eqD_tn, eqD_str]
    | pr => simp only [rowVD, eqD_tc, eqD_str, n4, Bool.false_and]; rfl
  | pr r m s n d =>
    cases b with
    | x => simp only [rowVD, eqD_tc, eqD_str, n5, Bool.false_and]; rfl
    | y => simp only [rowVD, eqD_tc, eqD_str, n6, Bool.false_and]; rfl
    | pr r' m' s' n' d' =>
      simp only [rowVD, eqD_tc, eqD_tn, eqD_str, eqD_int, decide_true, Bool.true_and, Bool.and_true]
      rw [Bool.eq_iff_iff]
      simp only [Bool.and_eq_true, decide_eq_true_eq, RowV.pr.injEq]
theorem eqD_rows : ∀ as bs : List RowV, eqD (.lst (as.map rowVD)) (.lst (bs.map rowVD)) = decide (as = bs)
  | [], [] => by rw [List.map_nil, eqD_ln]; rfl
  | [], b :: bs => by rw [List.map_nil, List.map_cons, eqD_lr]; rfl
  | a :: as, [] => by rw [List.map_nil, List.map_cons, eqD_ll]; rfl
  | a :: as, b :: bs => by
    rw [List.map_cons, List.map_cons, eqD_lc, eqD_row, eqD_rows as bs, Bool.eq_iff_iff, Bool.and_eq_true, decide_eq_true_eq, decide_eq_true_eq, decide_eq_true_eq]
    exact ⟨fun h => by rw [h.1, h.2], fun h => ⟨(List.cons.inj h).1, (List.cons.inj h).2⟩⟩
theorem row_cmp (a : RowV) : cmpD (rowVD a) = true ∧ depD (rowVD a) = 1 := by
  have s1 : PyData.strOk ("x" : Str) = true := by decide +kernel
  have s2 : PyData.strOk ("y" : Str) = true := by decide +kernel
  have s3 : PyData.strOk ("pair" : Str) = true := by decide +kernel
  cases a with
  | x => exact ⟨by simp [cmpD, cmpDs, s1], by simp [depD, depDs]⟩
  | y => exact ⟨by simp [cmpD, cmpDs, s2], by simp [depD, depDs]⟩
  | pr => exact ⟨by simp [cmpD, cmpDs, s3], by simp [depD, depDs]⟩
theorem row_okD (a : RowV) : okD (rowVD a) = true := okD_of (row_cmp a).1 (by rw [(row_cmp a).2]; decide)
theorem rows_okL (as : List RowV) : okD (.lst (as.map rowVD)) = true := by
  have h : ∀ as : List RowV, cmpDs (as.map rowVD) = true ∧ depDs (as.map rowVD) ≤ 1 := by
    intro as
    induction as with
    | nil => exact ⟨by simp [cmpDs], by simp [depDs]⟩
    | cons a as ih =>
      obtain ⟨h1, h2⟩ := row_cmp a
      rw [List.map_cons]
      exact ⟨by simp [cmpDs, h1, ih.1], by simp only [depDs, h2]; omega⟩
  obtain ⟨h1, h2⟩ := h as
  refine okD_of (by simpa [cmpD] using h1) ?_
  simp only [depD]
  omega
/-! the written form -/
def rowWords : RowV → List Str
  | .x => ["x"]
  | .y => ["y"]
  | .pr r m s n d => ["pair", numS r, numS m, numS s, numS n, numS d]
def lineOf (ws : List Str) : Str := Txt.join (" " : Str) ws
def allWords (rows : List RowV) : List (List Str) := ["never"] :: rows.map rowWords
def linesOf (rows : List RowV) : List Str := (allWords rows).map lineOf
def paperText (rows : List RowV) : Str := Txt.join ("\n" : Str) (linesOf rows)
/-- a word of the form: short, no blank and no new line within -/
def WordOk (s : Str) : Prop := (tl s).length ≤ 40 ∧ 32 ∉ tl s ∧ 10 ∉ tl s ∧ PyData.strOk s = true
theorem WordOk.num {i : Int} (h : 0 ≤ i) (h2 : i ≤ 1000000) : WordOk (numS i) := by
  have := numS_len (i := i) (k := 31) (by decide) h (by
    have e : ((10 ^ 31 : Nat) : Int) = 10000000000000000000000000000000 := by decide +kernel
    rw [e]; omega)
  rw [len_tl] at this
  exact ⟨by omega, numS_free h (by omega), numS_free h (by omega), numS_strOk h⟩
theorem num70 {i : Int} (h : 0 ≤ i) (h2 : i ≤ 1000000) : numOk 70 (numS i) = true := numS_ok (by decide) h (by
  have e : (10000000 : Int) ≤ ((10 ^ 70 : Nat) : Int) := by decide +kernel
  omega)
theorem num_len {i : Int} (h : 0 ≤ i) (h2 : i ≤ 1000000) : (numS i).length ≤ 40 := by
  rw [len_tl]
  exact (WordOk.num h h2).1
theorem num_int {i : Int} (h : 0 ≤ i) (h2 : i ≤ 1000000) : PySem.intText? (numS i) = some i := numS_int h (by have := num_len h h2; omega)
theorem rowWords_ok {row : RowV} (k : RowOk 1000000 row) : rowWords row ≠ [] ∧ (rowWords row).length ≤ 7 ∧ ∀ s ∈ rowWords row, WordOk s := by
  have w : ∀ s : Str, s = "x" ∨ s = "y" ∨ s = "pair" → WordOk s := fun s hs => by
    rcases hs with rfl | rfl | rfl <;> exact ⟨by decide +kernel, by decide +kernel, by decide +kernel, by decide +kernel⟩
  cases row with
  | x => exact ⟨by simp [rowWords], by simp [rowWords], fun s hs => w s (.inl (List.mem_singleton.mp hs))⟩
  | y => exact ⟨by simp [rowWords], by simp [rowWords], fun s hs => w s (.inr (.inl (List.mem_singleton.mp hs)))⟩
  | pr r m s n d =>
    obtain ⟨a, b, c, d', e⟩ := k
    refine ⟨by simp [rowWords], by simp [rowWords], fun z hz => ?_⟩
    simp only [rowWords, List.mem_cons, List.not_mem_nil, or_false] at hz
    rcases hz with rfl | rfl | rfl | rfl | rfl | rfl
    · exact w _ (.inr (.inr rfl))
    · exact WordOk.num a.1 a.2
    · exact WordOk.num b.1 b.2
    · exact WordOk.num c.1 c.2
    · exact WordOk.num d'.1 d'.2
    · exact WordOk.num e.1 e.2
theorem allWords_ok {rows : List RowV} (k : ∀ row ∈ rows, RowOk 1000000 row) : ∀ ws ∈ allWords rows, ws ≠ [] ∧ ws.length ≤ 7 ∧ ∀ s ∈ ws, WordOk s := by
  intro ws hw
  rcases List.mem_cons.mp hw with rfl | hw
  · refine ⟨by simp, by simp, fun s hs => ?_⟩
    rw [List.mem_singleton.mp hs]
    exact ⟨by decide +kernel, by decide +kernel, by decide +kernel, by decide +kernel⟩
  · obtain ⟨row, hr, rfl⟩ := List.mem_map.mp hw
    exact rowWords_ok (k row hr)
theorem sum_le {ls : List Nat} {m : Nat} (h : ∀ l ∈ ls, l ≤ m) : ls.sum ≤ ls.length * m := by
  induction ls with
  | nil => simp
  | cons a ls ih =>
    have h1 := h a List.mem_cons_self
    have h2 := ih fun l hl => h l (List.mem_cons_of_mem _ hl)
    rw [List.sum_cons, List.length_cons, Nat.add_mul]
    omega
theorem words_sum {ws : List Str} (hl : ws.length ≤ 7) (hw : ∀ s ∈ ws, WordOk s) : (ws.map (·.length)).sum ≤ 280 := by
  have h2 : (ws.map (·.length)).sum ≤ (ws.map (·.length)).length * 40 := sum_le fun l hl => by
    obtain ⟨s, hs, rfl⟩ := List.mem_map.mp hl
    rw [len_tl]
    exact (hw s hs).1
  rw [List.length_map] at h2
  omega
/-- a line: not too long, no new line within, splits into its words -/
theorem line_ok {ws : List Str} (hne : ws ≠ []) (hl : ws.length ≤ 7) (hw : ∀ s ∈ ws, WordOk s) : (lineOf ws).length ≤ 400 ∧ 10 ∉ tl (lineOf ws) ∧ Txt.split (lineOf ws) (" " : Str) = ws := by
  have hsp : tl (" " : Str) = [32] := by decide +kernel
  refine ⟨?_, fun z => ?_, split_join_sp hne fun p hp => (hw p hp).2.1⟩
  · unfold lineOf
    rw [len_tl, tl_joinT]
    have h1 := joinL_len (S := tl (" " : Str)) (parts := ws.map tl)
    have h2 : ((ws.map tl).map List.length).sum ≤ ((ws.map tl).map List.length).length * 40 := sum_le fun l hl => by
      obtain ⟨a, ha, rfl⟩ := List.mem_map.mp hl
      obtain ⟨s, hs, rfl⟩ := List.mem_map.mp ha
      exact (hw s hs).1
    rw [List.length_map, List.length_map] at h2
    rw [hsp, List.length_map] at h1
    simp only [List.length_cons, List.length_nil] at h1
    rw [hsp]
    omega
  · unfold lineOf at z
    rw [tl_joinT] at z
    rcases joinL_mem z with h | ⟨p, hp, h⟩
    · rw [hsp] at h; simp at h
    · obtain ⟨s, hs, rfl⟩ := List.mem_map.mp hp
      exact (hw s hs).2.2.1 h
/-- rows that may be written -/
structure OkR (rows : List RowV) : Prop where
  len : rows.length ≤ 50
  ok : ∀ row ∈ rows, RowOk 1000000 row
theorem lines_sum {rows : List RowV} (k : OkR rows) : ((linesOf rows).map (·.length)).sum ≤ 20400 ∧ (linesOf rows).length ≤ 51 := by
  have h1 : (linesOf rows).length ≤ 51 := by
    unfold linesOf allWords
    have := k.len
    rw [List.length_map, List.length_cons, List.length_map]
    omega
  have h2 : ((linesOf rows).map (·.length)).sum ≤ ((linesOf rows).map (·.length)).length * 400 := sum_le fun l hl => by
    obtain ⟨s, hs, rfl⟩ := List.mem_map.mp hl
    obtain ⟨ws, hws, rfl⟩ := List.mem_map.mp hs
    obtain ⟨a, b, c⟩ := allWords_ok k.ok ws hws
    exact (line_ok a b c).1
  rw [List.length_map] at h2
  omega
theorem text_len {rows : List RowV} (k : OkR rows) : (paperText rows).length ≤ 20500 := by
  obtain ⟨h1, h2⟩ := lines_sum k
  unfold paperText
  rw [len_tl, tl_joinT]
  have h3 := joinL_len (S := tl ("\n" : Str)) (parts := (linesOf rows).map tl)
  have e1 : ((linesOf rows).map tl).map List.length = (linesOf rows).map (·.length) := by
    rw [List.map_map]
    exact List.map_congr_left fun s _ => (len_tl s).symm
  have e2 : (tl ("\n" : Str)).length = 1 := by decide +kernel
  rw [e1, e2, List.length_map] at h3
  omega
theorem text_split {rows : List RowV} (k : OkR rows) : Txt.split (paperText rows) ("\n" : Str) = linesOf rows := by
  refine split_join_nl (by simp [linesOf, allWords]) fun p hp => ?_
  obtain ⟨ws, hws, rfl⟩ := List.mem_map.mp hp
  obtain ⟨a, b, c⟩ := allWords_ok k.ok ws hws
  exact (line_ok a b c).2.1
theorem never_line : lineOf ["never"] = ("never" : Str) := by decide +kernel
/-! two balls -/
abbrev mxV (w : Int) (b c : BallV) : List (Int × Int) := mcV w (b.x - b.dx * b.m) b.dx (c.x - c.dx * c.m) c.dx
abbrev myV (h : Int) (b c : BallV) : List (Int × Int) := mcV h (b.y - b.dy * b.m) b.dy (c.y - c.dy * c.m) c.dy
/-- at one place at t -/
def MeetT (w h : Int) (b c : BallV) (t : Int) : Prop := SameZ w (b.x + b.dx * (t - b.m)) (c.x + c.dx * (t - c.m)) ∧ SameZ h (b.y + b.dy * (t - b.m)) (c.y + c.dy * (t - c.m))
structure TwoB (w h : Int) (b c : BallV) : Prop where
  w1 : 1 ≤ w
  w2 : w ≤ 6
  h1 : 1 ≤ h
  h2 : h ≤ 6
  bn : nameOk b.n = true
  bo : okB w h b = true
  cn : nameOk c.n = true
theorem meet_iff {w h : Int} {b c : BallV} (q : TwoB w h b c) (co : okB w h c = true) (t : Int) : MeetT w h b c t ↔ (∃ d ∈ mxV w b c, InC d t) ∧ ∃ d ∈ myV h b c, InC d t := by
  obtain ⟨_, _, b1, b2, _⟩ := okB_of q.bo
  obtain ⟨_, _, c1, c2, _⟩ := okB_of co
  have w1 := q.w1
  have h1 := q.h1
  rw [mcV_mem (by omega) b1 c1, mcV_mem (by omega) b2 c2]
  unfold MeetT
  have e : ∀ x d m : Int, x - d * m + d * t = x + d * (t - m) := fun x d m => by rw [Int.mul_sub]; omega
  rw [e, e, e, e]

local macro_rules | `(tactic| walk_at "f") => `(tactic| first
  | (with_reducible refine f_width (by assumption) ?_)
  | ((with_reducible refine' s_width (by assumption) ?h_ ?f_ ?l_ ?_); (case h_ => rfl); (case f_ => decide); (case l_ => decide))
  | (with_reducible refine f_height (by assumption) ?_)
  | ((with_reducible refine' s_height (by assumption) ?h_ ?f_ ?l_ ?_); (case h_ => rfl); (case f_ => decide); (case l_ => decide))
  | (with_reducible refine f_pockets (by assumption) ?_)
  | ((with_reducible refine' s_pockets (by assumption) ?h_ ?f_ ?l_ ?_); (case h_ => rfl); (case f_ => decide); (case l_ => decide))
  | (with_reducible refine c_whole (by assumption) ?_)
  )
local macro_rules | `(tactic| walk_at "xc") => `(tactic| first
  | ((with_reducible refine xs_seq ?_); (try dsimp only [List.set_cons_zero, List.set_cons_succ]))
  | (with_reducible refine xe_call _ (by assumption) ?_)
  | (with_reducible refine xe_callS _ (by assumption) ?_)
  | (with_reducible refine ye_makeX _ (by assumption) ?_)
  | (with_reducible refine xe_joined ?_)
  | (with_reducible refine xj_cons ?_)
  | (with_reducible refine xj_nil ?_)
  | (with_reducible refine xe_fmt ?_)
  | (with_reducible refine xe_join ?_)
  | (with_reducible refine xe_split ?_)
  | (with_reducible refine xc_strS ?_)
  | (with_reducible refine xe_slS ?_)
  | (with_reducible refine xc_isStr ?_)
  | (with_reducible refine xc_isLst ?_)
  | (with_reducible refine xc_isBl ?_)
  | (with_reducible refine xc_isTup ?_)
  | (with_reducible refine xe_notKd ?_)
  | (with_reducible refine xe_getKd ?_)
  | (with_reducible refine isTxts ?_)
  | (with_reducible refine xr_isB ?_)
  | (with_reducible refine xr_notB ?_)
  | (with_reducible refine ye_notT ?_)
  | ((with_reducible refine' xt_truFz ?h_ ?_); (case h_ => rfl))
  | ((with_reducible refine isFmtI ?s_ ?_); (case s_ => assumption))
  | ((with_reducible refine xc_strI ?s_ ?_); (case s_ => assumption))
  | (with_reducible refine scl_bl ?_)
  | (with_reducible refine scl_int ?_)
  | (with_reducible refine xr_inPT ?_)
  | (with_reducible refine xr_notInPT ?_)
  | (with_reducible refine xr_notInPL ?_)
  | (with_reducible refine xr_nePT ?_)
  )
local macro_rules | `(tactic| walk_at "x") => `(tactic| repeat' (first | walk_at "xc" | walk_at "x1" | walk_at "f"))

section
variable {P : Program} {w : World} {K : K'} {mg : Str → Option Value} {base : Heap} {C_Table C_InvalidTable C_InvalidBall aW : Addr} {tk : Nat → Tok}
/-! ### require -/
abbrev s_require : Stmt := top 10
abbrev N_require : List Str := ["holds"]
theorem sc_require : FnScope N_require ["holds"] (defScope s_require) := ⟨rfl, rfl, rfl, by decide +kernel, rfl, by decide +kernel, by decide +kernel⟩
def W_require (CT : Addr) : WP := fun ds R RX => ∃ b : Bool, ds = [.bl b] ∧ (b = true → R .non) ∧ (b = false → RX CT)
theorem ok_require (T : Tx K mg C_Table C_InvalidTable C_InvalidBall aW tk) (F : FnE K mg "require" s_require ["holds"])  : CalE P w K mg base (L2.CX P w) 1 "require" ["holds"] (spD K (W_require C_InvalidTable)) := by
  obtain ⟨f, fd, F, g, bd⟩ := F
  refine ⟨f, fd, ?_, g, F.kp, bd⟩
  refine defX F sc_require (fun ds R RX h => ?_) (fun cdv A outer s H vs Q E L ds R RX hr h hE => ?_)
  · obtain ⟨b0, rfl, k, kx⟩ := h
    rfl
  obtain ⟨b0, rfl, k, kx⟩ := h
  refine ⟨_, (pss_one (ps_if (pt_not (pt_truK (K := K) rfl (pv 0))) (pss_one (ps_raiseC rfl T.e_InvalidTable (takes_of rfl rfl rfl rfl) rfl)) pss_nil)), ?_⟩
  try dsimp only [L2.cxOf, L2.Cx.nox, L2.Cx.wish]
  show XS K H L _ [some (.sh (.bl b0))] _
  walk_at "x"
  refine br_c (fun h => ?_) (fun h => ?_)
  · walk_at "x"
    exact k h
  · exact xs_raise fun H' s => hE _ H' s (kx h)
/-! ### is_point -/
abbrev s_is_point : Stmt := inClass (top 11) 1
abbrev N_is_point : List Str := ["self", "point"]
theorem sc_is_point : FnScope N_is_point ["self", "point"] (defScope s_is_point) := ⟨rfl, rfl, rfl, by decide +kernel, rfl, by decide +kernel, by decide +kernel⟩
def W_is_point (C : Addr) : WP := fun ds R _ => ∃ (w h : Int) (ps : List (Int × Int)) (x y : Int), ds = [tblD C w h ps, .tup [.int x, .int y]] ∧ R (.bl (isPt w h x y))
theorem ok_is_point (T : Tx K mg C_Table C_InvalidTable C_InvalidBall aW tk) (F : MtE K C_Table "is_point" "Table.is_point" s_is_point ["self", "point"])  : CalM P w K mg base CX0 1 C_Table "is_point" ["self", "point"] (spD K (W_is_point C_Table)) := by
  obtain ⟨f, fd, F, g, bd⟩ := F
  refine ⟨f, fd, ?_, g, bd⟩
  refine def0 F sc_is_point (fun ds R RX h => ?_) (fun cdv A outer s H vs Q E L ds R RX hr h => ?_)
  · obtain ⟨w0, h0, ps, x, y, rfl, k⟩ := h
    rfl
  obtain ⟨w0, h0, ps, x, y, rfl, k⟩ := h
  refine ⟨_, (pss_one (ps_ret (pe_and (pe_chain op_le op_le pe_int (pe_ix (ik (K := K) rIx ix_seq rfl) (pv 1) pe_int (fun _ _ => rfl)) (pe_fldK (K := K) rfl (pv 0))) (pe_one (pe_chain op_le op_le pe_int (pe_ix (ik (K := K) rIx ix_seq rfl) (pv 1) pe_int (fun _ _ => rfl)) (pe_fldK (K := K) rfl (pv 0))))))), ?_⟩
  try dsimp only [L2.cxOf, L2.Cx.nox, L2.Cx.wish]
  show XS K H L _ [some (.sh (tblD C_Table w0 h0 ps)), some (.sh (.tup [.int x, .int y]))] _
  have e : ∀ b : Bool, b = isPt w0 h0 x y → R (.bl b) := fun b z => z ▸ k
  unfold tblD
  walk_at "x"
  refine br_d (fun h1 => ?_) (fun h1 => ?_)
  · walk_at "x"
    refine br_d (fun h2 => ?_) (fun h2 => ?_)
    · walk_at "x"
      refine br_d (fun h3 => ?_) (fun h3 => ?_)
      · walk_at "x"
        exact e _ (by simp [isPt, h1, h2, h3])
      · exact e _ (by simp [isPt, h3])
    · exact e _ (by simp [isPt, h2])
  · walk_at "x"
    exact e _ (by simp [isPt, h1])
/-! ### Table.__init__ -/
abbrev s_Table___init__ : Stmt := inClass (top 11) 0
abbrev N_Table___init__ : List Str := ["self", "width", "height", "pockets", "number", "point"]
theorem sc_Table___init__ : FnScope N_Table___init__ ["self", "width", "height", "pockets"] (defScope s_Table___init__) := ⟨rfl, rfl, rfl, by decide +kernel, rfl, by decide +kernel, by decide +kernel⟩
def W_Table_init (C CT : Addr) : WP := fun ds R RX => ∃ (w h : Int) (ps : List (Int × Int)) (pk : D), ds = [.int w, .int h, pk] ∧ (pk = .lst (ps.map pairD) ∨ pk = .tup (ps.map pairD)) ∧ ps.length ≤ 12 ∧ ps.Nodup ∧
  ((1 ≤ w ∧ w ≤ 1000000000000000000000000000000) → (1 ≤ h ∧ h ≤ 1000000000000000000000000000000) → (∀ p ∈ ps, isPt w h p.1 p.2 = true) ∧ R (tblD C w h ps)) ∧ (¬ ((1 ≤ w ∧ w ≤ 1000000000000000000000000000000) ∧ (1 ≤ h ∧ h ≤ 1000000000000000000000000000000)) → RX CT)
theorem ok_Table___init__ (T : Tx K mg C_Table C_InvalidTable C_InvalidBall aW tk) (F : InD K C_Table "Table.__init__" s_Table___init__ ["self", "width", "height", "pockets"]) (c_require : CalE P w K mg base (L2.CX P w) 1 "require" ["holds"] (spD K (W_require C_InvalidTable))) (c_is_point : CalM P w K mg base CX0 1 C_Table "is_point" ["self", "point"] (spD K (W_is_point C_Table))) : CalID P w K mg base (L2.CX P w) 2 C_Table ["self", "width", "height", "pockets"] (spI K C_Table (W_Table_init C_Table C_InvalidTable)) := by
  obtain ⟨f_require, fd_require, G_require, g_require, k_require, b_require⟩ := c_require
  obtain ⟨f_is_point, fd_is_point, G_is_point, m_is_point, b_is_point⟩ := c_is_point
  obtain ⟨f, fd, Td, ud, F, g, bd, bdd, dd, hT⟩ := F
  refine ⟨f, fd, Td, ud, ?_, g, bd, bdd, dd, hT⟩
  refine defXID F sc_Table___init__ (fun ds R RX h => ?_) (fun cdv A outer s H H1 vs Q E L ds R RX xa hr h hE => ?_)
  · obtain ⟨w0, h0, ps, pk, rfl, hpk, hl, hnd, ky, kx⟩ := h
    rfl
  obtain ⟨w0, h0, ps, pk, rfl, hpk, hl, hnd, ky, kx⟩ := h
  refine ⟨_, (pss_cons (ps_expr (pe_call G_require (hr.mono (by decide)) rfl g_require k_require b_require .nil (passX (E := E) (takes_of rfl rfl rfl rfl)) (pa_cons (pe_and (pe_chain op_le op_le pe_int (pv 1) (pe_glob (v := .int 1000000000000000000000000000000) rfl T.m_MOST ⟨_, rfl⟩)) (pe_one (pe_chain op_le op_le pe_int (pv 2) (pe_glob (v := .int 1000000000000000000000000000000) rfl T.m_MOST ⟨_, rfl⟩)))) pa_nil)))
      (pss_cons (ps_fld (pv 0) (pv 1) rfl)
      (pss_cons (ps_fld (pv 0) (pv 2) rfl)
      (pss_cons (ps_expr (pe_call G_require (hr.mono (by decide)) rfl g_require k_require b_require .nil (passX (E := E) (takes_of rfl rfl rfl rfl)) (pa_cons (pe_and (pe_cmpR op_le (pe_callB (ck (K := K) rLenA cl_len rfl) (by rfl) T.b_len (by decide +kernel) (pa_cons (pv 3) pa_nil)) (pe_glob (v := .int 12) rfl T.m_MOST_POCKETS ⟨_, rfl⟩) (nomark _)) (pe_one (pe_callB (ck (K := K) rAllA (cl_all rfl) rfl) (by rfl) T.b_all (by decide +kernel) (pa_cons (pe_lc (own := [("point", 5)]) (by rfl) sc_Table___init__.nd (pi_anyK (K := K) rfl (pv 3)) (blkOk_by (own := [("point", 5)]) (N := N_Table___init__) (sc := defScope s_Table___init__) (by decide +kernel)) (fun _ _ _ _ _ => (pg_name (i := 5) sc_Table___init__.nd rfl (by first | exact Or.inl rfl | exact Or.inr rfl))) (fun _ _ _ _ _ => pts_nil) (fun _ _ _ _ _ => (pe_cmpR (ok' (K := K) rEqD (op_eqD hr.units) rfl) (pe_callB (ck (K := K) rLenA cl_len rfl) (by rfl) T.b_len (by decide +kernel) (pa_cons (pv 5) pa_nil)) pe_int (nomark _)))) pa_nil)))) pa_nil)))
      (pss_cons (ps_fld (pv 0) (pe_callTy (ck (K := K) rTupA cl_tup rfl) (by rfl) T.b_tuple (by decide +kernel) (pa_cons (pe_lc (own := [("point", 5)]) (by rfl) sc_Table___init__.nd (pi_anyK (K := K) rfl (pv 3)) (blkOk_by (own := [("point", 5)]) (N := N_Table___init__) (sc := defScope s_Table___init__) (by decide +kernel)) (fun _ _ _ _ _ => (pg_name (i := 5) sc_Table___init__.nd rfl (by first | exact Or.inl rfl | exact Or.inr rfl))) (fun _ _ _ _ _ => pts_nil) (fun _ _ _ _ _ => (pe_callTy (ck (K := K) rTupA cl_tup rfl) (by rfl) T.b_tuple (by decide +kernel) (pa_cons (pv 5) pa_nil)))) pa_nil)) rfl)
      (pss_one (ps_for (passes_of rfl) rfl (pi_enumAK (K := K) rfl (by rfl) T.b_enumerate (pa_cons (pe_fldK (K := K) rfl (pv 0)) pa_nil)) (pg_tupK (K := K) (n := 2) rfl rfl (pgs_cons (pg_name (i := 4) sc_Table___init__.nd rfl (by first | exact Or.inl rfl | exact Or.inr rfl)) (pgs_cons (pg_name (i := 5) sc_Table___init__.nd rfl (by first | exact Or.inl rfl | exact Or.inr rfl)) pgs_nil)))
      (pss_one (ps_expr (pe_call G_require (hr.mono (by decide)) rfl g_require k_require b_require .nil (passX (E := E) (takes_of rfl rfl rfl rfl)) (pa_cons (pe_and (pe_meth (pv 0) T.cl_Table m_is_point G_is_point (hr.mono (by decide)) b_is_point .nil pass0 (pa_cons (pv 5) pa_nil)) (pe_one (pe_cmpR (ok' (K := K) rNotInA (op_notInA (hu65 hr)) rfl) (pv 5) (pe_slice (sk (K := K) sl_any rfl) (pe_fldK (K := K) rfl (pv 0)) po_none (po_some (pv 4))) rfl))) pa_nil))))))))))), ?_⟩
  try dsimp only [L2.cxOf, L2.Cx.nox, L2.Cx.wish]
  show XS K H1 L _ [some (.oi xa C_Table [] []), some (.sh (.int w0)), some (.sh (.int h0)), some (.sh (pk)), none, none] _
  have bad : ∀ (R' : D → Prop), ¬ ((1 ≤ w0 ∧ w0 ≤ 1000000000000000000000000000000) ∧ (1 ≤ h0 ∧ h0 ≤ 1000000000000000000000000000000)) → W_require C_InvalidTable [.bl false] R' RX := fun R' z => ⟨false, rfl, (fun y => nomatch y), fun _ => kx z⟩
  walk_at "x"
  refine br_d (fun h1 => ?_) (fun h1 => ?_)
  rotate_left
  · walk_at "x"
    exact bad _ fun z => h1 z.1.1
  walk_at "x"
  refine br_d (fun h2 => ?_) (fun h2 => ?_)
  rotate_left
  · walk_at "x"
    exact bad _ fun z => h2 z.1.2
  walk_at "x"
  refine br_d (fun h3 => ?_) (fun h3 => ?_)
  rotate_left
  · walk_at "x"
    exact bad _ fun z => h3 z.2.1
  walk_at "x"
  by_cases h4 : h0 ≤ 1000000000000000000000000000000
  rotate_left
  · rw [decide_eq_false h4]
    exact bad _ fun z => h4 z.2.2
  rw [decide_eq_true h4]
  refine ⟨true, rfl, fun _ => ?_, (fun y => nomatch y)⟩
  obtain ⟨hpt, k⟩ := ky ⟨h1, h2⟩ ⟨h3, h4⟩
  clear bad
  rcases hpk with rfl | rfl
  all_goals
    walk_at "x"
    refine br_d (fun h => ?_) (fun h => absurd (by rw [List.length_map]; omega) h)
    walk_at "x"
    refine xe_lcF (α := Int × Int) (js := [5]) (by decide) ?_
    walk_at "x"
    refine ⟨ps, pairD, fun _ => .bl true, rfl, by omega, fun G eG i x hx => ?_, ?_⟩
    · walk_at "x"
      rfl
    have e4 : ps.map (fun _ => D.bl true) = (List.replicate ps.length true).map D.bl := by
      rw [List.map_replicate, List.map_const']
    rw [e4]
    walk_at "x"
    refine ⟨true, by simp, fun _ => ?_, (fun y => nomatch y)⟩
    walk_at "x"
    refine xe_lcF (α := Int × Int) (js := [5]) (by decide) ?_
    walk_at "x"
    refine ⟨ps, pairD, pairD, rfl, by omega, fun G eG i x hx => ?_, ?_⟩
    · walk_at "x"
      rfl
    walk_at "x"
    refine xs_fzI (i := 0) rfl ?_
    refine xs_for (js := [4, 5]) ?_
    walk_at "x"
    refine ⟨fun i δ' => ∃ x y z, δ' = [some (.sv (.ref xa) (tblD C_Table w0 h0 ps)), some (.sh (.int w0)), some (.sh (.int h0)), z, x, y], ⟨none, none, _, rfl⟩, ?_, ?_⟩
    · rintro G eG i d δ' hd ⟨x, y, z, rfl⟩
      obtain ⟨u, hu, rfl⟩ := enumD_get hd
      rw [List.getElem?_map] at hu
      cases hc : ps[i]? with
      | none => rw [hc] at hu; cases hu
      | some p =>
        rw [hc] at hu
        cases hu
        walk_at "x"
        refine ⟨w0, h0, ps, p.1, p.2, rfl, ?_⟩
        rw [hpt p (List.mem_of_getElem? hc)]
        walk_at "x"
        rw [Int.zero_add, cutD_none, ← List.map_take]
        refine xr_notInPT ?_
        have hn : p ∉ ps.take i := fun hm => by
          obtain ⟨k, hk, hk2⟩ := List.mem_iff_getElem.mp hm
          rw [List.length_take] at hk
          rw [List.getElem_take] at hk2
          have hi : i < ps.length := (List.getElem?_eq_some_iff.mp hc).1
          have := (List.getElem?_inj (i := k) (j := i) (by omega) hnd).mp (by
            rw [hc, List.getElem?_eq_getElem (by omega), hk2])
          omega
        rw [decide_eq_false hn]
        walk_at "x"
        refine ⟨true, rfl, fun _ => ?_, (fun y => nomatch y)⟩
        exact ⟨_, _, _, rfl⟩
    · rintro δ' ⟨x, y, z, rfl⟩
      exact ⟨_, rfl, k⟩
/-! ### is_name -/
abbrev s_is_name : Stmt := top 15
abbrev N_is_name : List Str := ["text", "char"]
theorem sc_is_name : FnScope N_is_name ["text"] (defScope s_is_name) := ⟨rfl, rfl, rfl, by decide +kernel, rfl, by decide +kernel, by decide +kernel⟩
def W_is_name : WP := fun ds R _ => ∃ s : Str, ds = [.str s] ∧ nameOk s = true ∧ R (.bl true)
theorem nameOk_of {s : Str} (h : nameOk s = true) : (1 ≤ s.length ∧ s.length ≤ 12) ∧ (∃ c l, s.cps.toList = c :: l ∧ c ∉ ("0123456789" : Str).cps.toList) ∧ ∀ c ∈ s.cps.toList, c ∈ ("abcdefghijklmnopqrstuvwxyz0123456789" : Str).cps.toList := by
  unfold nameOk at h
  rw [Bool.and_eq_true, Bool.and_eq_true] at h
  obtain ⟨⟨h1, h2⟩, h3⟩ := h
  refine ⟨of_decide_eq_true h1, ?_, fun c hc => of_decide_eq_true (List.all_eq_true.mp h3 c hc)⟩
  cases e : s.cps.toList with
  | nil => rw [e] at h2; cases h2
  | cons c l =>
    rw [e] at h2
    refine ⟨c, l, rfl, ?_⟩
    simpa using h2
theorem ok_is_name (T : Tx K mg C_Table C_InvalidTable C_InvalidBall aW tk) (F : FnE K mg "is_name" s_is_name ["text"])  : CalE P w K mg base CX0 1 "is_name" ["text"] (spD K W_is_name) := by
  obtain ⟨f, fd, F, g, bd⟩ := F
  refine ⟨f, fd, ?_, g, F.kp, bd⟩
  refine def0 F sc_is_name (fun ds R RX h => ?_) (fun cdv A outer s H vs Q E L ds R RX hr h => ?_)
  · obtain ⟨s0, rfl, hn, k⟩ := h
    rfl
  obtain ⟨s0, rfl, hn, k⟩ := h
  refine ⟨_, (pss_cons (ps_if (PW.pt (pw_or (pt_not (pt_chain op_le op_le pe_int (pe_callB (ck (K := K) rLenA cl_len rfl) (by rfl) T.b_len (by decide +kernel) (pa_cons (pv 0) pa_nil)) (pe_glob (v := .int 12) rfl T.m_MOST_NAME_CHARS ⟨_, rfl⟩))) (pw_or1 (pt_cmpR (ok' (K := K) rInA (op_inA (hu65 hr)) rfl) (pe_ix (ik (K := K) rIx ix_seq rfl) (pv 0) pe_int (fun _ _ => rfl)) pe_str rfl)))) (pss_one (ps_ret pe_bl)) pss_nil)
      (pss_one (ps_ret (pe_callB (ck (K := K) rAllA (cl_all rfl) rfl) (by rfl) T.b_all (by decide +kernel) (pa_cons (pe_lc (own := [("char", 1)]) (by rfl) sc_is_name.nd (pi_str (pv 0)) (blkOk_by (own := [("char", 1)]) (N := N_is_name) (sc := defScope s_is_name) (by decide +kernel)) (fun _ _ _ _ _ => (pg_name (i := 1) sc_is_name.nd rfl (by first | exact Or.inl rfl | exact Or.inr rfl))) (fun _ _ _ _ _ => pts_nil) (fun _ _ _ _ _ => (pe_cmpR (ok' (K := K) rInA (op_inA (hu65 hr)) rfl) (pv 1) (pe_glob (v := .str "abcdefghijklmnopqrstuvwxyz0123456789") rfl T.m_NAME_CHARS ⟨_, rfl⟩) rfl))) pa_nil))))), ?_⟩
  try dsimp only [L2.cxOf, L2.Cx.nox, L2.Cx.wish]
  show XS K H L _ [some (.sh (.str s0)), none] _
  obtain ⟨⟨h1, h2⟩, ⟨c, l, hc, hd⟩, hall⟩ := nameOk_of hn
  walk_at "x"
  refine br_tt (decide_eq_true (by omega)) ?_
  walk_at "x"
  refine br_tt (decide_eq_true (by omega)) ?_
  walk_at "x"
  refine xr_ixS (z := s0) (c := c) (by omega) (by rw [hc]; simp [atI, ixN]) ?_
  walk_at "x"
  refine xr_inS ?_
  walk_at "x"
  refine br_ff (decide_eq_false hd) ?_
  walk_at "x"
  refine xe_lcF (α := Nat) (js := [1]) (by decide) ?_
  walk_at "x"
  refine ⟨s0.cps.toList, fun c => .str ⟨#[c]⟩, fun _ => .bl true, rfl, ?_, fun G eG i x hx => ?_, ?_⟩
  · have : s0.cps.toList.length = s0.length := by simp [Str.length]
    omega
  · walk_at "x"
    refine xr_inS ?_
    rw [decide_eq_true (hall x (List.mem_of_getElem? hx))]
  · walk_at "x"
    have e : s0.cps.toList.map (fun _ => D.bl true) = (List.replicate s0.cps.toList.length true).map D.bl := by
      rw [List.map_replicate, List.map_const']
    rw [e]
    refine xc_all ?_
    refine R_bl k ?_
    simp
/-! ### is_ball -/
abbrev s_is_ball : Stmt := top 16
abbrev N_is_ball : List Str := ["table", "ball", "_", "x", "y", "dx", "dy", "minute"]
theorem sc_is_ball : FnScope N_is_ball ["table", "ball"] (defScope s_is_ball) := ⟨rfl, rfl, rfl, by decide +kernel, rfl, by decide +kernel, by decide +kernel⟩
def W_is_ball (C : Addr) : WP := fun ds R _ => ∃ (w h : Int) (ps : List (Int × Int)) (b : BallV), ds = [tblD C w h ps, ballD b] ∧ nameOk b.n = true ∧ R (.bl (okB w h b))
theorem ok_is_ball (T : Tx K mg C_Table C_InvalidTable C_InvalidBall aW tk) (F : FnE K mg "is_ball" s_is_ball ["table", "ball"]) (c_is_name : CalE P w K mg base CX0 1 "is_name" ["text"] (spD K W_is_name)) (c_is_point : CalM P w K mg base CX0 1 C_Table "is_point" ["self", "point"] (spD K (W_is_point C_Table))) : CalE P w K mg base CX0 2 "is_ball" ["table", "ball"] (spD K (W_is_ball C_Table)) := by
  obtain ⟨f_is_name, fd_is_name, G_is_name, g_is_name, k_is_name, b_is_name⟩ := c_is_name
  obtain ⟨f_is_point, fd_is_point, G_is_point, m_is_point, b_is_point⟩ := c_is_point
  obtain ⟨f, fd, F, g, bd⟩ := F
  refine ⟨f, fd, ?_, g, F.kp, bd⟩
  refine def0 F sc_is_ball (fun ds R RX h => ?_) (fun cdv A outer s H vs Q E L ds R RX hr h => ?_)
  · obtain ⟨w0, h0, ps, b, rfl, hn, k⟩ := h
    rfl
  obtain ⟨w0, h0, ps, b, rfl, hn, k⟩ := h
  refine ⟨_, (pss_cons (ps_if (PW.pt (pw_or (pt_cmpR (ok' (K := K) rNeD (op_neD hr.units) rfl) (pe_callB (ck (K := K) rLenA cl_len rfl) (by rfl) T.b_len (by decide +kernel) (pa_cons (pv 1) pa_nil)) pe_int (nomark _)) (pw_or1 (pt_not (pt_truK (K := K) rfl (pe_call G_is_name (hr.mono (by decide)) rfl g_is_name k_is_name b_is_name .nil pass0 (pa_cons (pe_ix (ik (K := K) rIx ix_seq rfl) (pv 1) pe_int (fun _ _ => rfl)) pa_nil))))))) (pss_one (ps_ret pe_bl)) pss_nil)
      (pss_cons (ps_asg (pv 1) (pg_tupK (K := K) (n := 6) rfl rfl (pgs_cons (pg_name (i := 2) sc_is_ball.nd rfl (by first | exact Or.inl rfl | exact Or.inr rfl)) (pgs_cons (pg_name (i := 3) sc_is_ball.nd rfl (by first | exact Or.inl rfl | exact Or.inr rfl)) (pgs_cons (pg_name (i := 4) sc_is_ball.nd rfl (by first | exact Or.inl rfl | exact Or.inr rfl)) (pgs_cons (pg_name (i := 5) sc_is_ball.nd rfl (by first | exact Or.inl rfl | exact Or.inr rfl)) (pgs_cons (pg_name (i := 6) sc_is_ball.nd rfl (by first | exact Or.inl rfl | exact Or.inr rfl)) (pgs_cons (pg_name (i := 7) sc_is_ball.nd rfl (by first | exact Or.inl rfl | exact Or.inr rfl)) pgs_nil))))))))
      (pss_cons (ps_if (PW.pt (pw_or (pt_not (pt_truK (K := K) rfl (pe_meth (pv 0) T.cl_Table m_is_point G_is_point (hr.mono (by decide)) b_is_point .nil pass0 (pa_cons (pe_tup (pa_cons (pv 3) (pa_cons (pv 4) pa_nil))) pa_nil)))) (pw_or1 (pt_not (pt_chain op_le op_le pe_int (pv 7) (pe_glob (v := .int 1000000000000000000000000000000) rfl T.m_MOST ⟨_, rfl⟩)))))) (pss_one (ps_ret pe_bl)) pss_nil)
      (pss_one (ps_ret (pe_and (pe_cmpR (ok' (K := K) rInA (op_inA (hu65 hr)) rfl) (pv 5) (pe_tup (pa_cons (pe_un un_neg pe_int) (pa_cons pe_int (pa_cons pe_int pa_nil)))) rfl) (pe_and (pe_cmpR (ok' (K := K) rInA (op_inA (hu65 hr)) rfl) (pv 6) (pe_tup (pa_cons (pe_un un_neg pe_int) (pa_cons pe_int (pa_cons pe_int pa_nil)))) rfl) (pe_one (pe_cmpR (ok' (K := K) rNeD (op_neD hr.units) rfl) (pe_tup (pa_cons (pv 5) (pa_cons (pv 6) pa_nil))) (pe_tup (pa_cons pe_int (pa_cons pe_int pa_nil))) (nomark _)))))))))), ?_⟩
  try dsimp only [L2.cxOf, L2.Cx.nox, L2.Cx.wish]
  show XS K H L _ [some (.sh (tblD C_Table w0 h0 ps)), some (.sh (ballD b)), none, none, none, none, none, none] _
  have e : ∀ c : Bool, c = okB w0 h0 b → R (.bl c) := fun c z => z ▸ k
  unfold tblD ballD
  walk_at "x"
  refine br_d (fun _ => ?_) (fun h1 => absurd rfl h1)
  walk_at "x"
  refine ⟨_, rfl, hn, ?_⟩
  walk_at "x"
  refine ⟨w0, h0, ps, b.x, b.y, rfl, ?_⟩
  walk_at "x"
  refine br_c (fun hp => ?_) (fun hp => ?_)
  · walk_at "x"
    refine br_d (fun h1 => ?_) (fun h1 => ?_)
    · walk_at "x"
      refine br_d (fun h2 => ?_) (fun h2 => ?_)
      · walk_at "x"
        refine xr_inT (okD_int _) (okD_of (by simp [cmpD, cmpDs]) (by simp [depD, depDs])) ?_
        simp only [List.any_cons, List.any_nil, eqD_int, Bool.or_false]
        walk_at "x"
        refine br_c (fun h3 => ?_) (fun h3 => ?_)
        · walk_at "x"
          refine xr_inT (okD_int _) (okD_of (by simp [cmpD, cmpDs]) (by simp [depD, depDs])) ?_
          simp only [List.any_cons, List.any_nil, eqD_int, Bool.or_false]
          walk_at "x"
          refine br_c (fun h4 => ?_) (fun h4 => ?_)
          · walk_at "x"
            refine xr_ne (okD_of (by simp [cmpD, cmpDs]) (by simp [depD, depDs])) (okD_of (by simp [cmpD, cmpDs]) (by simp [depD, depDs])) ?_
            simp only [eqD_tc, eqD_tn, eqD_int, Bool.and_true]
            refine e _ ?_
            simp only [okB, hp, h1, h2, h3, h4, and_self, decide_true, Bool.true_and]
          · refine e _ ?_
            simp only [okB, hp, h1, h2, h3, h4, and_self, decide_true, Bool.false_and, Bool.and_false, Bool.true_and]
        · refine e _ ?_
          simp only [okB, hp, h1, h2, h3, and_self, decide_true, Bool.false_and, Bool.and_false, Bool.true_and]
      · walk_at "x"
        refine e _ ?_
        simp [okB, h2]
    · walk_at "x"
      refine e _ ?_
      simp [okB, h1]
  · walk_at "x"
    refine e _ ?_
    simp [okB, hp]
/-! ### check_ball -/
abbrev s_check_ball : Stmt := top 17
abbrev N_check_ball : List Str := ["table", "ball"]
theorem sc_check_ball : FnScope N_check_ball ["table", "ball"] (defScope s_check_ball) := ⟨rfl, rfl, rfl, by decide +kernel, rfl, by decide +kernel, by decide +kernel⟩
def W_check_ball (C CB : Addr) : WP := fun ds R RX => ∃ (w h : Int) (ps : List (Int × Int)) (b : BallV), ds = [tblD C w h ps, ballD b] ∧ nameOk b.n = true ∧ (okB w h b = true → R .non) ∧ (okB w h b = false → RX CB)
theorem ok_check_ball (T : Tx K mg C_Table C_InvalidTable C_InvalidBall aW tk) (F : FnE K mg "check_ball" s_check_ball ["table", "ball"]) (c_is_ball : CalE P w K mg base CX0 2 "is_ball" ["table", "ball"] (spD K (W_is_ball C_Table))) : CalE P w K mg base (L2.CX P w) 3 "check_ball" ["table", "ball"] (spD K (W_check_ball C_Table C_InvalidBall)) := by
  obtain ⟨f_is_ball, fd_is_ball, G_is_ball, g_is_ball, k_is_ball, b_is_ball⟩ := c_is_ball
  obtain ⟨f, fd, F, g, bd⟩ := F
  refine ⟨f, fd, ?_, g, F.kp, bd⟩
  refine defX F sc_check_ball (fun ds R RX h => ?_) (fun cdv A outer s H vs Q E L ds R RX hr h hE => ?_)
  · obtain ⟨w0, h0, ps, b, rfl, hn, k, kx⟩ := h
    rfl
  obtain ⟨w0, h0, ps, b, rfl, hn, k, kx⟩ := h
  refine ⟨_, (pss_one (ps_if (pt_not (pt_truK (K := K) rfl (pe_call G_is_ball (hr.mono (by decide)) rfl g_is_ball k_is_ball b_is_ball .nil pass0 (pa_cons (pv 0) (pa_cons (pv 1) pa_nil))))) (pss_one (ps_raiseC rfl T.e_InvalidBall (takes_of rfl rfl rfl rfl) rfl)) pss_nil)), ?_⟩
  try dsimp only [L2.cxOf, L2.Cx.nox, L2.Cx.wish]
  show XS K H L _ [some (.sh (tblD C_Table w0 h0 ps)), some (.sh (ballD b))] _
  walk_at "x"
  refine ⟨w0, h0, ps, b, rfl, hn, ?_⟩
  cases hb : okB w0 h0 b with
  | true =>
    walk_at "x"
    exact k hb
  | false =>
    walk_at "x"
    exact xs_raise fun H' s => hE _ H' s (kx hb)

/-! ### inverse -/
abbrev s_inverse : Stmt := top 20
abbrev N_inverse : List Str := ["number", "modulus", "left", "right", "factor", "following", "quotient"]
theorem sc_inverse : FnScope N_inverse ["number", "modulus"] (defScope s_inverse) := ⟨rfl, rfl, rfl, by decide +kernel, rfl, by decide +kernel, by decide +kernel⟩
def W_inverse : WP := fun ds R _ => ∃ (n m : Int), ds = [.int n, .int m] ∧ (0 < n ∧ n ≤ 2 ^ 400) ∧ (0 < m ∧ m ≤ 2 ^ 400) ∧ Int.gcd n m = 1 ∧ ∀ iv : Int, 0 ≤ iv → iv < m → m ∣ iv * n - 1 → R (.int iv)
theorem ok_inverse (T : Tx K mg C_Table C_InvalidTable C_InvalidBall aW tk) (F : FnE K mg "inverse" s_inverse ["number", "modulus"])  : CalE P w K mg base CX0 1 "inverse" ["number", "modulus"] (spD K W_inverse) := by
  obtain ⟨f, fd, F, g, bd⟩ := F
  refine ⟨f, fd, ?_, g, F.kp, bd⟩
  refine def0 F sc_inverse (fun ds R RX h => ?_) (fun cdv A outer s H vs Q E L ds R RX hr h => ?_)
  · obtain ⟨n0, m0, rfl, ⟨hn, hn2⟩, ⟨hm, hm2⟩, hg, k⟩ := h
    rfl
  obtain ⟨n0, m0, rfl, ⟨hn, hn2⟩, ⟨hm, hm2⟩, hg, k⟩ := h
  refine ⟨_, (pss_cons (ps_par (i := 2) (j := 3) (by rfl) sc_inverse.nd rfl rfl (by decide) rfl rfl (pa_cons (pv 0) (pa_cons (pv 1) pa_nil)) (by rfl))
      (pss_cons (ps_asg (pe_tup (pa_cons pe_int (pa_cons pe_int pa_nil))) (pg_tupK (K := K) (n := 2) rfl rfl (pgs_cons (pg_name (i := 4) sc_inverse.nd rfl (by first | exact Or.inl rfl | exact Or.inr rfl)) (pgs_cons (pg_name (i := 5) sc_inverse.nd rfl (by first | exact Or.inl rfl | exact Or.inr rfl)) pgs_nil))))
      (pss_cons (ps_while PassesOwn.never (pt_cmpR op_gt (pv 3) pe_int (nomark _)) (pss_cons (ps_set (i := 6) sc_inverse.nd rfl (by first | exact Or.inl rfl | exact Or.inr rfl) (pe_op op_fdivW (pv 2) (pv 3)))
      (pss_cons (ps_par (i := 2) (j := 3) (by rfl) sc_inverse.nd rfl rfl (by decide) rfl rfl (pa_cons (pv 3) (pa_cons (pe_op op_sub (pv 2) (pe_op op_mulA (pv 6) (pv 3))) pa_nil)) (by rfl))
      (pss_one (ps_par (i := 4) (j := 5) (by rfl) sc_inverse.nd rfl rfl (by decide) rfl rfl (pa_cons (pv 5) (pa_cons (pe_op op_sub (pv 4) (pe_op op_mulA (pv 6) (pv 5))) pa_nil)) (by rfl))))))
      (pss_one (ps_ret (pe_op op_mod (pv 4) (pv 1))))))), ?_⟩
  try dsimp only [L2.cxOf, L2.Cx.nox, L2.Cx.wish]
  show XS K H L _ [some (.sh (.int n0)), some (.sh (.int m0)), none, none, none, none, none] _
  walk_at "x"
  refine xs_while (fun δ' => ∃ (l r fc fo : Int) (q : Option SD), δ' = [some (.sh (.int n0)), some (.sh (.int m0)), some (.sh (.int l)), some (.sh (.int r)), some (.sh (.int fc)), some (.sh (.int fo)), q] ∧ InvI n0 m0 l r fc fo)
    (fun δ' => match δ' with | [_, _, _, some (.sh (.int r)), _, _, _] => r.toNat | _ => 0) ⟨n0, m0, 1, 0, none, rfl, InvI.start hn hm⟩ ?_
  rintro G eG δ' ⟨l, r, fc, fo, q, rfl, iv⟩
  walk_at "x"
  refine ⟨fun hr0 => ?_, fun hr0 => ?_⟩
  · have hr1 : 0 < r := by simpa using hr0
    have e1 := iv.ll
    have e2 := iv.rr
    have e3 := iv.ff
    have e4 := iv.fol_le
    have s1 : Sz l := sz_nat (by omega)
    have s2 : Sz r := sz_nat (by omega)
    have s3 : Sz fo := sz_nat (by omega)
    have hq0 : 0 ≤ l / r := Int.ediv_nonneg (Int.le_of_lt iv.l) (Int.le_of_lt hr1)
    have hq1 : l / r ≤ l := Int.ediv_le_self _ (Int.le_of_lt iv.l)
    have s4 : Sz (l / r) := sz_nat (by have := iv.l; omega)
    have c1 := divS (i := l) hr1 s2
    have c2 := mulS s4 s2
    have c3 := mulS s4 s3
    walk_at "x"
    refine ⟨⟨r, _, fo, _, _, rfl, iv.turn hr1⟩, ?_⟩
    show (l - l / r * r).toNat < r.toNat
    have h1 := Int.mul_ediv_add_emod l r
    have h2 := Int.emod_lt_of_pos l hr1
    have h3 : l / r * r = r * (l / r) := Int.mul_comm _ _
    omega
  · have hr1 : r = 0 := by
      have : ¬ 0 < r := by simpa using hr0
      have := iv.r
      omega
    subst hr1
    walk_at "x"
    exact k _ (Int.emod_nonneg _ (by omega)) (Int.emod_lt_of_pos _ hm) (iv.done hg)
/-! ### chinese -/
abbrev s_chinese : Stmt := top 21
abbrev N_chinese : List Str := ["one", "other", "first", "size", "second", "width", "divisor", "step", "modulus"]
theorem sc_chinese : FnScope N_chinese ["one", "other"] (defScope s_chinese) := ⟨rfl, rfl, rfl, by decide +kernel, rfl, by decide +kernel, by decide +kernel⟩
def W_chinese : WP := fun ds R _ => ∃ (c d : Int × Int), ds = [pairD c, pairD d] ∧ OkC c ∧ OkC d ∧ c.2 ≤ 2 ^ 200 ∧ d.2 ≤ 2 ^ 200 ∧ ((d.1 - c.1) % ((Int.gcd c.2 d.2 : Nat) : Int) ≠ 0 → R .non) ∧
  ((d.1 - c.1) % ((Int.gcd c.2 d.2 : Nat) : Int) = 0 → ∀ v M : Int, 0 ≤ v → v < M → M ≤ c.2 * d.2 → c.2 ∣ M → d.2 ∣ M → (∀ t, M ∣ t - v ↔ c.2 ∣ t - c.1 ∧ d.2 ∣ t - d.1) → R (pairD (v, M)))
theorem ok_chinese (T : Tx K mg C_Table C_InvalidTable C_InvalidBall aW tk) (F : FnE K mg "chinese" s_chinese ["one", "other"]) (c_inverse : CalE P w K mg base CX0 1 "inverse" ["number", "modulus"] (spD K W_inverse)) : CalE P w K mg base CX0 2 "chinese" ["one", "other"] (spD K W_chinese) := by
  obtain ⟨f_inverse, fd_inverse, G_inverse, g_inverse, k_inverse, b_inverse⟩ := c_inverse
  obtain ⟨f, fd, F, g, bd⟩ := F
  refine ⟨f, fd, ?_, g, F.kp, bd⟩
  refine def0 F sc_chinese (fun ds R RX h => ?_) (fun cdv A outer s H vs Q E L ds R RX hr h => ?_)
  · obtain ⟨⟨r1, m1⟩, ⟨r2, m2⟩, rfl, o1, o2, b1, b2, kn, ky⟩ := h
    rfl
  obtain ⟨⟨r1, m1⟩, ⟨r2, m2⟩, rfl, o1, o2, b1, b2, kn, ky⟩ := h
  refine ⟨_, (pss_cons (ps_asg (pv 0) (pg_tupK (K := K) (n := 2) rfl rfl (pgs_cons (pg_name (i := 2) sc_chinese.nd rfl (by first | exact Or.inl rfl | exact Or.inr rfl)) (pgs_cons (pg_name (i := 3) sc_chinese.nd rfl (by first | exact Or.inl rfl | exact Or.inr rfl)) pgs_nil))))
      (pss_cons (ps_asg (pv 1) (pg_tupK (K := K) (n := 2) rfl rfl (pgs_cons (pg_name (i := 4) sc_chinese.nd rfl (by first | exact Or.inl rfl | exact Or.inr rfl)) (pgs_cons (pg_name (i := 5) sc_chinese.nd rfl (by first | exact Or.inl rfl | exact Or.inr rfl)) pgs_nil))))
      (pss_cons (ps_set (i := 6) sc_chinese.nd rfl (by first | exact Or.inl rfl | exact Or.inr rfl) (pe_callBfun cl_gcd (by rfl) T.g_gcd (pa_cons (pv 3) (pa_cons (pv 5) pa_nil))))
      (pss_cons (ps_if (pt_cmpR (ok' (K := K) rNeD (op_neD hr.units) rfl) (pe_op op_mod (pe_op op_sub (pv 4) (pv 2)) (pv 6)) pe_int (nomark _)) (pss_one (ps_ret pe_non)) pss_nil)
      (pss_cons (ps_set (i := 7) sc_chinese.nd rfl (by first | exact Or.inl rfl | exact Or.inr rfl) (pe_op op_mulA (pe_op op_fdivW (pe_op op_sub (pv 4) (pv 2)) (pv 6)) (pe_call G_inverse (hr.mono (by decide)) rfl g_inverse k_inverse b_inverse .nil pass0 (pa_cons (pe_op op_fdivW (pv 3) (pv 6)) (pa_cons (pe_op op_fdivW (pv 5) (pv 6)) pa_nil)))))
      (pss_cons (ps_set (i := 8) sc_chinese.nd rfl (by first | exact Or.inl rfl | exact Or.inr rfl) (pe_op op_mulA (pe_op op_fdivW (pv 3) (pv 6)) (pv 5)))
      (pss_one (ps_ret (pe_tup (pa_cons (pe_op op_mod (pe_op (ok' (K := K) rAddA op_addA rfl) (pv 2) (pe_op op_mulA (pv 3) (pe_op op_mod (pv 7) (pe_op op_fdivW (pv 5) (pv 6))))) (pv 8)) (pa_cons (pv 8) pa_nil))))))))))), ?_⟩
  try dsimp only [L2.cxOf, L2.Cx.nox, L2.Cx.wish]
  show XS K H L _ [some (.sh (.tup [.int r1, .int m1])), some (.sh (.tup [.int r2, .int m2])), none, none, none, none, none, none, none] _
  have p1 := o1.pos
  have p2 := o2.pos
  simp only at b1 b2 kn ky p1 p2
  obtain ⟨o11, o12⟩ := o1
  obtain ⟨o21, o22⟩ := o2
  simp only at o11 o12 o21 o22
  have g0 : 0 < ((Int.gcd m1 m2 : Nat) : Int) := by
    have := Int.gcd_pos_of_ne_zero_left m2 (show m1 ≠ 0 by omega)
    omega
  obtain ⟨a, ha⟩ := Int.gcd_dvd_left m1 m2
  obtain ⟨b, hb⟩ := Int.gcd_dvd_right m1 m2
  generalize hg : ((Int.gcd m1 m2 : Nat) : Int) = g at *
  have ea : m1 / g = a := by rw [ha]; exact Int.mul_ediv_cancel_left _ (by omega)
  have eb : m2 / g = b := by rw [hb]; exact Int.mul_ediv_cancel_left _ (by omega)
  have a0 : 0 < a := by
    rcases Int.lt_or_le 0 a with h | h
    · exact h
    · have := Int.mul_nonpos_of_nonneg_of_nonpos (Int.le_of_lt g0) h
      omega
  have b0 : 0 < b := by
    rcases Int.lt_or_le 0 b with h | h
    · exact h
    · have := Int.mul_nonpos_of_nonneg_of_nonpos (Int.le_of_lt g0) h
      omega
  have a1 : a ≤ m1 := by
    have := Int.mul_le_mul_of_nonneg_right (show (1 : Int) ≤ g by omega) (Int.le_of_lt a0)
    omega
  have b3 : b ≤ m2 := by
    have := Int.mul_le_mul_of_nonneg_right (show (1 : Int) ≤ g by omega) (Int.le_of_lt b0)
    omega
  have gm : g ≤ m1 := by
    have := Int.mul_le_mul_of_nonneg_left (show (1 : Int) ≤ a by omega) (Int.le_of_lt g0)
    omega
  walk_at "x"
  rw [hg]
  walk_at "x"
  have hgcd : Int.gcd (m1 / g) (m2 / g) = 1 := by
    rw [← hg]
    exact Int.gcd_ediv_gcd_ediv_gcd (by omega)
  have sr : Sz ((r2 - r1) / g) := by
    have h1 := Int.mul_ediv_add_emod (r2 - r1) g
    have h2 := Int.emod_nonneg (r2 - r1) (show g ≠ 0 by omega)
    have h3 := Int.emod_lt_of_pos (r2 - r1) g0
    have h5 : ((r2 - r1) / g).natAbs ≤ (r2 - r1).natAbs + 1 := by
      have := Int.natAbs_ediv_le_natAbs (r2 - r1) g
      omega
    exact sz_nat (by omega)
  have cd1 := divS (i := r2 - r1) g0 (sz_of (by omega) (by omega))
  have cd2 := divS (i := m1) g0 (sz_of (by omega) (by omega))
  have cd3 := divS (i := m2) g0 (sz_of (by omega) (by omega))
  refine br_d (fun h1 => ?_) (fun h1 => ?_)
  · walk_at "x"
    refine ⟨m1 / g, m2 / g, rfl, ⟨by omega, by omega⟩, ⟨by omega, by omega⟩, hgcd, fun iv hi0 hi1 hiv => ?_⟩
    have cm1 := mulS sr (j := iv) (sz_of (by omega) (by omega))
    have cm2 := mulS (i := m1 / g) (j := m2) (sz_of (by omega) (by omega)) (sz_of (by omega) (by omega))
    have hb2 : 0 < m2 / g := by omega
    have q0 := Int.emod_nonneg ((r2 - r1) / g * iv) (show m2 / g ≠ 0 by omega)
    have q1 := Int.emod_lt_of_pos ((r2 - r1) / g * iv) hb2
    have cm3 := mulS (i := m1) (j := (r2 - r1) / g * iv % (m2 / g)) (sz_of (by omega) (by omega)) (sz_of (by omega) (by omega))
    have M0 : 0 < m1 / g * m2 := Int.mul_pos (by omega) p2
    walk_at "x"
    have cy := chin_yes (r1 := r1) (m1 := m1) (r2 := r2) (m2 := m2) (g := g) (iv := iv) p1 p2 hg.symm h1 hiv
    refine ky h1 _ _ (Int.emod_nonneg _ (by omega)) (Int.emod_lt_of_pos _ M0) ?_ ?_ ?_ cy
    · exact Int.mul_le_mul_of_nonneg_right (by omega) (Int.le_of_lt p2)
    · exact ⟨b, by rw [ea]; rw [ha, hb]; grind⟩
    · exact ⟨a, by rw [ea]; grind⟩
  · walk_at "x"
    exact kn h1
/-! ### united -/
abbrev s_united : Stmt := top 23
abbrev N_united : List Str := ["one", "other", "found", "remainder", "modulus"]
theorem sc_united : FnScope N_united ["one", "other"] (defScope s_united) := ⟨rfl, rfl, rfl, by decide +kernel, rfl, by decide +kernel, by decide +kernel⟩
def W_united : WP := fun ds R _ => ∃ (xs ys : List (Int × Int)), ds = [.lst (xs.map pairD), .lst (ys.map pairD)] ∧ xs.length + ys.length ≤ 1000 ∧ ((0, 1) ∈ xs ∨ (0, 1) ∈ ys → R (.lst ([((0 : Int), (1 : Int))].map pairD))) ∧
  ((0, 1) ∉ xs → (0, 1) ∉ ys → ∀ zs : List (Int × Int), zs.Nodup → zs.length ≤ xs.length + ys.length → (∀ c, c ∈ zs ↔ c ∈ xs ∨ c ∈ ys) → R (.lst (zs.map pairD)))
theorem pair_any (xs : List (Int × Int)) (p : Int × Int) : (xs.map pairD).any (fun z => eqD z (pairD p)) = decide (p ∈ xs) := by
  rw [Bool.eq_iff_iff, List.any_eq_true, decide_eq_true_eq]
  constructor
  · rintro ⟨z, hz, h⟩
    obtain ⟨q, hq, rfl⟩ := List.mem_map.mp hz
    simp only [pairD, eqD_tc, eqD_tn, eqD_int, Bool.and_true, Bool.and_eq_true, decide_eq_true_eq] at h
    have : q = p := Prod.ext h.1 h.2
    exact this ▸ hq
  · intro h
    refine ⟨_, List.mem_map_of_mem h, ?_⟩
    simp only [pairD, eqD_tc, eqD_tn, eqD_int, Bool.and_true, Bool.and_eq_true, decide_eq_true_eq, and_self]
def keyP (p : Int × Int) : List Key := [.inl p.2, .inl p.1]
theorem addK_pair (ps : List (Int × Int)) (p : Int × Int) : addK (ps.map keyP) (keyP p) = (if p ∈ ps then ps else ps ++ [p]).map keyP := by
  unfold addK
  have e : ((ps.map keyP).any fun k => decide (k = keyP p)) = decide (p ∈ ps) := by
    rw [Bool.eq_iff_iff, List.any_eq_true, decide_eq_true_eq]
    constructor
    · rintro ⟨z, hz, h⟩
      obtain ⟨q, hq, rfl⟩ := List.mem_map.mp hz
      have h' := of_decide_eq_true h
      unfold keyP at h'
      simp only [List.cons.injEq, Sum.inl.injEq, and_true] at h'
      have : q = p := Prod.ext h'.2 h'.1
      exact this ▸ hq
    · intro h
      exact ⟨_, List.mem_map_of_mem h, by simp⟩
  rw [e]
  by_cases h : p ∈ ps
  · simp [h]
  · simp [h]
theorem ok_united (T : Tx K mg C_Table C_InvalidTable C_InvalidBall aW tk) (F : FnE K mg "united" s_united ["one", "other"])  : CalE P w K mg base CX0 1 "united" ["one", "other"] (spD K W_united) := by
  obtain ⟨f, fd, F, g, bd⟩ := F
  refine ⟨f, fd, ?_, g, F.kp, bd⟩
  refine def0 F sc_united (fun ds R RX h => ?_) (fun cdv A outer s H vs Q E L ds R RX hr h => ?_)
  · obtain ⟨xs, ys, rfl, hl, kw, kn⟩ := h
    rfl
  obtain ⟨xs, ys, rfl, hl, kw, kn⟩ := h
  refine ⟨_, (pss_cons (ps_if (PW.pt (pw_or (pt_cmpR (ok' (K := K) rInA (op_inA (hu65 hr)) rfl) (pe_ix (ik (K := K) rIx ix_seq rfl) (pe_glob (v := .ref aW) rfl T.m_WHOLE rfl) pe_int (fun _ _ => rfl)) (pv 0) rfl) (pw_or1 (pt_cmpR (ok' (K := K) rInA (op_inA (hu65 hr)) rfl) (pe_ix (ik (K := K) rIx ix_seq rfl) (pe_glob (v := .ref aW) rfl T.m_WHOLE rfl) pe_int (fun _ _ => rfl)) (pv 1) rfl)))) (pss_one (ps_ret (pe_callTy (ck (K := K) rLstA cl_lst rfl) (by rfl) T.b_list (by decide +kernel) (pa_cons (pe_glob (v := .ref aW) rfl T.m_WHOLE rfl) pa_nil)))) pss_nil)
      (pss_cons (ps_set (i := 2) sc_united.nd rfl (by first | exact Or.inl rfl | exact Or.inr rfl) pe_dnewT)
      (pss_cons (ps_for PassesOwn.never rfl (pi_anyK (K := K) rfl (pe_op (ok' (K := K) rAddA op_addA rfl) (pv 0) (pv 1))) (pg_tupK (K := K) (n := 2) rfl rfl (pgs_cons (pg_name (i := 3) sc_united.nd rfl (by first | exact Or.inl rfl | exact Or.inr rfl)) (pgs_cons (pg_name (i := 4) sc_united.nd rfl (by first | exact Or.inl rfl | exact Or.inr rfl)) pgs_nil)))
      (pss_one (ps_dput (hu1 hr) (pv 2) (pe_tup (pa_cons (pv 4) (pa_cons (pv 3) pa_nil))) pe_bl rfl)))
      (pss_one (ps_ret (pe_lc (own := [("modulus", 4), ("remainder", 3)]) (by rfl) sc_united.nd (pi_anyK (K := K) rfl (pe_callB (ck (K := K) rSortD (cl_sortD (hu65 hr)) rfl) (by rfl) T.b_sorted (by decide +kernel) (pa_cons (pe_callTy (cl_lstDT rfl) (by rfl) T.b_list (by decide +kernel) (pa_cons (pv 2) pa_nil)) pa_nil))) (blkOk_by (own := [("modulus", 4), ("remainder", 3)]) (N := N_united) (sc := defScope s_united) (by decide +kernel)) (fun _ _ _ _ _ => (pg_tupK (K := K) (n := 2) rfl rfl (pgs_cons (pg_name (i := 4) sc_united.nd rfl (by first | exact Or.inl rfl | exact Or.inr rfl)) (pgs_cons (pg_name (i := 3) sc_united.nd rfl (by first | exact Or.inl rfl | exact Or.inr rfl)) pgs_nil)))) (fun _ _ _ _ _ => pts_nil) (fun _ _ _ _ _ => (pe_tup (pa_cons (pv 3) (pa_cons (pv 4) pa_nil)))))))))), ?_⟩
  try dsimp only [L2.cxOf, L2.Cx.nox, L2.Cx.wish]
  show XS K H L _ [some (.sh (.lst (xs.map pairD))), some (.sh (.lst (ys.map pairD))), none, none, none] _
  have o1 := pair_okD (0, 1)
  have inx : ∀ (R' : D → Prop), R' (.bl (decide ((0, 1) ∈ xs))) → XR K (rInA K) (.tup [.int 0, .int 1]) (.lst (xs.map pairD)) R' := fun R' h => xr_inL o1 (pairs_okL xs) (by rw [pair_any xs (0, 1)]; exact h)
  have iny : ∀ (R' : D → Prop), R' (.bl (decide ((0, 1) ∈ ys))) → XR K (rInA K) (.tup [.int 0, .int 1]) (.lst (ys.map pairD)) R' := fun R' h => xr_inL o1 (pairs_okL ys) (by rw [pair_any ys (0, 1)]; exact h)
  walk_at "x"
  refine inx _ ?_
  walk_at "x"
  refine br_d (fun h => ?_) (fun hx => ?_)
  · walk_at "x"
    exact kw (.inl h)
  · walk_at "x"
    refine iny _ ?_
    walk_at "x"
    refine br_d (fun h => ?_) (fun hy => ?_)
    · walk_at "x"
      exact kw (.inr h)
    · walk_at "x"
      refine xs_for (js := [3, 4]) ?_
      walk_at "x"
      refine xr_addL (by rw [List.length_map, List.length_map]; omega) ?_
      rw [← List.map_append]
      walk_at "x"
      refine ⟨fun i δ' => ∃ (ps : List (Int × Int)) (x y : Option SD), δ' = [some (.sh (.lst (xs.map pairD))), some (.sh (.lst (ys.map pairD))), some (.od (ps.map keyP)), x, y] ∧ ps.Nodup ∧ ps.length ≤ i ∧ ∀ c, c ∈ ps ↔ c ∈ (xs ++ ys).take i,
        ⟨[], none, none, rfl, List.nodup_nil, Nat.le_refl _, fun c => by simp⟩, ?_, ?_⟩
      · rintro G eG i d δ' hd ⟨ps, x, y, rfl, nd, hlen, hmem⟩
        rw [List.getElem?_map] at hd
        cases hc : (xs ++ ys)[i]? with
        | none => rw [hc] at hd; cases hd
        | some c =>
          rw [hc] at hd
          cases hd
          have hi : i < (xs ++ ys).length := (List.getElem?_eq_some_iff.mp hc).1
          rw [List.length_append] at hi
          walk_at "x"
          refine xs_dputT rfl (by rw [List.length_map]; omega) ?_
          walk_at "x"
          refine ⟨keyP c, rfl, by simp, ?_⟩
          rw [addK_pair]
          refine ⟨if c ∈ ps then ps else ps ++ [c], _, _, rfl, ?_, ?_, fun e => ?_⟩
          · split
            · exact nd
            · rename_i hn
              rw [List.nodup_append]
              refine ⟨nd, by simp, fun a ha b hb z => hn ?_⟩
              rw [List.mem_singleton.mp hb] at z
              exact z ▸ ha
          · split
            · omega
            · rw [List.length_append, List.length_singleton]; omega
          · have e1 : (xs ++ ys).take (i + 1) = (xs ++ ys).take i ++ [c] := by rw [List.take_add_one, hc]; rfl
            rw [e1, List.mem_append, ← hmem, List.mem_singleton]
            split
            · rename_i hn
              constructor
              · exact .inl
              · rintro (q | rfl)
                · exact q
                · exact hn
            · rw [List.mem_append, List.mem_singleton]
      · rintro δ' ⟨ps, x, y, rfl, nd, hlen, hmem⟩
        rw [List.length_map, List.length_append] at hlen
        have hmem' : ∀ c, c ∈ ps ↔ c ∈ xs ∨ c ∈ ys := fun c => by
          rw [hmem, List.length_map, List.take_length, List.mem_append]
        walk_at "x"
        refine xe_lcF (α := Int × Int) (js := [4, 3]) (by decide) ?_
        walk_at "x"
        have e1 : (ps.map keyP).map (fun ns => D.tup (ns.map kD)) = (ps.map fun p => (p.2, p.1)).map pairD := by
          rw [List.map_map, List.map_map]
          rfl
        rw [e1]
        refine xc_sortP fun qs hq => ?_
        walk_at "x"
        have hql : qs.length = ps.length := by rw [hq.length_eq, List.length_map]
        refine ⟨qs, pairD, fun p => pairD (p.2, p.1), rfl, by omega, fun G eG j q hj => ?_, ?_⟩
        · walk_at "x"
          rfl
        · have e2 : qs.map (fun p => pairD (p.2, p.1)) = (qs.map fun p => (p.2, p.1)).map pairD := by rw [List.map_map]; rfl
          rw [e2]
          have hp : (qs.map fun p => (p.2, p.1)).Perm ps := by
            have := hq.map (fun p : Int × Int => (p.2, p.1))
            rw [List.map_map] at this
            have e3 : ((fun p : Int × Int => (p.2, p.1)) ∘ fun p : Int × Int => (p.2, p.1)) = id := rfl
            rw [e3, List.map_id] at this
            exact this
          refine kn hx hy _ (hp.nodup_iff.mpr nd) (by rw [hp.length_eq]; exact hlen) fun c => ?_
          rw [hp.mem_iff]
          exact hmem' c
/-! ### solved -/
abbrev s_solved : Stmt := top 22
abbrev N_solved : List Str := ["factor", "right", "modulus"]
theorem sc_solved : FnScope N_solved ["factor", "right", "modulus"] (defScope s_solved) := ⟨rfl, rfl, rfl, by decide +kernel, rfl, by decide +kernel, by decide +kernel⟩
def W_solved : WP := fun ds R _ => ∃ (f r m : Int), ds = [.int f, .int r, .int m] ∧ (f = -2 ∨ f = -1 ∨ f = 0 ∨ f = 1 ∨ f = 2) ∧ (0 < m ∧ m ≤ 2 ^ 300 ∧ m % 2 = 0) ∧ R (.lst ((solvedW f r m).map pairD))
theorem ok_solved (T : Tx K mg C_Table C_InvalidTable C_InvalidBall aW tk) (F : FnE K mg "solved" s_solved ["factor", "right", "modulus"])  : CalE P w K mg base CX0 1 "solved" ["factor", "right", "modulus"] (spD K W_solved) := by
  obtain ⟨f, fd, F, g, bd⟩ := F
  refine ⟨f, fd, ?_, g, F.kp, bd⟩
  refine def0 F sc_solved (fun ds R RX h => ?_) (fun cdv A outer s H vs Q E L ds R RX hr h => ?_)
  · obtain ⟨f0, r0, m0, rfl, hf, ⟨hm, hm2, hm3⟩, k⟩ := h
    rfl
  obtain ⟨f0, r0, m0, rfl, hf, ⟨hm, hm2, hm3⟩, k⟩ := h
  refine ⟨_, (pss_cons (ps_if (pt_cmpR op_lt (pv 0) pe_int (nomark _)) (pss_cons (ps_set (i := 0) sc_solved.nd rfl (by first | exact Or.inl rfl | exact Or.inr rfl) (pe_un un_neg (pv 0)))
      (pss_one (ps_set (i := 1) sc_solved.nd rfl (by first | exact Or.inl rfl | exact Or.inr rfl) (pe_un un_neg (pv 1))))) pss_nil)
      (pss_cons (ps_if (pt_cmpR (ok' (K := K) rEqD (op_eqD hr.units) rfl) (pv 0) pe_int (nomark _)) (pss_one (ps_ret (pe_ifExp (pt_cmpR (ok' (K := K) rEqD (op_eqD hr.units) rfl) (pe_op op_mod (pv 1) (pv 2)) pe_int (nomark _)) (pe_callTy (ck (K := K) rLstA cl_lst rfl) (by rfl) T.b_list (by decide +kernel) (pa_cons (pe_glob (v := .ref aW) rfl T.m_WHOLE rfl) pa_nil)) (pe_lst pa_nil)))) pss_nil)
      (pss_cons (ps_if (pt_cmpR (ok' (K := K) rEqD (op_eqD hr.units) rfl) (pv 0) pe_int (nomark _)) (pss_one (ps_ret (pe_lst (pa_cons (pe_tup (pa_cons (pe_op op_mod (pv 1) (pv 2)) (pa_cons (pv 2) pa_nil))) pa_nil)))) pss_nil)
      (pss_cons (ps_if (pt_cmpR (ok' (K := K) rEqD (op_eqD hr.units) rfl) (pe_op op_mod (pv 2) pe_int) pe_int (nomark _)) (pss_one (ps_ret (pe_lst (pa_cons (pe_tup (pa_cons (pe_op op_mod (pe_op op_mulA (pv 1) (pe_op op_fdivW (pe_op (ok' (K := K) rAddA op_addA rfl) (pv 2) pe_int) pe_int)) (pv 2)) (pa_cons (pv 2) pa_nil))) pa_nil)))) pss_nil)
      (pss_cons (ps_if (pt_cmpR (ok' (K := K) rEqD (op_eqD hr.units) rfl) (pe_op op_mod (pv 1) pe_int) pe_int (nomark _)) (pss_one (ps_ret (pe_lst pa_nil))) pss_nil)
      (pss_one (ps_ret (pe_lst (pa_cons (pe_tup (pa_cons (pe_op op_mod (pe_op op_fdivW (pv 1) pe_int) (pe_op op_fdivW (pv 2) pe_int)) (pa_cons (pe_op op_fdivW (pv 2) pe_int) pa_nil))) pa_nil))))))))), ?_⟩
  try dsimp only [L2.cxOf, L2.Cx.nox, L2.Cx.wish]
  show XS K H L _ [some (.sh (.int f0)), some (.sh (.int r0)), some (.sh (.int m0))] _
  have two : ∀ r : Int, (∀ (R' : D → Prop), R' (.lst ((if r % 2 = 1 then [] else [(r / 2 % (m0 / 2), m0 / 2)]).map pairD)) → (r % 2 = 1 → R' (.lst [])) ∧ (¬ r % 2 = 1 → R' (.lst [.tup [.int (r / 2 % (m0 / 2)), .int (m0 / 2)]]))) := fun r R' h => ⟨fun z => by rw [if_pos z] at h; exact h, fun z => by rw [if_neg z] at h; exact h⟩
  rcases hf with rfl | rfl | rfl | rfl | rfl
  · obtain ⟨k1, k2⟩ := two (-r0) R k
    walk_at "x"
    refine br_tt rfl ?_
    walk_at "x"
    refine br_ff rfl ?_
    walk_at "x"
    refine br_ff rfl ?_
    walk_at "x"
    refine br_ff (decide_eq_false (by omega)) ?_
    walk_at "x"
    refine br_d (fun h => ?_) (fun h => ?_)
    · walk_at "x"
      exact k1 h
    · walk_at "x"
      exact k2 h
  · walk_at "x"
    refine br_tt rfl ?_
    walk_at "x"
    refine br_ff rfl ?_
    walk_at "x"
    refine br_tt rfl ?_
    walk_at "x"
    exact k
  · walk_at "x"
    refine br_ff rfl ?_
    walk_at "x"
    refine br_tt rfl ?_
    walk_at "x"
    have e : solvedW 0 r0 m0 = if r0 % m0 = 0 then [(0, 1)] else [] := rfl
    rw [e] at k
    refine br_d (fun h => ?_) (fun h => ?_)
    · rw [if_pos h] at k
      walk_at "x"
      exact k
    · rw [if_neg h] at k
      walk_at "x"
      exact k
  · walk_at "x"
    refine br_ff rfl ?_
    walk_at "x"
    refine br_ff rfl ?_
    walk_at "x"
    refine br_tt rfl ?_
    walk_at "x"
    exact k
  · obtain ⟨k1, k2⟩ := two r0 R k
    walk_at "x"
    refine br_ff rfl ?_
    walk_at "x"
    refine br_ff rfl ?_
    walk_at "x"
    refine br_ff rfl ?_
    walk_at "x"
    refine br_ff (decide_eq_false (by omega)) ?_
    walk_at "x"
    refine br_d (fun h => ?_) (fun h => ?_)
    · walk_at "x"
      exact k1 h
    · walk_at "x"
      exact k2 h
/-! ### meeting_classes -/
abbrev s_meeting_classes : Stmt := top 24
abbrev N_meeting_classes : List Str := ["size", "at", "step", "other", "move"]
theorem sc_meeting_classes : FnScope N_meeting_classes ["size", "at", "step", "other", "move"] (defScope s_meeting_classes) := ⟨rfl, rfl, rfl, by decide +kernel, rfl, by decide +kernel, by decide +kernel⟩
def W_meeting_classes : WP := fun ds R _ => ∃ (s a f o g : Int), ds = [.int s, .int a, .int f, .int o, .int g] ∧ (1 ≤ s ∧ s ≤ 2 ^ 150) ∧ (f = -1 ∨ f = 0 ∨ f = 1) ∧ (g = -1 ∨ g = 0 ∨ g = 1) ∧ ∀ zs : List (Int × Int), zs.length ≤ 2 → SameM zs (mcV s a f o g) → R (.lst (zs.map pairD))
theorem ok_meeting_classes (T : Tx K mg C_Table C_InvalidTable C_InvalidBall aW tk) (F : FnE K mg "meeting_classes" s_meeting_classes ["size", "at", "step", "other", "move"]) (c_united : CalE P w K mg base CX0 1 "united" ["one", "other"] (spD K W_united)) (c_solved : CalE P w K mg base CX0 1 "solved" ["factor", "right", "modulus"] (spD K W_solved)) : CalE P w K mg base CX0 2 "meeting_classes" ["size", "at", "step", "other", "move"] (spD K W_meeting_classes) := by
  obtain ⟨f_united, fd_united, G_united, g_united, k_united, b_united⟩ := c_united
  obtain ⟨f_solved, fd_solved, G_solved, g_solved, k_solved, b_solved⟩ := c_solved
  obtain ⟨f, fd, F, g, bd⟩ := F
  refine ⟨f, fd, ?_, g, F.kp, bd⟩
  refine def0 F sc_meeting_classes (fun ds R RX h => ?_) (fun cdv A outer s H vs Q E L ds R RX hr h => ?_)
  · obtain ⟨s0, a0, f0, o0, g0, rfl, ⟨hs, hs2⟩, hf, hg, k⟩ := h
    rfl
  obtain ⟨s0, a0, f0, o0, g0, rfl, ⟨hs, hs2⟩, hf, hg, k⟩ := h
  refine ⟨_, (pss_one (ps_ret (pe_call G_united (hr.mono (by decide)) rfl g_united k_united b_united .nil pass0 (pa_cons (pe_call G_solved (hr.mono (by decide)) rfl g_solved k_solved b_solved .nil pass0 (pa_cons (pe_op op_sub (pv 2) (pv 4)) (pa_cons (pe_op op_sub (pv 3) (pv 1)) (pa_cons (pe_op op_mulA pe_int (pv 0)) pa_nil)))) (pa_cons (pe_call G_solved (hr.mono (by decide)) rfl g_solved k_solved b_solved .nil pass0 (pa_cons (pe_op (ok' (K := K) rAddA op_addA rfl) (pv 2) (pv 4)) (pa_cons (pe_op op_sub (pe_un un_neg (pv 3)) (pv 1)) (pa_cons (pe_op op_mulA pe_int (pv 0)) pa_nil)))) pa_nil))))), ?_⟩
  try dsimp only [L2.cxOf, L2.Cx.nox, L2.Cx.wish]
  show XS K H L _ [some (.sh (.int s0)), some (.sh (.int a0)), some (.sh (.int f0)), some (.sh (.int o0)), some (.sh (.int g0))] _
  walk_at "x"
  refine ⟨f0 - g0, _, _, rfl, by omega, ⟨by omega, by omega, by omega⟩, ?_⟩
  walk_at "x"
  refine ⟨f0 + g0, _, _, rfl, by omega, ⟨by omega, by omega, by omega⟩, ?_⟩
  walk_at "x"
  have l1 := solvedW_len (f0 - g0) (o0 - a0) (2 * s0)
  have l2 := solvedW_len (f0 + g0) (-o0 - a0) (2 * s0)
  refine ⟨_, _, rfl, by omega, fun h => ?_, fun h1 h2 zs nd hl hm => ?_⟩
  · refine k [(0, 1)] (by decide) fun c => ?_
    unfold mcV
    rw [if_pos h]
  · refine k zs (by omega) fun c => ?_
    unfold mcV
    rw [if_neg (fun z => z.elim h1 h2), List.mem_append]
    exact hm c
/-! ### part_classes -/
abbrev s_part_classes : Stmt := top 26
abbrev N_part_classes : List Str := ["table", "one", "other", "found", "place", "size", "first", "second"]
theorem sc_part_classes : FnScope N_part_classes ["table", "one", "other"] (defScope s_part_classes) := ⟨rfl, rfl, rfl, by decide +kernel, rfl, by decide +kernel, by decide +kernel⟩
def W_part_classes (C : Addr) : WP := fun ds R _ => ∃ (w h : Int) (ps : List (Int × Int)) (b c : BallV), ds = [tblD C w h ps, ballD b, ballD c] ∧ TwoB w h b c ∧ okB w h c = true ∧
  ∀ zx zy : List (Int × Int), zx.length ≤ 2 → zy.length ≤ 2 → SameM zx (mxV w b c) → SameM zy (myV h b c) → R (.tup [.lst (zx.map pairD), .lst (zy.map pairD)])
theorem ok_part_classes (T : Tx K mg C_Table C_InvalidTable C_InvalidBall aW tk) (F : FnE K mg "part_classes" s_part_classes ["table", "one", "other"]) (c_meeting_classes : CalE P w K mg base CX0 2 "meeting_classes" ["size", "at", "step", "other", "move"] (spD K W_meeting_classes)) : CalE P w K mg base CX0 3 "part_classes" ["table", "one", "other"] (spD K (W_part_classes C_Table)) := by
  obtain ⟨f_meeting_classes, fd_meeting_classes, G_meeting_classes, g_meeting_classes, k_meeting_classes, b_meeting_classes⟩ := c_meeting_classes
  obtain ⟨f, fd, F, g, bd⟩ := F
  refine ⟨f, fd, ?_, g, F.kp, bd⟩
  refine def0 F sc_part_classes (fun ds R RX h => ?_) (fun cdv A outer s H vs Q E L ds R RX hr h => ?_)
  · obtain ⟨w0, h0, ps, b, c, rfl, q, co, k⟩ := h
    rfl
  obtain ⟨w0, h0, ps, b, c, rfl, q, co, k⟩ := h
  refine ⟨_, (pss_cons (ps_set (i := 3) sc_part_classes.nd rfl (by first | exact Or.inl rfl | exact Or.inr rfl) (pe_lst pa_nil))
      (pss_cons (ps_for PassesOwn.never rfl (pi_anyK (K := K) rfl (pe_tup (pa_cons (pe_tup (pa_cons pe_int (pa_cons (pe_fldK (K := K) rfl (pv 0)) pa_nil))) (pa_cons (pe_tup (pa_cons pe_int (pa_cons (pe_fldK (K := K) rfl (pv 0)) pa_nil))) pa_nil)))) (pg_tupK (K := K) (n := 2) rfl rfl (pgs_cons (pg_name (i := 4) sc_part_classes.nd rfl (by first | exact Or.inl rfl | exact Or.inr rfl)) (pgs_cons (pg_name (i := 5) sc_part_classes.nd rfl (by first | exact Or.inl rfl | exact Or.inr rfl)) pgs_nil)))
      (pss_cons (ps_set (i := 6) sc_part_classes.nd rfl (by first | exact Or.inl rfl | exact Or.inr rfl) (pe_op op_sub (pe_ix (ik (K := K) rIx ix_seq rfl) (pv 1) (pv 4) (fun _ _ => rfl)) (pe_op op_mulA (pe_ix (ik (K := K) rIx ix_seq rfl) (pv 1) (pe_op (ok' (K := K) rAddA op_addA rfl) (pv 4) pe_int) (fun _ _ => rfl)) (pe_ix (ik (K := K) rIx ix_seq rfl) (pv 1) pe_int (fun _ _ => rfl)))))
      (pss_cons (ps_set (i := 7) sc_part_classes.nd rfl (by first | exact Or.inl rfl | exact Or.inr rfl) (pe_op op_sub (pe_ix (ik (K := K) rIx ix_seq rfl) (pv 2) (pv 4) (fun _ _ => rfl)) (pe_op op_mulA (pe_ix (ik (K := K) rIx ix_seq rfl) (pv 2) (pe_op (ok' (K := K) rAddA op_addA rfl) (pv 4) pe_int) (fun _ _ => rfl)) (pe_ix (ik (K := K) rIx ix_seq rfl) (pv 2) pe_int (fun _ _ => rfl)))))
      (pss_one (ps_expr (pe_bm PySem.F.plainAttrs_list PySem.F.slot_list_append PySem.F.type_list_append mt_append (pv 3) (pa_cons (pe_call G_meeting_classes (hr.mono (by decide)) rfl g_meeting_classes k_meeting_classes b_meeting_classes .nil pass0 (pa_cons (pv 5) (pa_cons (pv 6) (pa_cons (pe_ix (ik (K := K) rIx ix_seq rfl) (pv 1) (pe_op (ok' (K := K) rAddA op_addA rfl) (pv 4) pe_int) (fun _ _ => rfl)) (pa_cons (pv 7) (pa_cons (pe_ix (ik (K := K) rIx ix_seq rfl) (pv 2) (pe_op (ok' (K := K) rAddA op_addA rfl) (pv 4) pe_int) (fun _ _ => rfl)) pa_nil)))))) pa_nil)))))))
      (pss_one (ps_ret (pe_tup (pa_cons (pe_ix (ik (K := K) rIx ix_seq rfl) (pv 3) pe_int (fun _ _ => rfl)) (pa_cons (pe_ix (ik (K := K) rIx ix_seq rfl) (pv 3) pe_int (fun _ _ => rfl)) pa_nil))))))), ?_⟩
  try dsimp only [L2.cxOf, L2.Cx.nox, L2.Cx.wish]
  show XS K H L _ [some (.sh (tblD C_Table w0 h0 ps)), some (.sh (ballD b)), some (.sh (ballD c)), none, none, none, none, none] _
  obtain ⟨ob1, ob2, ob3, ob4, ob5⟩ := okB_of q.bo
  obtain ⟨oc1, oc2, oc3, oc4, oc5⟩ := okB_of co
  have w1 := q.w1
  have w2 := q.w2
  have h1 := q.h1
  have h2 := q.h2
  have cm1 := mulS (i := b.dx) (j := b.m) (sz_of (by omega) (by omega)) (sz_of (by omega) (by omega))
  have cm2 := mulS (i := b.dy) (j := b.m) (sz_of (by omega) (by omega)) (sz_of (by omega) (by omega))
  have cm3 := mulS (i := c.dx) (j := c.m) (sz_of (by omega) (by omega)) (sz_of (by omega) (by omega))
  have cm4 := mulS (i := c.dy) (j := c.m) (sz_of (by omega) (by omega)) (sz_of (by omega) (by omega))
  walk_at "x"
  refine xs_for (js := [4, 5]) ?_
  walk_at "x"
  refine ⟨fun i δ' => ∃ (zs : List (List (Int × Int))) (x y z u : Option SD), δ' = [some (.sh (tblD C_Table w0 h0 ps)), some (.sh (ballD b)), some (.sh (ballD c)), some (.ow (zs.map fun l => .lst (l.map pairD))), x, y, z, u] ∧
      ((i = 0 ∧ zs = []) ∨ (i = 1 ∧ ∃ z1, zs = [z1] ∧ z1.length ≤ 2 ∧ SameM z1 (mxV w0 b c)) ∨ (i = 2 ∧ ∃ z1 z2, zs = [z1, z2] ∧ z1.length ≤ 2 ∧ SameM z1 (mxV w0 b c) ∧ z2.length ≤ 2 ∧ SameM z2 (myV h0 b c))),
    ⟨[], none, none, none, none, rfl, .inl ⟨rfl, rfl⟩⟩, ?_, ?_⟩
  · rintro G eG i d δ' hd ⟨zs, x, y, z, u, rfl, hi⟩
    rcases hi with ⟨rfl, rfl⟩ | ⟨rfl, z1, rfl, l1, o1⟩ | ⟨rfl, z1, z2, rfl, _⟩
    · cases hd
      walk_at "x"
      refine ⟨w0, _, b.dx, _, c.dx, rfl, ⟨by omega, by omega⟩, ob3, oc3, fun z1 l1 o1 => ?_⟩
      walk_at "x"
      exact ⟨[z1], _, _, _, _, rfl, .inr (.inl ⟨rfl, z1, rfl, l1, o1⟩)⟩
    · cases hd
      walk_at "x"
      refine ⟨h0, _, b.dy, _, c.dy, rfl, ⟨by omega, by omega⟩, ob4, oc4, fun z2 l2 o2 => ?_⟩
      walk_at "x"
      exact ⟨[z1, z2], _, _, _, _, rfl, .inr (.inr ⟨rfl, z1, z2, rfl, l1, o1, l2, o2⟩)⟩
    · cases hd
  · rintro δ' ⟨zs, x, y, z, u, rfl, hi⟩
    rcases hi with ⟨hi, _⟩ | ⟨hi, _⟩ | ⟨_, z1, z2, rfl, l1, o1, l2, o2⟩
    · cases hi
    · cases hi
    · refine xs_fz (i := 3) rfl ?_
      walk_at "x"
      exact k z1 z2 l1 l2 o1 o2
/-! ### never -/
abbrev s_never : Stmt := top 28
abbrev N_never : List Str := ["table", "one", "other", "first", "second", "rows", "left", "right"]
theorem sc_never : FnScope N_never ["table", "one", "other"] (defScope s_never) := ⟨rfl, rfl, rfl, by decide +kernel, rfl, by decide +kernel, by decide +kernel⟩
def W_never (C : Addr) : WP := fun ds R _ => ∃ (w h : Int) (ps : List (Int × Int)) (b c : BallV), ds = [tblD C w h ps, ballD b, ballD c] ∧ TwoB w h b c ∧ okB w h c = true ∧ ((∃ t, MeetT w h b c t) → R .non) ∧
  ∀ rows : List RowV, (¬ ∃ t, MeetT w h b c t) → rightB (mxV w b c) (myV h b c) rows = true → rows.length ≤ 4 → (∀ row ∈ rows, RowOk 100 row) → R (.lst (rows.map rowVD))
theorem prs_flat (xs ys : List (Int × Int)) : (prs xs ys xs.length).map (fun p => pairRow p.1 p.2) = xs.flatMap fun c => ys.map fun e => pairRow c e := by
  unfold prs
  rw [List.take_length, List.map_flatMap]
  congr 1
  funext a
  rw [List.map_map]
  rfl
theorem ok_never (T : Tx K mg C_Table C_InvalidTable C_InvalidBall aW tk) (F : FnE K mg "never" s_never ["table", "one", "other"]) (c_check_ball : CalE P w K mg base (L2.CX P w) 3 "check_ball" ["table", "ball"] (spD K (W_check_ball C_Table C_InvalidBall))) (c_part_classes : CalE P w K mg base CX0 3 "part_classes" ["table", "one", "other"] (spD K (W_part_classes C_Table))) (c_chinese : CalE P w K mg base CX0 2 "chinese" ["one", "other"] (spD K W_chinese)) : CalE P w K mg base CX0 4 "never" ["table", "one", "other"] (spD K (W_never C_Table)) := by
  obtain ⟨f_check_ball, fd_check_ball, G_check_ball, g_check_ball, k_check_ball, b_check_ball⟩ := c_check_ball
  obtain ⟨f_part_classes, fd_part_classes, G_part_classes, g_part_classes, k_part_classes, b_part_classes⟩ := c_part_classes
  obtain ⟨f_chinese, fd_chinese, G_chinese, g_chinese, k_chinese, b_chinese⟩ := c_chinese
  obtain ⟨f, fd, F, g, bd⟩ := F
  refine ⟨f, fd, ?_, g, F.kp, bd⟩
  refine def0 F sc_never (fun ds R RX h => ?_) (fun cdv A outer s H vs Q E L ds R RX hr h => ?_)
  · obtain ⟨w0, h0, ps, b, c, rfl, q, co, kn, ky⟩ := h
    rfl
  obtain ⟨w0, h0, ps, b, c, rfl, q, co, kn, ky⟩ := h
  refine ⟨_, (pss_cons (ps_expr (pe_call G_check_ball (hr.mono (by decide)) rfl g_check_ball k_check_ball b_check_ball .nil passL (pa_cons (pv 0) (pa_cons (pv 1) pa_nil))))
      (pss_cons (ps_expr (pe_call G_check_ball (hr.mono (by decide)) rfl g_check_ball k_check_ball b_check_ball .nil passL (pa_cons (pv 0) (pa_cons (pv 2) pa_nil))))
      (pss_cons (ps_asg (pe_call G_part_classes (hr.mono (by decide)) rfl g_part_classes k_part_classes b_part_classes .nil pass0 (pa_cons (pv 0) (pa_cons (pv 1) (pa_cons (pv 2) pa_nil)))) (pg_tupK (K := K) (n := 2) rfl rfl (pgs_cons (pg_name (i := 3) sc_never.nd rfl (by first | exact Or.inl rfl | exact Or.inr rfl)) (pgs_cons (pg_name (i := 4) sc_never.nd rfl (by first | exact Or.inl rfl | exact Or.inr rfl)) pgs_nil))))
      (pss_cons (ps_if (pt_not (pt_truK (K := K) rfl (pv 3))) (pss_one (ps_ret (pe_lst (pa_cons (pe_tup (pa_cons pe_str pa_nil)) pa_nil)))) pss_nil)
      (pss_cons (ps_if (pt_not (pt_truK (K := K) rfl (pv 4))) (pss_one (ps_ret (pe_lst (pa_cons (pe_tup (pa_cons pe_str pa_nil)) pa_nil)))) pss_nil)
      (pss_cons (ps_set (i := 5) sc_never.nd rfl (by first | exact Or.inl rfl | exact Or.inr rfl) (pe_lst pa_nil))
      (pss_cons (ps_for PassesOwn.never rfl (pi_anyK (K := K) rfl (pv 3)) (pg_name (i := 6) sc_never.nd rfl (by first | exact Or.inl rfl | exact Or.inr rfl))
      (pss_one (ps_for PassesOwn.never rfl (pi_anyK (K := K) rfl (pv 4)) (pg_name (i := 7) sc_never.nd rfl (by first | exact Or.inl rfl | exact Or.inr rfl))
      (pss_cons (ps_if (pt_cmpR op_notNn (pe_call G_chinese (hr.mono (by decide)) rfl g_chinese k_chinese b_chinese .nil pass0 (pa_cons (pv 6) (pa_cons (pv 7) pa_nil))) pe_non (nomark _)) (pss_one (ps_ret pe_non)) pss_nil)
      (pss_one (ps_expr (pe_bm PySem.F.plainAttrs_list PySem.F.slot_list_append PySem.F.type_list_append mt_append (pv 5) (pa_cons (pe_tup (pa_cons pe_str (pa_cons (pe_ix (ik (K := K) rIx ix_seq rfl) (pv 6) pe_int (fun _ _ => rfl)) (pa_cons (pe_ix (ik (K := K) rIx ix_seq rfl) (pv 6) pe_int (fun _ _ => rfl)) (pa_cons (pe_ix (ik (K := K) rIx ix_seq rfl) (pv 7) pe_int (fun _ _ => rfl)) (pa_cons (pe_ix (ik (K := K) rIx ix_seq rfl) (pv 7) pe_int (fun _ _ => rfl)) (pa_cons (pe_callBfun cl_gcd (by rfl) T.g_gcd (pa_cons (pe_ix (ik (K := K) rIx ix_seq rfl) (pv 6) pe_int (fun _ _ => rfl)) (pa_cons (pe_ix (ik (K := K) rIx ix_seq rfl) (pv 7) pe_int (fun _ _ => rfl)) pa_nil))) pa_nil))))))) pa_nil))))))))
      (pss_one (ps_ret (pv 5)))))))))), ?_⟩
  try dsimp only [L2.cxOf, L2.Cx.nox, L2.Cx.wish]
  show XS K H L _ [some (.sh (tblD C_Table w0 h0 ps)), some (.sh (ballD b)), some (.sh (ballD c)), none, none, none, none, none] _
  have w1 := q.w1
  have w2 := q.w2
  have h1 := q.h1
  have h2 := q.h2
  walk_at "x"
  refine ⟨w0, h0, ps, b, rfl, q.bn, fun _ => ?_, fun z => absurd q.bo (by rw [z]; decide)⟩
  walk_at "x"
  refine ⟨w0, h0, ps, c, rfl, q.cn, fun _ => ?_, fun z => absurd co (by rw [z]; decide)⟩
  walk_at "x"
  refine ⟨w0, h0, ps, b, c, rfl, q, co, fun zx zy lx ly sx sy => ?_⟩
  have okx : ∀ d ∈ zx, OkC d ∧ d.2 ≤ 12 := fun d hd => by
    obtain ⟨o1, o2⟩ := mcV_ok (by omega) ((sx d).mp hd)
    exact ⟨o1, by omega⟩
  have oky : ∀ d ∈ zy, OkC d ∧ d.2 ≤ 12 := fun d hd => by
    obtain ⟨o1, o2⟩ := mcV_ok (by omega) ((sy d).mp hd)
    exact ⟨o1, by omega⟩
  have meet : ∀ t, MeetT w0 h0 b c t ↔ (∃ d ∈ zx, InC d t) ∧ ∃ d ∈ zy, InC d t := fun t => by
    rw [meet_iff q co]
    exact ⟨fun ⟨⟨d, hd, h⟩, e, he, h'⟩ => ⟨⟨d, (sx d).mpr hd, h⟩, e, (sy e).mpr he, h'⟩, fun ⟨⟨d, hd, h⟩, e, he, h'⟩ => ⟨⟨d, (sx d).mp hd, h⟩, e, (sy e).mp he, h'⟩⟩
  have rgt : ∀ rows, rightB zx zy rows = true → rightB (mxV w0 b c) (myV h0 b c) rows = true := fun rows h => by rw [← rightB_congr sx sy]; exact h
  have nom : ∀ rows, rightB zx zy rows = true → ¬ ∃ t, MeetT w0 h0 b c t := fun rows h ⟨t, ht⟩ => right_sound h ((meet t).mp ht).1 ((meet t).mp ht).2
  walk_at "x"
  refine br_c (fun e => ?_) (fun e => ?_)
  · have hx : rightB zx zy [.x] = true := by
      cases zx with
      | nil => rfl
      | cons _ _ => cases e
    walk_at "x"
    exact ky [.x] (nom _ hx) (rgt _ hx) (by decide) fun row hr => by rw [List.mem_singleton.mp hr]; exact trivial
  have nx : zx ≠ [] := fun z => by rw [z] at e; cases e
  walk_at "x"
  refine br_c (fun e => ?_) (fun e => ?_)
  · have hy : rightB zx zy [.y] = true := by
      cases zy with
      | nil => rfl
      | cons _ _ => cases e
    walk_at "x"
    exact ky [.y] (nom _ hy) (rgt _ hy) (by decide) fun row hr => by rw [List.mem_singleton.mp hr]; exact trivial
  have ny : zy ≠ [] := fun z => by rw [z] at e; cases e
  have hlen : ∀ {i j : Nat}, i < zx.length → j < zy.length → (prs zx zy i ++ (zy.take j).map fun e => ((zx.getD i (0, 0)), e)).length < 100 := fun {i j} hi hj => by
    unfold prs
    rw [List.length_append, flat_len, List.length_take, List.length_map, List.length_take]
    have : min i zx.length * zy.length ≤ 2 * 2 := Nat.mul_le_mul (by omega) ly
    omega
  walk_at "x"
  refine xs_for (js := [6]) ?_
  walk_at "x"
  refine ⟨fun i δ' => ∃ (x y : Option SD), δ' = [some (.sh (tblD C_Table w0 h0 ps)), some (.sh (ballD b)), some (.sh (ballD c)), some (.sh (.lst (zx.map pairD))), some (.sh (.lst (zy.map pairD))), some (.ow ((prs zx zy i).map fun p => rowVD (pairRow p.1 p.2))), x, y] ∧ ∀ p ∈ prs zx zy i, (p.2.1 - p.1.1) % ((Int.gcd p.1.2 p.2.2 : Nat) : Int) ≠ 0,
    ⟨none, none, rfl, fun p hp => by simp [prs] at hp⟩, ?_, ?_⟩
  · rintro G eG i d δ' hd ⟨x, y, rfl, hI⟩
    rw [List.getElem?_map] at hd
    cases ha : zx[i]? with
    | none => rw [ha] at hd; cases hd
    | some l =>
      rw [ha] at hd
      cases hd
      have hi : i < zx.length := (List.getElem?_eq_some_iff.mp ha).1
      obtain ⟨ol, bl⟩ := okx l (List.mem_of_getElem? ha)
      walk_at "x"
      refine xs_for (js := [7]) ?_
      walk_at "x"
      refine ⟨fun j δ' => ∃ (y : Option SD), δ' = [some (.sh (tblD C_Table w0 h0 ps)), some (.sh (ballD b)), some (.sh (ballD c)), some (.sh (.lst (zx.map pairD))), some (.sh (.lst (zy.map pairD))), some (.ow ((prs zx zy i ++ (zy.take j).map fun e => (l, e)).map fun p => rowVD (pairRow p.1 p.2))), some (.sh (pairD l)), y] ∧ ∀ p ∈ (prs zx zy i ++ (zy.take j).map fun e => (l, e)), (p.2.1 - p.1.1) % ((Int.gcd p.1.2 p.2.2 : Nat) : Int) ≠ 0,
        ⟨y, by simp, by simpa using hI⟩, ?_, ?_⟩
      · rintro G2 eG2 j d δ' hd ⟨y, rfl, hJ⟩
        rw [List.getElem?_map] at hd
        cases hb : zy[j]? with
        | none => rw [hb] at hd; cases hd
        | some r =>
          rw [hb] at hd
          cases hd
          have hj : j < zy.length := (List.getElem?_eq_some_iff.mp hb).1
          obtain ⟨or', br'⟩ := oky r (List.mem_of_getElem? hb)
          have e1 : zy.take (j + 1) = zy.take j ++ [r] := by rw [List.take_add_one, hb]; rfl
          have e2 : (prs zx zy i ++ (zy.take (j + 1)).map fun e => (l, e)) = (prs zx zy i ++ (zy.take j).map fun e => (l, e)) ++ [(l, r)] := by rw [e1, List.map_append, List.append_assoc]; rfl
          have ll : (prs zx zy i ++ (zy.take j).map fun e => (l, e)).length < 100 := by
            have := hlen hi hj
            rw [List.length_append, List.length_map] at this ⊢
            exact this
          have ll2 : (prs zx zy i).length + (zy.take j).length < 100 := by rw [List.length_append, List.length_map] at ll; exact ll
          walk_at "x"
          refine ⟨l, r, rfl, ol, or', by omega, by omega, fun hne => ?_, fun heq v M hv0 hv1 hM hd1 hd2 ht => ?_⟩
          · walk_at "x"
            refine ⟨some (.sh (pairD r)), ?_, ?_⟩
            · have e4 : ((prs zx zy i ++ (zy.take (j + 1)).map fun e => (l, e)).map fun p => rowVD (pairRow p.1 p.2)) = ((prs zx zy i ++ (zy.take j).map fun e => (l, e)).map fun p => rowVD (pairRow p.1 p.2)) ++ [rowVD (pairRow l r)] := by rw [e2, List.map_append]; rfl
              rw [e4]
              rfl
            · rw [e2]
              intro p hp
              rcases List.mem_append.mp hp with z | z
              · exact hJ p z
              · rw [List.mem_singleton.mp z]
                exact hne
          · walk_at "x"
            refine kn ⟨v, (meet v).mpr ⟨⟨l, List.mem_of_getElem? ha, ?_⟩, r, List.mem_of_getElem? hb, ?_⟩⟩
            · exact (inC_iff ol).mpr ((ht v).mp ⟨0, by omega⟩).1
            · exact (inC_iff or').mpr ((ht v).mp ⟨0, by omega⟩).2
      · rintro δ' ⟨y, rfl, hJ⟩
        rw [List.length_map, List.take_length, ← prs_succ ha] at hJ ⊢
        exact ⟨_, _, rfl, hJ⟩
  · rintro δ' ⟨x, y, rfl, hI⟩
    rw [List.length_map] at hI ⊢
    refine xs_fz (i := 5) rfl ?_
    have all : ∀ l ∈ zx, ∀ r ∈ zy, (r.1 - l.1) % ((Int.gcd l.2 r.2 : Nat) : Int) ≠ 0 := fun l hl r hr => hI (l, r) (by
      unfold prs
      rw [List.take_length]
      exact List.mem_flatMap.mpr ⟨l, hl, List.mem_map.mpr ⟨r, hr, rfl⟩⟩)
    have hp := right_pairs nx ny (fun l hl => (okx l hl).1) all
    have e3 : (prs zx zy zx.length).map (fun p => rowVD (pairRow p.1 p.2)) = (zx.flatMap fun c => zy.map fun e => pairRow c e).map rowVD := by rw [← prs_flat, List.map_map]; rfl
    rw [e3]
    walk_at "x"
    refine ky _ (nom _ hp) (rgt _ hp) ?_ fun row hr => ?_
    · rw [flat_len]
      exact Nat.mul_le_mul lx ly
    · obtain ⟨l, hl, hr⟩ := List.mem_flatMap.mp hr
      obtain ⟨r, hr', rfl⟩ := List.mem_map.mp hr
      obtain ⟨⟨a1, a2⟩, a3⟩ := okx l hl
      obtain ⟨⟨b1, b2⟩, b3⟩ := oky r hr'
      have g1 : ((Int.gcd l.2 r.2 : Nat) : Int) ≤ l.2 := Int.le_of_dvd (by omega) (Int.gcd_dvd_left l.2 r.2)
      exact ⟨by omega, by omega, by omega, by omega, by omega, by omega⟩
/-! ### shows -/
abbrev s_shows : Stmt := top 29
abbrev N_shows : List Str := ["row", "left", "right", "divisor"]
theorem sc_shows : FnScope N_shows ["row", "left", "right"] (defScope s_shows) := ⟨rfl, rfl, rfl, by decide +kernel, rfl, by decide +kernel, by decide +kernel⟩
def W_shows : WP := fun ds R _ => ∃ (row : RowV) (c e : Int × Int), ds = [rowVD row, pairD c, pairD e] ∧ R (.bl (showsB row c e))
theorem showsB_pr (r m s n d : Int) (c e : Int × Int) : showsB (.pr r m s n d) c e = (decide (r = c.1 ∧ m = c.2 ∧ s = e.1 ∧ n = e.2) && (decide (1 ≤ d) && decide (c.2 % d = 0) && decide (e.2 % d = 0) && !decide (c.1 % d = e.1 % d))) := rfl
theorem okD_pr (r m s n d : Int) : okD (.tup [.str "pair", .int r, .int m, .int s, .int n]) = true := by
  have s3 : PyData.strOk ("pair" : Str) = true := by decide +kernel
  exact okD_of (by simp [cmpD, cmpDs, s3]) (by simp [depD, depDs])
theorem ok_shows (T : Tx K mg C_Table C_InvalidTable C_InvalidBall aW tk) (F : FnE K mg "shows" s_shows ["row", "left", "right"])  : CalE P w K mg base CX0 1 "shows" ["row", "left", "right"] (spD K W_shows) := by
  obtain ⟨f, fd, F, g, bd⟩ := F
  refine ⟨f, fd, ?_, g, F.kp, bd⟩
  refine def0 F sc_shows (fun ds R RX h => ?_) (fun cdv A outer s H vs Q E L ds R RX hr h => ?_)
  · obtain ⟨row, c, e, rfl, k⟩ := h
    rfl
  obtain ⟨row, c, e, rfl, k⟩ := h
  refine ⟨_, (pss_cons (ps_if (PW.pt (pw_or (pt_cmpR (ok' (K := K) rNeD (op_neD hr.units) rfl) (pe_callTy (ck (K := K) rTupA cl_tup rfl) (by rfl) T.b_tuple (by decide +kernel) (pa_cons (pe_slice (sk (K := K) sl_any rfl) (pv 0) po_none (po_some pe_int)) pa_nil)) (pe_tup (pa_cons pe_str (pa_cons (pe_ix (ik (K := K) rIx ix_seq rfl) (pv 1) pe_int (fun _ _ => rfl)) (pa_cons (pe_ix (ik (K := K) rIx ix_seq rfl) (pv 1) pe_int (fun _ _ => rfl)) (pa_cons (pe_ix (ik (K := K) rIx ix_seq rfl) (pv 2) pe_int (fun _ _ => rfl)) (pa_cons (pe_ix (ik (K := K) rIx ix_seq rfl) (pv 2) pe_int (fun _ _ => rfl)) pa_nil)))))) (nomark _)) (pw_or1 (pt_cmpR (ok' (K := K) rNeD (op_neD hr.units) rfl) (pe_callB (ck (K := K) rLenA cl_len rfl) (by rfl) T.b_len (by decide +kernel) (pa_cons (pv 0) pa_nil)) pe_int (nomark _))))) (pss_one (ps_ret pe_bl)) pss_nil)
      (pss_cons (ps_set (i := 3) sc_shows.nd rfl (by first | exact Or.inl rfl | exact Or.inr rfl) (pe_ix (ik (K := K) rIx ix_seq rfl) (pv 0) pe_int (fun _ _ => rfl)))
      (pss_cons (ps_if (pt_not (pt_truK (K := K) rfl (pe_callB (ck (K := K) rIsA cl_isi rfl) (by rfl) T.b_isinstance (by decide +kernel) (pa_cons (pv 3) (pa_cons (pe_bltn (v := .ty "int") rfl T.b_int (by decide +kernel) rfl) pa_nil))))) (pss_one (ps_ret pe_bl)) pss_nil)
      (pss_cons (ps_if (PW.pt (pw_or (pt_cmpR op_lt (pv 3) pe_int (nomark _)) (pw_or (pt_cmpR (ok' (K := K) rNeD (op_neD hr.units) rfl) (pe_op op_mod (pe_ix (ik (K := K) rIx ix_seq rfl) (pv 1) pe_int (fun _ _ => rfl)) (pv 3)) pe_int (nomark _)) (pw_or1 (pt_cmpR (ok' (K := K) rNeD (op_neD hr.units) rfl) (pe_op op_mod (pe_ix (ik (K := K) rIx ix_seq rfl) (pv 2) pe_int (fun _ _ => rfl)) (pv 3)) pe_int (nomark _)))))) (pss_one (ps_ret pe_bl)) pss_nil)
      (pss_one (ps_ret (pe_cmpR (ok' (K := K) rNeD (op_neD hr.units) rfl) (pe_op op_mod (pe_ix (ik (K := K) rIx ix_seq rfl) (pv 1) pe_int (fun _ _ => rfl)) (pv 3)) (pe_op op_mod (pe_ix (ik (K := K) rIx ix_seq rfl) (pv 2) pe_int (fun _ _ => rfl)) (pv 3)) (nomark _)))))))), ?_⟩
  try dsimp only [L2.cxOf, L2.Cx.nox, L2.Cx.wish]
  show XS K H L _ [some (.sh (rowVD row)), some (.sh (pairD c)), some (.sh (pairD e)), none] _
  have n3 : decide (("x" : Str) = ("pair" : Str)) = false := by decide +kernel
  have n4 : decide (("y" : Str) = ("pair" : Str)) = false := by decide +kernel
  cases row with
  | x =>
    walk_at "x"
    refine xr_ne (row_okD .x) (okD_pr _ _ _ _ 0) ?_
    rw [show eqD (.tup (cutD [D.str "x"] none (some 5))) (.tup [.str "pair", .int c.1, .int c.2, .int e.1, .int e.2]) = false by
      show eqD (.tup [D.str "x"]) _ = false
      rw [eqD_tc, eqD_str, n3]; rfl]
    walk_at "x"
    exact k
  | y =>
    walk_at "x"
    refine xr_ne (row_okD .y) (okD_pr _ _ _ _ 0) ?_
    rw [show eqD (.tup (cutD [D.str "y"] none (some 5))) (.tup [.str "pair", .int c.1, .int c.2, .int e.1, .int e.2]) = false by
      show eqD (.tup [D.str "y"]) _ = false
      rw [eqD_tc, eqD_str, n4]; rfl]
    walk_at "x"
    exact k
  | pr r m s n d =>
    have eb : eqD (.tup (cutD [D.str "pair", .int r, .int m, .int s, .int n, .int d] none (some 5))) (.tup [.str "pair", .int c.1, .int c.2, .int e.1, .int e.2]) = decide (r = c.1 ∧ m = c.2 ∧ s = e.1 ∧ n = e.2) := by
      show eqD (.tup [D.str "pair", .int r, .int m, .int s, .int n]) _ = _
      simp only [eqD_tc, eqD_tn, eqD_str, eqD_int, decide_true, Bool.true_and, Bool.and_true]
      rw [Bool.eq_iff_iff]
      simp only [Bool.and_eq_true, decide_eq_true_eq]
    have fin : ∀ b : Bool, b = showsB (.pr r m s n d) c e → R (.bl b) := fun b z => z ▸ k
    walk_at "x"
    refine xr_ne (okD_pr r m s n d) (okD_pr _ _ _ _ 0) ?_
    rw [eb]
    walk_at "x"
    refine br_d (fun h1 => ?_) (fun h1 => ?_)
    · walk_at "x"
      refine br_tt (decide_eq_true rfl) ?_
      walk_at "x"
      refine br_d (fun h2 => ?_) (fun h2 => ?_)
      · walk_at "x"
        exact fin _ (by simp [showsB, h2]; omega)
      · have hd : 0 < d := by omega
        walk_at "x"
        refine br_d (fun h3 => ?_) (fun h3 => ?_)
        · walk_at "x"
          refine br_d (fun h4 => ?_) (fun h4 => ?_)
          · walk_at "x"
            refine fin _ ?_
            rw [showsB_pr]
            rw [decide_eq_true h1, decide_eq_true (show 1 ≤ d by omega), decide_eq_true h3, decide_eq_true h4]
            rfl
          · walk_at "x"
            refine fin _ ?_
            rw [showsB_pr]
            rw [decide_eq_false h4]
            simp
        · walk_at "x"
          refine fin _ ?_
          rw [showsB_pr]
          rw [decide_eq_false h3]
          simp
    · walk_at "x"
      refine fin _ ?_
      rw [showsB_pr]
      rw [decide_eq_false h1]
      rfl
/-! ### check_never -/
abbrev s_check_never : Stmt := top 30
abbrev N_check_never : List Str := ["table", "one", "other", "rows", "first", "second", "words", "left", "right", "row"]
theorem sc_check_never : FnScope N_check_never ["table", "one", "other", "rows"] (defScope s_check_never) := ⟨rfl, rfl, rfl, by decide +kernel, rfl, by decide +kernel, by decide +kernel⟩
def W_check_never (C CB : Addr) : WP := fun ds R RX => ∃ (w h : Int) (ps : List (Int × Int)) (b c : BallV) (rows : List RowV), ds = [tblD C w h ps, ballD b, ballD c, .lst (rows.map rowVD)] ∧ TwoB w h b c ∧ rows.length ≤ 100 ∧ (okB w h c = false → RX CB) ∧
  (okB w h c = true → R (.bl (rightB (mxV w b c) (myV h b c) rows)))
theorem xr_eqR {K : K'} {R : D → Prop} {as bs : List RowV} (k : R (.bl (decide (as = bs)))) : XR K (rEqD K) (.lst (as.map rowVD)) (.lst (bs.map rowVD)) R := xr_eq (rows_okL as) (rows_okL bs) (by rw [eqD_rows]; exact k)
theorem any_flat {α β : Type} (xs : List α) (ys : List β) (p : α → β → Bool) : (xs.flatMap fun x => ys.map fun y => p x y).any id = xs.any fun x => ys.any fun y => p x y := by
  induction xs with
  | nil => rfl
  | cons x xs ih =>
    rw [List.flatMap_cons, List.any_append, ih, List.any_cons, List.any_map]
    rfl
theorem ok_check_never (T : Tx K mg C_Table C_InvalidTable C_InvalidBall aW tk) (F : FnE K mg "check_never" s_check_never ["table", "one", "other", "rows"]) (c_check_ball : CalE P w K mg base (L2.CX P w) 3 "check_ball" ["table", "ball"] (spD K (W_check_ball C_Table C_InvalidBall))) (c_part_classes : CalE P w K mg base CX0 3 "part_classes" ["table", "one", "other"] (spD K (W_part_classes C_Table))) (c_shows : CalE P w K mg base CX0 1 "shows" ["row", "left", "right"] (spD K W_shows)) : CalE P w K mg base (L2.CX P w) 4 "check_never" ["table", "one", "other", "rows"] (spD K (W_check_never C_Table C_InvalidBall)) := by
  obtain ⟨f_check_ball, fd_check_ball, G_check_ball, g_check_ball, k_check_ball, b_check_ball⟩ := c_check_ball
  obtain ⟨f_part_classes, fd_part_classes, G_part_classes, g_part_classes, k_part_classes, b_part_classes⟩ := c_part_classes
  obtain ⟨f_shows, fd_shows, G_shows, g_shows, k_shows, b_shows⟩ := c_shows
  obtain ⟨f, fd, F, g, bd⟩ := F
  refine ⟨f, fd, ?_, g, F.kp, bd⟩
  refine defX F sc_check_never (fun ds R RX h => ?_) (fun cdv A outer s H vs Q E L ds R RX hr h hE => ?_)
  · obtain ⟨w0, h0, ps, b, c, rows, rfl, q, hl, kx, k⟩ := h
    rfl
  obtain ⟨w0, h0, ps, b, c, rows, rfl, q, hl, kx, k⟩ := h
  refine ⟨_, (pss_cons (ps_expr (pe_call G_check_ball (hr.mono (by decide)) rfl g_check_ball k_check_ball b_check_ball .nil (passX (E := E) (takes_of rfl rfl rfl rfl)) (pa_cons (pv 0) (pa_cons (pv 1) pa_nil))))
      (pss_cons (ps_expr (pe_call G_check_ball (hr.mono (by decide)) rfl g_check_ball k_check_ball b_check_ball .nil (passX (E := E) (takes_of rfl rfl rfl rfl)) (pa_cons (pv 0) (pa_cons (pv 2) pa_nil))))
      (pss_cons (ps_asg (pe_call G_part_classes (hr.mono (by decide)) rfl g_part_classes k_part_classes b_part_classes .nil pass0 (pa_cons (pv 0) (pa_cons (pv 1) (pa_cons (pv 2) pa_nil)))) (pg_tupK (K := K) (n := 2) rfl rfl (pgs_cons (pg_name (i := 4) sc_check_never.nd rfl (by first | exact Or.inl rfl | exact Or.inr rfl)) (pgs_cons (pg_name (i := 5) sc_check_never.nd rfl (by first | exact Or.inl rfl | exact Or.inr rfl)) pgs_nil))))
      (pss_cons (ps_setLc (i := 6) (own := [("row", 9)]) (by rfl) sc_check_never.nd rfl rfl (sw_true rfl rfl rfl (by decide +kernel)) (pi_anyK (K := K) rfl (pv 3)) (blkOk_by (own := [("row", 9)]) (N := N_check_never) (sc := defScope s_check_never) (by decide +kernel)) (fun _ _ _ _ _ => (pg_name (i := 9) sc_check_never.nd rfl (by first | exact Or.inl rfl | exact Or.inr rfl))) (fun _ _ _ _ _ => pts_nil) (fun _ _ _ _ _ => (pe_callTy (ck (K := K) rTupA cl_tup rfl) (by rfl) T.b_tuple (by decide +kernel) (pa_cons (pv 9) pa_nil))))
      (pss_cons (ps_if (pt_cmpR (ok' (K := K) rEqD (op_eqD hr.units) rfl) (pv 6) (pe_lst (pa_cons (pe_tup (pa_cons pe_str pa_nil)) pa_nil)) (nomark _)) (pss_one (ps_ret (pe_notTK (K := K) rfl (pv 4)))) pss_nil)
      (pss_cons (ps_if (pt_cmpR (ok' (K := K) rEqD (op_eqD hr.units) rfl) (pv 6) (pe_lst (pa_cons (pe_tup (pa_cons pe_str pa_nil)) pa_nil)) (nomark _)) (pss_one (ps_ret (pe_notTK (K := K) rfl (pv 5)))) pss_nil)
      (pss_cons (ps_if (PW.pt (pw_or (pt_not (pt_truK (K := K) rfl (pv 4))) (pw_or1 (pt_not (pt_truK (K := K) rfl (pv 5)))))) (pss_one (ps_ret pe_bl)) pss_nil)
      (pss_cons (ps_for (passes_of rfl) rfl (pi_anyK (K := K) rfl (pv 4)) (pg_name (i := 7) sc_check_never.nd rfl (by first | exact Or.inl rfl | exact Or.inr rfl))
      (pss_one (ps_for (passes_of rfl) rfl (pi_anyK (K := K) rfl (pv 5)) (pg_name (i := 8) sc_check_never.nd rfl (by first | exact Or.inl rfl | exact Or.inr rfl))
      (pss_one (ps_if (pt_not (pt_truK (K := K) rfl (pe_callB (ck (K := K) rAnyA (cl_any rfl) rfl) (by rfl) T.b_any (by decide +kernel) (pa_cons (pe_lc (own := [("row", 9)]) (by rfl) sc_check_never.nd (pi_anyK (K := K) rfl (pv 6)) (blkOk_by (own := [("row", 9)]) (N := N_check_never) (sc := defScope s_check_never) (by decide +kernel)) (fun _ _ _ _ _ => (pg_name (i := 9) sc_check_never.nd rfl (by first | exact Or.inl rfl | exact Or.inr rfl))) (fun _ _ _ _ _ => pts_nil) (fun _ _ _ _ _ => (pe_call G_shows (hr.mono (by decide)) rfl g_shows k_shows b_shows .nil pass0 (pa_cons (pv 9) (pa_cons (pv 7) (pa_cons (pv 8) pa_nil)))))) pa_nil)))) (pss_one (ps_ret pe_bl)) pss_nil)))))
      (pss_one (ps_ret (pe_callB (ck (K := K) rAllA (cl_all rfl) rfl) (by rfl) T.b_all (by decide +kernel) (pa_cons (pe_lc (own := [("row", 9)]) (by rfl) sc_check_never.nd (pi_anyK (K := K) rfl (pv 6)) (blkOk_by (own := [("row", 9)]) (N := N_check_never) (sc := defScope s_check_never) (by decide +kernel)) (fun _ _ _ _ _ => (pg_name (i := 9) sc_check_never.nd rfl (by first | exact Or.inl rfl | exact Or.inr rfl))) (fun _ _ _ _ _ => pts_nil) (fun _ _ _ _ _ => (pe_callB (ck (K := K) rAnyA (cl_any rfl) rfl) (by rfl) T.b_any (by decide +kernel) (pa_cons (pe_lc2 (own := [("left", 7), ("right", 8)]) (vs1 := [8]) (by rfl) sc_check_never.nd (pi_anyK (K := K) rfl (pv 4)) (blkOk_by (own := [("left", 7), ("right", 8)]) (by rfl)) (by decide) (fun _ _ _ _ _ => (pg_name (i := 7) sc_check_never.nd rfl (by first | exact Or.inl rfl | exact Or.inr rfl))) (fun _ _ _ _ _ => pts_nil) (fun _ _ _ _ _ => (pi_anyK (K := K) rfl (pv 5))) (fun _ _ _ _ _ => (pg_name (i := 8) sc_check_never.nd rfl (by first | exact Or.inl rfl | exact Or.inr rfl))) (fun _ _ _ _ _ => pts_nil) (fun _ _ _ _ _ => (pe_call G_shows (hr.mono (by decide)) rfl g_shows k_shows b_shows .nil pass0 (pa_cons (pv 9) (pa_cons (pv 7) (pa_cons (pv 8) pa_nil)))))) pa_nil)))) pa_nil)))))))))))), ?_⟩
  try dsimp only [L2.cxOf, L2.Cx.nox, L2.Cx.wish]
  show XS K H L _ [some (.sh (tblD C_Table w0 h0 ps)), some (.sh (ballD b)), some (.sh (ballD c)), some (.sh (.lst (rows.map rowVD))), none, none, none, none, none, none] _
  walk_at "x"
  refine ⟨w0, h0, ps, b, rfl, q.bn, fun _ => ?_, fun z => absurd q.bo (by rw [z]; decide)⟩
  walk_at "x"
  refine ⟨w0, h0, ps, c, rfl, q.cn, fun co => ?_, fun z => kx z⟩
  walk_at "x"
  refine ⟨w0, h0, ps, b, c, rfl, q, co, fun zx zy lx ly sx sy => ?_⟩
  have kk : ∀ r : Bool, rightB zx zy rows = r → R (.bl r) := fun r e => by
    rw [← e, rightB_congr sx sy]
    exact k co
  walk_at "x"
  refine xe_lcF (α := RowV) (js := [9]) (by decide) ?_
  walk_at "x"
  refine ⟨rows, rowVD, rowVD, rfl, by omega, fun G eG i row hr => ?_, ?_⟩
  · cases row <;> (walk_at "x"; rfl)
  walk_at "x"
  refine xr_eqR (bs := [.x]) ?_
  walk_at "x"
  refine br_d (fun h1 => ?_) (fun h1 => ?_)
  · walk_at "x"
    refine kk _ ?_
    unfold rightB
    rw [if_pos h1]
    cases zx <;> rfl
  walk_at "x"
  refine xr_eqR (bs := [.y]) ?_
  walk_at "x"
  refine br_d (fun h2 => ?_) (fun h2 => ?_)
  · walk_at "x"
    refine kk _ ?_
    unfold rightB
    rw [if_neg h1, if_pos h2]
    cases zy <;> rfl
  have er : rightB zx zy rows = if (zx.isEmpty || zy.isEmpty) = true then false else ((zx.all fun l => zy.all fun r => rows.any fun row => showsB row l r) && rows.all fun row => zx.any fun l => zy.any fun r => showsB row l r) := by
    unfold rightB
    rw [if_neg h1, if_neg h2]
  walk_at "x"
  refine br_c (fun e => ?_) (fun e => ?_)
  · walk_at "x"
    refine kk _ ?_
    rw [er]
    cases zx with
    | nil => rfl
    | cons _ _ => cases e
  have ex : zx.isEmpty = false := by cases zx with | nil => cases e | cons _ _ => rfl
  walk_at "x"
  refine br_c (fun e' => ?_) (fun e' => ?_)
  · walk_at "x"
    refine kk _ ?_
    rw [er, ex]
    cases zy with
    | nil => rfl
    | cons _ _ => cases e'
  have ey : zy.isEmpty = false := by cases zy with | nil => cases e' | cons _ _ => rfl
  rw [ex, ey, if_neg (by decide)] at er
  walk_at "x"
  refine xs_for (js := [7]) ?_
  walk_at "x"
  refine ⟨fun i δ' => ∃ (x y : Option SD), δ' = [some (.sh (tblD C_Table w0 h0 ps)), some (.sh (ballD b)), some (.sh (ballD c)), some (.sh (.lst (rows.map rowVD))), some (.sh (.lst (zx.map pairD))), some (.sh (.lst (zy.map pairD))), some (.sh (.lst (rows.map rowVD))), x, y, none] ∧ ∀ l ∈ zx.take i, (zy.all fun r => rows.any fun row => showsB row l r) = true,
    ⟨none, none, rfl, fun l hl => by simp at hl⟩, ?_, ?_⟩
  · rintro G eG i d δ' hd ⟨x, y, rfl, hI⟩
    rw [List.getElem?_map] at hd
    cases ha : zx[i]? with
    | none => rw [ha] at hd; cases hd
    | some l =>
      rw [ha] at hd
      cases hd
      have et : zx.take (i + 1) = zx.take i ++ [l] := by rw [List.take_add_one, ha]; rfl
      walk_at "x"
      refine xs_for (js := [8]) ?_
      walk_at "x"
      refine ⟨fun j δ' => ∃ (y : Option SD), δ' = [some (.sh (tblD C_Table w0 h0 ps)), some (.sh (ballD b)), some (.sh (ballD c)), some (.sh (.lst (rows.map rowVD))), some (.sh (.lst (zx.map pairD))), some (.sh (.lst (zy.map pairD))), some (.sh (.lst (rows.map rowVD))), some (.sh (pairD l)), y, none] ∧ ∀ r ∈ zy.take j, (rows.any fun row => showsB row l r) = true,
        ⟨y, rfl, fun r hr => by simp at hr⟩, ?_, ?_⟩
      · rintro G2 eG2 j d δ' hd ⟨y, rfl, hJ⟩
        rw [List.getElem?_map] at hd
        cases hb : zy[j]? with
        | none => rw [hb] at hd; cases hd
        | some r =>
          rw [hb] at hd
          cases hd
          have et' : zy.take (j + 1) = zy.take j ++ [r] := by rw [List.take_add_one, hb]; rfl
          walk_at "x"
          refine xe_lcF (α := RowV) (js := [9]) (by decide) ?_
          walk_at "x"
          refine ⟨rows, rowVD, fun row => .bl (showsB row l r), rfl, by omega, fun G3 eG3 i3 row hr => ?_, ?_⟩
          · walk_at "x"
            refine ⟨row, l, r, rfl, ?_⟩
            rfl
          have e3 : rows.map (fun row => D.bl (showsB row l r)) = (rows.map fun row => showsB row l r).map D.bl := by rw [List.map_map]; rfl
          rw [e3]
          walk_at "x"
          have e4 : (rows.map fun row => showsB row l r).any id = rows.any fun row => showsB row l r := by rw [List.any_map]; rfl
          rw [e4]
          refine br_c (fun h => ?_) (fun h => ?_)
          · walk_at "x"
            refine ⟨_, rfl, fun r' hr' => ?_⟩
            rw [et'] at hr'
            rcases List.mem_append.mp hr' with z | z
            · exact hJ r' z
            · rw [List.mem_singleton.mp z]; exact h
          · walk_at "x"
            refine kk _ ?_
            rw [er, Bool.and_eq_false_iff]
            left
            rw [List.all_eq_false]
            refine ⟨l, List.mem_of_getElem? ha, ?_⟩
            rw [Bool.not_eq_true, List.all_eq_false]
            exact ⟨r, List.mem_of_getElem? hb, by rw [h]; decide⟩
      · rintro δ' ⟨y, rfl, hJ⟩
        rw [List.length_map, List.take_length] at hJ
        refine ⟨_, _, rfl, fun l' hl' => ?_⟩
        rw [et] at hl'
        rcases List.mem_append.mp hl' with z | z
        · exact hI l' z
        · rw [List.mem_singleton.mp z, List.all_eq_true]
          exact hJ
  · rintro δ' ⟨x, y, rfl, hI⟩
    rw [List.length_map, List.take_length] at hI
    walk_at "x"
    refine xe_lcF (α := RowV) (js := [9]) (by decide) ?_
    walk_at "x"
    refine ⟨rows, rowVD, fun row => .bl (zx.any fun l => zy.any fun r => showsB row l r), rfl, by omega, fun G3 eG3 i3 row hr => ?_, ?_⟩
    · walk_at "x"
      refine xe_lc2N (α := Int × Int) (β := Int × Int) (by decide) (by decide) ?_
      walk_at "x"
      refine ⟨zx, pairD, zy, pairD, fun l r => .bl (showsB row l r), rfl, by omega, by omega, fun l hl => ?_, ?_⟩
      · walk_at "x"
        refine ⟨rfl, fun r hr => ?_⟩
        walk_at "x"
        refine ⟨row, l, r, rfl, ?_⟩
        rfl
      · have e3 : (zx.flatMap fun l => zy.map fun r => D.bl (showsB row l r)) = (zx.flatMap fun l => zy.map fun r => showsB row l r).map D.bl := by
          rw [List.map_flatMap]
          congr 1
          funext l
          rw [List.map_map]
          rfl
        rw [e3]
        walk_at "x"
        rw [any_flat]
    · have e3 : rows.map (fun row => D.bl (zx.any fun l => zy.any fun r => showsB row l r)) = (rows.map fun row => zx.any fun l => zy.any fun r => showsB row l r).map D.bl := by rw [List.map_map]; rfl
      rw [e3]
      walk_at "x"
      refine kk _ ?_
      rw [er, show (zx.all fun l => zy.all fun r => rows.any fun row => showsB row l r) = true from List.all_eq_true.mpr hI, Bool.true_and, List.all_map]
      rfl
/-! ### never_text -/
abbrev s_never_text : Stmt := top 35
abbrev N_never_text : List Str := ["rows", "row", "part"]
theorem sc_never_text : FnScope N_never_text ["rows"] (defScope s_never_text) := ⟨rfl, rfl, rfl, by decide +kernel, rfl, by decide +kernel, by decide +kernel⟩
def W_never_text : WP := fun ds R _ => ∃ rows : List RowV, ds = [.lst (rows.map rowVD)] ∧ OkR rows ∧ R (.str (paperText rows))
def strD : D → Str
  | .int i => numS i
  | .str s => s
  | _ => Str.empty
def rowL : RowV → List D
  | .x => [.str "x"]
  | .y => [.str "y"]
  | .pr r m s n d => [.str "pair", .int r, .int m, .int s, .int n, .int d]
theorem rowL_words (row : RowV) : (rowL row).map (fun d => D.str (strD d)) = (rowWords row).map D.str := by cases row <;> rfl
theorem rowL_len (row : RowV) : (rowL row).length ≤ 6 := by cases row <;> simp [rowL]
theorem rowL_D (row : RowV) : rowVD row = .tup (rowL row) := by cases row <;> rfl
theorem rowL_ok {row : RowV} (k : RowOk 1000000 row) : ∀ d ∈ rowL row, (∃ s, d = .str s) ∨ ∃ i, d = .int i ∧ Sz i := by
  cases row with
  | x => exact fun d hd => .inl ⟨_, List.mem_singleton.mp hd⟩
  | y => exact fun d hd => .inl ⟨_, List.mem_singleton.mp hd⟩
  | pr r m s n d =>
    obtain ⟨a, b, c, e, f⟩ := k
    intro z hz
    have sz : ∀ i : Int, 0 ≤ i → i ≤ 1000000 → Sz i := fun i h1 h2 => sz_of (by omega) (by omega)
    simp only [rowL, List.mem_cons, List.not_mem_nil, or_false] at hz
    rcases hz with rfl | rfl | rfl | rfl | rfl | rfl
    · exact .inl ⟨_, rfl⟩
    · exact .inr ⟨_, rfl, sz _ a.1 a.2⟩
    · exact .inr ⟨_, rfl, sz _ b.1 b.2⟩
    · exact .inr ⟨_, rfl, sz _ c.1 c.2⟩
    · exact .inr ⟨_, rfl, sz _ e.1 e.2⟩
    · exact .inr ⟨_, rfl, sz _ f.1 f.2⟩
theorem paper_lines (rows : List RowV) : ([D.str "never"] ++ rows.map fun row => D.str (lineOf (rowWords row))) = (linesOf rows).map D.str := by
  unfold linesOf allWords
  simp only [List.map_cons, List.map_map, List.cons_append, List.nil_append, never_line]
  rfl
theorem ok_never_text (T : Tx K mg C_Table C_InvalidTable C_InvalidBall aW tk) (F : FnE K mg "never_text" s_never_text ["rows"])  : CalE P w K mg base CX0 1 "never_text" ["rows"] (spD K W_never_text) := by
  obtain ⟨f, fd, F, g, bd⟩ := F
  refine ⟨f, fd, ?_, g, F.kp, bd⟩
  refine def0 F sc_never_text (fun ds R RX h => ?_) (fun cdv A outer s H vs Q E L ds R RX hr h => ?_)
  · obtain ⟨rows, rfl, hO, k⟩ := h
    rfl
  obtain ⟨rows, rfl, hO, k⟩ := h
  refine ⟨_, (pss_one (ps_ret (pe_joinK (K := K) rfl pe_str (pe_op (ok' (K := K) rAddA op_addA rfl) (pe_lst (pa_cons pe_str pa_nil)) (pe_lc (own := [("row", 1)]) (by rfl) sc_never_text.nd (pi_anyK (K := K) rfl (pv 0)) (blkOk_by (own := [("row", 1)]) (N := N_never_text) (sc := defScope s_never_text) (by decide +kernel)) (fun _ _ _ _ _ => (pg_name (i := 1) sc_never_text.nd rfl (by first | exact Or.inl rfl | exact Or.inr rfl))) (fun _ _ _ _ _ => pts_nil) (fun _ _ _ _ _ => (pe_joinK (K := K) rfl pe_str (pe_lc (own := [("part", 2)]) (by rfl) sc_never_text.nd (pi_anyK (K := K) rfl (pv 1)) (blkOk_by (own := [("part", 2)]) (by rfl)) (fun _ _ _ _ _ => (pg_name (i := 2) sc_never_text.nd rfl (by first | exact Or.inl rfl | exact Or.inr rfl))) (fun _ _ _ _ _ => pts_nil) (fun _ _ _ _ _ => (pe_callTy cl_str (by rfl) T.b_str (by decide +kernel) (pa_cons (pv 2) pa_nil))))))))))), ?_⟩
  try dsimp only [L2.cxOf, L2.Cx.nox, L2.Cx.wish]
  show XS K H L _ [some (.sh (.lst (rows.map rowVD))), none, none] _
  have hl := hO.len
  have enl : ("\n" : Str).length = 1 := by decide +kernel
  have esp : (" " : Str).length = 1 := by decide +kernel
  obtain ⟨s1, s2⟩ := lines_sum hO
  walk_at "x"
  refine xe_lcF (α := RowV) (js := [1]) (by decide) ?_
  walk_at "x"
  refine ⟨rows, rowVD, fun row => .str (lineOf (rowWords row)), rfl, by omega, fun G eG i row hrow => ?_, ?_⟩
  · have ok := hO.ok row (List.mem_of_getElem? hrow)
    obtain ⟨a1, a2, a3⟩ := rowWords_ok ok
    rw [rowL_D row]
    walk_at "x"
    refine xe_lcF (α := D) (js := [2]) (by decide) ?_
    walk_at "x"
    refine ⟨rowL row, fun d => d, fun d => .str (strD d), by rw [List.map_id'], by have := rowL_len row; omega, fun G2 eG2 j d hd => ?_, ?_⟩
    · rcases rowL_ok ok d (List.mem_of_getElem? hd) with ⟨s, rfl⟩ | ⟨i, rfl, hi⟩
      · walk_at "x"
        rfl
      · walk_at "x"
        rfl
    · rw [rowL_words]
      walk_at "x"
      have h2 := words_sum a2 a3
      refine ⟨by rw [esp]; omega, rfl⟩
  refine xr_addL (by rw [List.length_map]; simp only [List.length_cons, List.length_nil]; omega) ?_
  rw [paper_lines]
  walk_at "x"
  exact ⟨by rw [enl]; omega, k⟩
/-! ### is_number -/
abbrev s_is_number : Stmt := top 36
abbrev N_is_number : List Str := ["word", "char"]
theorem sc_is_number : FnScope N_is_number ["word"] (defScope s_is_number) := ⟨rfl, rfl, rfl, by decide +kernel, rfl, by decide +kernel, by decide +kernel⟩
def W_is_number : WP := fun ds R _ => ∃ s : Str, ds = [.str s] ∧ numOk 70 s = true ∧ R (.bl true)
theorem digits_strOk {s : Str} (h : ∀ c ∈ s.cps.toList, c ∈ ("0123456789" : Str).cps.toList) : PyData.strOk s = true := strOk_of fun c hc => by
  have := digit_mem.mp (h c hc)
  omega
theorem ok_is_number (T : Tx K mg C_Table C_InvalidTable C_InvalidBall aW tk) (F : FnE K mg "is_number" s_is_number ["word"])  : CalE P w K mg base CX0 1 "is_number" ["word"] (spD K W_is_number) := by
  obtain ⟨f, fd, F, g, bd⟩ := F
  refine ⟨f, fd, ?_, g, F.kp, bd⟩
  refine def0 F sc_is_number (fun ds R RX h => ?_) (fun cdv A outer s H vs Q E L ds R RX hr h => ?_)
  · obtain ⟨s0, rfl, hn, k⟩ := h
    rfl
  obtain ⟨s0, rfl, hn, k⟩ := h
  refine ⟨_, (pss_cons (ps_if (PW.pt (pw_or (pt_not (pt_chain op_le op_le pe_int (pe_callB (ck (K := K) rLenA cl_len rfl) (by rfl) T.b_len (by decide +kernel) (pa_cons (pv 0) pa_nil)) (pe_glob (v := .int 70) rfl T.m_MOST_DIGITS ⟨_, rfl⟩))) (pw_or1 (pt_not (pt_truK (K := K) rfl (pe_callB (ck (K := K) rAllA (cl_all rfl) rfl) (by rfl) T.b_all (by decide +kernel) (pa_cons (pe_lc (own := [("char", 1)]) (by rfl) sc_is_number.nd (pi_str (pv 0)) (blkOk_by (own := [("char", 1)]) (N := N_is_number) (sc := defScope s_is_number) (by decide +kernel)) (fun _ _ _ _ _ => (pg_name (i := 1) sc_is_number.nd rfl (by first | exact Or.inl rfl | exact Or.inr rfl))) (fun _ _ _ _ _ => pts_nil) (fun _ _ _ _ _ => (pe_cmpR (ok' (K := K) rInA (op_inA (hu65 hr)) rfl) (pv 1) (pe_glob (v := .str "0123456789") rfl T.m_DIGITS ⟨_, rfl⟩) rfl))) pa_nil))))))) (pss_one (ps_ret pe_bl)) pss_nil)
      (pss_one (ps_ret (pe_or (pe_cmpR (ok' (K := K) rEqD (op_eqD hr.units) rfl) (pv 0) pe_str (nomark _)) (pe_one (pe_cmpR (ok' (K := K) rNeD (op_neD hr.units) rfl) (pe_ix (ik (K := K) rIx ix_seq rfl) (pv 0) pe_int (fun _ _ => rfl)) pe_str (nomark _))))))), ?_⟩
  try dsimp only [L2.cxOf, L2.Cx.nox, L2.Cx.wish]
  show XS K H L _ [some (.sh (.str s0)), none] _
  obtain ⟨⟨h1, h2⟩, hd, hz⟩ := numOk_of hn
  have ok0 := digits_strOk hd
  walk_at "x"
  refine br_tt (decide_eq_true (by omega)) ?_
  walk_at "x"
  refine br_tt (decide_eq_true (by omega)) ?_
  walk_at "x"
  refine xe_lcF (α := Nat) (js := [1]) (by decide) ?_
  walk_at "x"
  refine ⟨s0.cps.toList, fun c => .str ⟨#[c]⟩, fun _ => .bl true, rfl, ?_, fun G eG i x hx => ?_, ?_⟩
  · have : s0.cps.toList.length = s0.length := by simp [Str.length]
    omega
  · walk_at "x"
    refine xr_inS ?_
    rw [decide_eq_true (hd x (List.mem_of_getElem? hx))]
  · have e : s0.cps.toList.map (fun _ => D.bl true) = (List.replicate s0.cps.toList.length true).map D.bl := by
      rw [List.map_replicate, List.map_const']
    rw [e]
    walk_at "x"
    refine br_tt (by simp) ?_
    walk_at "x"
    refine xr_eqS ok0 (by decide +kernel) ?_
    walk_at "x"
    refine br_d (fun h => ?_) (fun h => ?_)
    · exact k
    · have hz' := hz.resolve_left h
      have hne : s0.cps.toList ≠ [] := fun z => by
        have : s0.cps.toList.length = s0.length := by simp [Str.length]
        rw [z] at this
        simp at this
        omega
      obtain ⟨c, l, hc⟩ := List.exists_cons_of_ne_nil hne
      rw [hc] at hz'
      have hc48 : c ≠ 48 := fun z => hz' (by rw [z]; rfl)
      have hcd := digit_mem.mp (hd c (by rw [hc]; exact List.mem_cons_self))
      walk_at "x"
      refine xr_ixS (z := s0) (c := c) (by omega) (by rw [hc]; simp [atI, ixN]) ?_
      walk_at "x"
      refine xr_neS (strOk_of fun x hx => ?_) (by decide +kernel) ?_
      · have hx' : x ∈ [c] := hx
        rw [List.mem_singleton.mp hx']
        omega
      · refine R_bl k ?_
        have : ¬ ((⟨#[c]⟩ : Str) = ("0" : Str)) := fun z => by
          have z2 := congrArg tl z
          have e0 : tl ("0" : Str) = [48] := by decide +kernel
          rw [e0] at z2
          have z3 : [c] = [48] := z2
          exact hc48 (List.cons.inj z3).1
        rw [decide_eq_false this]
        rfl
/-! ### are_numbers -/
abbrev s_are_numbers : Stmt := top 37
abbrev N_are_numbers : List Str := ["words", "many", "word"]
theorem sc_are_numbers : FnScope N_are_numbers ["words", "many"] (defScope s_are_numbers) := ⟨rfl, rfl, rfl, by decide +kernel, rfl, by decide +kernel, by decide +kernel⟩
def W_are_numbers : WP := fun ds R _ => ∃ ws : List Str, ds = [.lst (ws.map D.str), .int (ws.length : Nat)] ∧ ws.length ≤ 10 ∧ (∀ s ∈ ws, numOk 70 s = true) ∧ R (.bl true)
theorem ok_are_numbers (T : Tx K mg C_Table C_InvalidTable C_InvalidBall aW tk) (F : FnE K mg "are_numbers" s_are_numbers ["words", "many"]) (c_is_number : CalE P w K mg base CX0 1 "is_number" ["word"] (spD K W_is_number)) : CalE P w K mg base CX0 2 "are_numbers" ["words", "many"] (spD K W_are_numbers) := by
  obtain ⟨f_is_number, fd_is_number, G_is_number, g_is_number, k_is_number, b_is_number⟩ := c_is_number
  obtain ⟨f, fd, F, g, bd⟩ := F
  refine ⟨f, fd, ?_, g, F.kp, bd⟩
  refine def0 F sc_are_numbers (fun ds R RX h => ?_) (fun cdv A outer s H vs Q E L ds R RX hr h => ?_)
  · obtain ⟨ws, rfl, hl, hn, k⟩ := h
    rfl
  obtain ⟨ws, rfl, hl, hn, k⟩ := h
  refine ⟨_, (pss_one (ps_ret (pe_and (pe_cmpR (ok' (K := K) rEqD (op_eqD hr.units) rfl) (pe_callB (ck (K := K) rLenA cl_len rfl) (by rfl) T.b_len (by decide +kernel) (pa_cons (pv 0) pa_nil)) (pv 1) (nomark _)) (pe_one (pe_callB (ck (K := K) rAllA (cl_all rfl) rfl) (by rfl) T.b_all (by decide +kernel) (pa_cons (pe_lc (own := [("word", 2)]) (by rfl) sc_are_numbers.nd (pi_anyK (K := K) rfl (pv 0)) (blkOk_by (own := [("word", 2)]) (N := N_are_numbers) (sc := defScope s_are_numbers) (by decide +kernel)) (fun _ _ _ _ _ => (pg_name (i := 2) sc_are_numbers.nd rfl (by first | exact Or.inl rfl | exact Or.inr rfl))) (fun _ _ _ _ _ => pts_nil) (fun _ _ _ _ _ => (pe_call G_is_number (hr.mono (by decide)) rfl g_is_number k_is_number b_is_number .nil pass0 (pa_cons (pv 2) pa_nil)))) pa_nil)))))), ?_⟩
  try dsimp only [L2.cxOf, L2.Cx.nox, L2.Cx.wish]
  show XS K H L _ [some (.sh (.lst (ws.map D.str))), some (.sh (.int (ws.length : Nat))), none] _
  walk_at "x"
  refine br_tt (decide_eq_true (by rw [List.length_map])) ?_
  walk_at "x"
  refine xe_lcF (α := Str) (js := [2]) (by decide) ?_
  walk_at "x"
  refine ⟨ws, D.str, fun _ => .bl true, rfl, by omega, fun G eG i s hs => ?_, ?_⟩
  · walk_at "x"
    refine ⟨s, rfl, hn s (List.mem_of_getElem? hs), ?_⟩
    rfl
  · have e : ws.map (fun _ => D.bl true) = (List.replicate ws.length true).map D.bl := by
      rw [List.map_replicate, List.map_const']
    rw [e]
    walk_at "x"
    refine R_bl k ?_
    simp
/-! ### parse_never -/
abbrev s_parse_never : Stmt := top 38
abbrev N_parse_never : List Str := ["text", "lines", "rows", "number", "words", "line", "word"]
theorem sc_parse_never : FnScope N_parse_never ["text"] (defScope s_parse_never) := ⟨rfl, rfl, rfl, by decide +kernel, rfl, by decide +kernel, by decide +kernel⟩
abbrev wlD (ws : List Str) : D := .lst (ws.map D.str)
def W_parse_never : WP := fun ds R _ => ∃ rows : List RowV, ds = [.str (paperText rows)] ∧ OkR rows ∧ R (.lst (rows.map rowVD))
theorem strs_okL (ws : List Str) (h : ∀ n ∈ ws, PyData.strOk n = true) : okD (wlD ws) = true := by
  have hh : cmpDs (ws.map D.str) = true ∧ depDs (ws.map D.str) ≤ 0 := by
    induction ws with
    | nil => exact ⟨by simp [cmpDs], by simp [depDs]⟩
    | cons p ps ih =>
      obtain ⟨i1, i2⟩ := ih fun n hn => h n (List.mem_cons_of_mem _ hn)
      exact ⟨by simp [cmpDs, cmpD, h p (by simp), i1], by simp only [List.map_cons, depDs, depD]; omega⟩
  refine okD_of (by simpa [cmpD] using hh.1) ?_
  simp only [depD]
  omega
theorem xy_ok : okD (.tup [wlD ["x"], wlD ["y"]]) = true := by
  have s1 : PyData.strOk ("x" : Str) = true := by decide +kernel
  have s2 : PyData.strOk ("y" : Str) = true := by decide +kernel
  exact okD_of (by simp [cmpD, cmpDs, s1, s2]) (by simp [depD, depDs])
theorem eqD_ss (a b : Str) : eqD (wlD [a]) (wlD [b]) = decide (a = b) := by
  show eqD (.lst [.str a]) (.lst [.str b]) = _
  rw [eqD_lc, eqD_str, eqD_ln, Bool.and_true]
/-- is it one of ["x"], ["y"] -/
def isXY : RowV → Bool
  | .pr .. => false
  | _ => true
theorem xy_in (row : RowV) : ([wlD ["x"], wlD ["y"]].any fun z => eqD z (wlD (rowWords row))) = isXY row := by
  have n1 : decide (("y" : Str) = ("x" : Str)) = false := by decide +kernel
  have n2 : decide (("x" : Str) = ("y" : Str)) = false := by decide +kernel
  have n3 : decide (("x" : Str) = ("pair" : Str)) = false := by decide +kernel
  have n4 : decide (("y" : Str) = ("pair" : Str)) = false := by decide +kernel
  cases row with
  | x => simp only [List.any_cons, List.any_nil, rowWords, eqD_ss, decide_true, n1]; rfl
  | y => simp only [List.any_cons, List.any_nil, rowWords, eqD_ss, decide_true, n2]; rfl
  | pr r m s n d =>
    simp only [List.any_cons, List.any_nil, rowWords]
    have q : ∀ a : Str, decide (a = ("pair" : Str)) = false → eqD (wlD [a]) (wlD ["pair", numS r, numS m, numS s, numS n, numS d]) = false := fun a h => by
      show eqD (.lst [.str a]) (.lst (.str "pair" :: _)) = false
      rw [eqD_lc, eqD_str, h]
      rfl
    rw [q _ n3, q _ n4]
    rfl
theorem words_strOk {row : RowV} (k : RowOk 1000000 row) : ∀ s ∈ rowWords row, PyData.strOk s = true := fun s hs => ((rowWords_ok k).2.2 s hs).2.2.2
theorem ok_parse_never (T : Tx K mg C_Table C_InvalidTable C_InvalidBall aW tk) (F : FnE K mg "parse_never" s_parse_never ["text"]) (c_are_numbers : CalE P w K mg base CX0 2 "are_numbers" ["words", "many"] (spD K W_are_numbers)) : CalE P w K mg base CX0 3 "parse_never" ["text"] (spD K W_parse_never) := by
  obtain ⟨f_are_numbers, fd_are_numbers, G_are_numbers, g_are_numbers, k_are_numbers, b_are_numbers⟩ := c_are_numbers
  obtain ⟨f, fd, F, g, bd⟩ := F
  refine ⟨f, fd, ?_, g, F.kp, bd⟩
  refine def0 F sc_parse_never (fun ds R RX h => ?_) (fun cdv A outer s H vs Q E L ds R RX hr h => ?_)
  · obtain ⟨rows, rfl, hO, k⟩ := h
    rfl
  obtain ⟨rows, rfl, hO, k⟩ := h
  refine ⟨_, (pss_cons (ps_setLc (i := 1) (own := [("line", 5)]) (by rfl) sc_parse_never.nd rfl rfl (sw_true rfl rfl rfl (by decide +kernel)) (pi_anyK (K := K) rfl (pe_splitK (pv 0) pe_str)) (blkOk_by (own := [("line", 5)]) (N := N_parse_never) (sc := defScope s_parse_never) (by decide +kernel)) (fun _ _ _ _ _ => (pg_name (i := 5) sc_parse_never.nd rfl (by first | exact Or.inl rfl | exact Or.inr rfl))) (fun _ _ _ _ _ => pts_nil) (fun _ _ _ _ _ => (pe_splitK (pv 5) pe_str)))
      (pss_cons (ps_if (pt_cmpR (ok' (K := K) rNeD (op_neD hr.units) rfl) (pe_ix (ik (K := K) rIx ix_seq rfl) (pv 1) pe_int (fun _ _ => rfl)) (pe_lst (pa_cons pe_str pa_nil)) (nomark _)) (pss_one ps_never) pss_nil)
      (pss_cons (ps_set (i := 2) sc_parse_never.nd rfl (by first | exact Or.inl rfl | exact Or.inr rfl) (pe_lst pa_nil))
      (pss_cons (ps_for PassesOwn.never rfl (pi_enum2K (K := K) rfl (by rfl) T.b_enumerate (pa_cons (pe_slice (sk (K := K) sl_any rfl) (pv 1) (po_some pe_int) po_none) (pa_cons pe_int pa_nil))) (pg_tupK (K := K) (n := 2) rfl rfl (pgs_cons (pg_name (i := 3) sc_parse_never.nd rfl (by first | exact Or.inl rfl | exact Or.inr rfl)) (pgs_cons (pg_name (i := 4) sc_parse_never.nd rfl (by first | exact Or.inl rfl | exact Or.inr rfl)) pgs_nil)))
      (pss_one (ps_if (pt_cmpR (ok' (K := K) rInA (op_inA (hu65 hr)) rfl) (pv 4) (pe_tup (pa_cons (pe_lst (pa_cons pe_str pa_nil)) (pa_cons (pe_lst (pa_cons pe_str pa_nil)) pa_nil))) rfl) (pss_one (ps_expr (pe_bm PySem.F.plainAttrs_list PySem.F.slot_list_append PySem.F.type_list_append mt_append (pv 2) (pa_cons (pe_tup (pa_cons (pe_ix (ik (K := K) rIx ix_seq rfl) (pv 4) pe_int (fun _ _ => rfl)) pa_nil)) pa_nil)))) (pss_one (ps_if (PW.pt (pw_and (pt_cmpR (ok' (K := K) rEqD (op_eqD hr.units) rfl) (pe_ix (ik (K := K) rIx ix_seq rfl) (pv 4) pe_int (fun _ _ => rfl)) pe_str (nomark _)) (pw_and1 (pt_truK (K := K) rfl (pe_call G_are_numbers (hr.mono (by decide)) rfl g_are_numbers k_are_numbers b_are_numbers .nil pass0 (pa_cons (pe_slice (sk (K := K) sl_any rfl) (pv 4) (po_some pe_int) po_none) (pa_cons (pe_glob (v := .int 5) rfl T.m_PAIR_NUMBERS ⟨_, rfl⟩) pa_nil))))))) (pss_one (ps_expr (pe_bm PySem.F.plainAttrs_list PySem.F.slot_list_append PySem.F.type_list_append mt_append (pv 2) (pa_cons (pe_tup (pa_cons pe_str (pa_starK (K := K) rfl (pe_lc (own := [("word", 6)]) (by rfl) sc_parse_never.nd (pi_anyK (K := K) rfl (pe_slice (sk (K := K) sl_any rfl) (pv 4) (po_some pe_int) po_none)) (blkOk_by (own := [("word", 6)]) (N := N_parse_never) (sc := defScope s_parse_never) (by decide +kernel)) (fun _ _ _ _ _ => (pg_name (i := 6) sc_parse_never.nd rfl (by first | exact Or.inl rfl | exact Or.inr rfl))) (fun _ _ _ _ _ => pts_nil) (fun _ _ _ _ _ => (pe_callTy cl_int (by rfl) T.b_int (by decide +kernel) (pa_cons (pv 6) pa_nil)))) pa_nil))) pa_nil)))) (pss_one ps_never))))))
      (pss_one (ps_ret (pv 2))))))), ?_⟩
  try dsimp only [L2.cxOf, L2.Cx.nox, L2.Cx.wish]
  show XS K H L _ [some (.sh (.str (paperText rows))), none, none, none, none, none, none] _
  have hl := hO.len
  have al : (allWords rows).length ≤ 60 := by unfold allWords; rw [List.length_cons, List.length_map]; omega
  walk_at "x"
  refine xe_lcF (α := List Str) (js := [5]) (by decide) ?_
  walk_at "x"
  refine ⟨by decide +kernel, by have := text_len hO; omega, ?_⟩
  rw [text_split hO]
  walk_at "x"
  refine ⟨allWords rows, fun ws => .str (lineOf ws), wlD, by unfold linesOf; rw [List.map_map]; rfl, by omega, fun G eG i ws hws => ?_, ?_⟩
  · obtain ⟨a, b, c⟩ := allWords_ok hO.ok ws (List.mem_of_getElem? hws)
    obtain ⟨g1, g2, g3⟩ := line_ok a b c
    walk_at "x"
    refine ⟨by decide +kernel, by omega, ?_⟩
    rw [g3]
  have e0 : (allWords rows).map wlD = wlD ["never"] :: (rows.map rowWords).map wlD := rfl
  rw [e0]
  have hix : atD (wlD ["never"] :: (rows.map rowWords).map wlD) 0 = some (wlD ["never"]) := atD_nat (j := 0) rfl
  have snv : PyData.strOk ("never" : Str) = true := by decide +kernel
  walk_at "x"
  refine xr_ixL hix ?_
  walk_at "x"
  refine xr_ne (strs_okL ["never"] fun n hn => by rw [List.mem_singleton.mp hn]; exact snv) (strs_okL ["never"] fun n hn => by rw [List.mem_singleton.mp hn]; exact snv) ?_
  rw [show eqD (wlD ["never"]) (.lst [.str "never"]) = true by rw [show (D.lst [.str "never"]) = wlD ["never"] from rfl, eqD_ss]; exact decide_eq_true rfl]
  walk_at "x"
  refine xs_for (js := [3, 4]) ?_
  refine xi_enum2L ?_
  walk_at "x"
  refine ⟨_, 2, rfl, by decide, ?_⟩
  have e1 : cutD (wlD ["never"] :: (rows.map rowWords).map wlD) (some 1) none = (rows.map rowWords).map wlD := by
    have := cutD_from (wlD ["never"] :: (rows.map rowWords).map wlD) 1
    exact this
  rw [e1]
  refine ⟨fun i δ' => ∃ (x y : Option SD), δ' = [some (.sh (.str (paperText rows))), some (.sh (.lst (wlD ["never"] :: (rows.map rowWords).map wlD))), some (.ow ((rows.take i).map rowVD)), x, y, none, none], ⟨none, none, rfl⟩, ?_, ?_⟩
  · rintro G eG i d δ' hd ⟨x, y, rfl⟩
    obtain ⟨z, hz, rfl⟩ := enumD_get hd
    rw [List.getElem?_map, List.getElem?_map] at hz
    cases hrow : rows[i]? with
    | none => rw [hrow] at hz; cases hz
    | some row =>
      rw [hrow] at hz
      cases hz
      have ok := hO.ok row (List.mem_of_getElem? hrow)
      have lr : (rows.take i).length < 100 := by rw [List.length_take]; omega
      have lr2 : ((rows.take i).map rowVD).length < 100000 := by rw [List.length_map]; omega
      have e3 : (rows.take (i + 1)).map rowVD = (rows.take i).map rowVD ++ [rowVD row] := by rw [List.take_add_one, hrow, List.map_append]; rfl
      walk_at "x"
      refine xr_inT (strs_okL _ (words_strOk ok)) xy_ok ?_
      rw [show ([D.lst [D.str "x"], D.lst [D.str "y"]].any fun z => eqD z (wlD (rowWords row))) = isXY row from xy_in row]
      cases row with
      | x =>
        walk_at "x"
        refine br_tt rfl ?_
        walk_at "x"
        refine ⟨some (.sh (.int (2 + (i : Nat)))), some (.sh (wlD (rowWords .x))), ?_⟩
        rw [e3]
        rfl
      | y =>
        walk_at "x"
        refine br_tt rfl ?_
        walk_at "x"
        refine ⟨some (.sh (.int (2 + (i : Nat)))), some (.sh (wlD (rowWords .y))), ?_⟩
        rw [e3]
        rfl
      | pr r m s n d =>
        obtain ⟨k1, k2, k3, k4, k5⟩ := ok
        walk_at "x"
        refine br_ff rfl ?_
        walk_at "x"
        refine xr_eqS (by decide +kernel) (by decide +kernel) ?_
        walk_at "x"
        refine br_tt (decide_eq_true rfl) ?_
        walk_at "x"
        refine ⟨[numS r, numS m, numS s, numS n, numS d], rfl, by simp, fun z hz => ?_, ?_⟩
        · simp only [List.mem_cons, List.not_mem_nil, or_false] at hz
          rcases hz with rfl | rfl | rfl | rfl | rfl
          · exact num70 k1.1 k1.2
          · exact num70 k2.1 k2.2
          · exact num70 k3.1 k3.2
          · exact num70 k4.1 k4.2
          · exact num70 k5.1 k5.2
        walk_at "x"
        refine xa_star ?_
        refine xe_lcF (α := Int) (js := [6]) (by decide) ?_
        walk_at "x"
        refine ⟨[r, m, s, n, d], fun i => .str (numS i), D.int, rfl, by simp, fun G2 eG2 j v hv => ?_, ?_⟩
        · have hv2 : 0 ≤ v ∧ v ≤ 1000000 := by
            have := List.mem_of_getElem? hv
            simp only [List.mem_cons, List.not_mem_nil, or_false] at this
            rcases this with rfl | rfl | rfl | rfl | rfl
            · exact k1
            · exact k2
            · exact k3
            · exact k4
            · exact k5
          walk_at "x"
          refine xc_intS (num_int hv2.1 hv2.2) (by have := num_len hv2.1 hv2.2; omega) ?_
          rfl
        · refine ⟨_, rfl, ?_⟩
          walk_at "x"
          refine ⟨some (.sh (.int (2 + (i : Nat)))), some (.sh (wlD (rowWords (.pr r m s n d)))), ?_⟩
          rw [e3]
          rfl
  · rintro δ' ⟨x, y, rfl⟩
    rw [enumD_len, List.length_map, List.length_map, List.take_length]
    refine xs_fz (i := 2) rfl ?_
    walk_at "x"
    exact k
/-! ### check_text -/
abbrev s_check_text : Stmt := top 39
abbrev N_check_text : List Str := ["table", "one", "other", "text"]
theorem sc_check_text : FnScope N_check_text ["table", "one", "other", "text"] (defScope s_check_text) := ⟨rfl, rfl, rfl, by decide +kernel, rfl, by decide +kernel, by decide +kernel⟩
def W_check_text (C CB : Addr) : WP := fun ds R RX => ∃ (w h : Int) (ps : List (Int × Int)) (b c : BallV) (rows : List RowV), ds = [tblD C w h ps, ballD b, ballD c, .str (paperText rows)] ∧ TwoB w h b c ∧ OkR rows ∧ (okB w h c = false → RX CB) ∧
  (okB w h c = true → R (.bl (rightB (mxV w b c) (myV h b c) rows)))
theorem ok_check_text (T : Tx K mg C_Table C_InvalidTable C_InvalidBall aW tk) (F : FnE K mg "check_text" s_check_text ["table", "one", "other", "text"]) (c_check_never : CalE P w K mg base (L2.CX P w) 4 "check_never" ["table", "one", "other", "rows"] (spD K (W_check_never C_Table C_InvalidBall))) (c_parse_never : CalE P w K mg base CX0 3 "parse_never" ["text"] (spD K W_parse_never)) : CalE P w K mg base (L2.CX P w) 5 "check_text" ["table", "one", "other", "text"] (spD K (W_check_text C_Table C_InvalidBall)) := by
  obtain ⟨f_check_never, fd_check_never, G_check_never, g_check_never, k_check_never, b_check_never⟩ := c_check_never
  obtain ⟨f_parse_never, fd_parse_never, G_parse_never, g_parse_never, k_parse_never, b_parse_never⟩ := c_parse_never
  obtain ⟨f, fd, F, g, bd⟩ := F
  refine ⟨f, fd, ?_, g, F.kp, bd⟩
  refine defX F sc_check_text (fun ds R RX h => ?_) (fun cdv A outer s H vs Q E L ds R RX hr h hE => ?_)
  · obtain ⟨w0, h0, ps, b, c, rows, rfl, q, hO, kx, k⟩ := h
    rfl
  obtain ⟨w0, h0, ps, b, c, rows, rfl, q, hO, kx, k⟩ := h
  refine ⟨_, (pss_one (ps_ret (pe_call G_check_never (hr.mono (by decide)) rfl g_check_never k_check_never b_check_never .nil (passX (E := E) (takes_of rfl rfl rfl rfl)) (pa_cons (pv 0) (pa_cons (pv 1) (pa_cons (pv 2) (pa_cons (pe_call G_parse_never (hr.mono (by decide)) rfl g_parse_never k_parse_never b_parse_never .nil pass0 (pa_cons (pv 3) pa_nil)) pa_nil))))))), ?_⟩
  try dsimp only [L2.cxOf, L2.Cx.nox, L2.Cx.wish]
  show XS K H L _ [some (.sh (tblD C_Table w0 h0 ps)), some (.sh (ballD b)), some (.sh (ballD c)), some (.sh (.str (paperText rows)))] _
  walk_at "x"
  refine ⟨rows, rfl, hO, ?_⟩
  walk_at "x"
  refine ⟨w0, h0, ps, b, c, rows, rfl, q, by have := hO.len; omega, kx, k⟩
/-! ### _law_row -/
abbrev s__law_row : Stmt := top 41
abbrev N__law_row : List Str := ["_law_cell", "_law_many", "_law_row_here", "_law_rest", "_law_mixed", "_law_k"]
theorem sc__law_row : FnScope N__law_row ["_law_cell", "_law_many"] (defScope s__law_row) := ⟨rfl, rfl, rfl, by decide +kernel, rfl, by decide +kernel, by decide +kernel⟩
def W__law_row : WP := fun ds R _ => ∃ (c m : Int), ds = [.int c, .int m] ∧ (0 ≤ m ∧ m ≤ 1000) ∧ ∀ ns : List Int, (ns.length : Int) = m → (∀ n ∈ ns, 0 ≤ n ∧ n < 1009) → R (.lst (ns.map D.int))
theorem ok__law_row (T : Tx K mg C_Table C_InvalidTable C_InvalidBall aW tk) (F : FnE K mg "_law_row" s__law_row ["_law_cell", "_law_many"])  : CalE P w K mg base CX0 1 "_law_row" ["_law_cell", "_law_many"] (spD K W__law_row) := by
  obtain ⟨f, fd, F, g, bd⟩ := F
  refine ⟨f, fd, ?_, g, F.kp, bd⟩
  refine def0 F sc__law_row (fun ds R RX h => ?_) (fun cdv A outer s H vs Q E L ds R RX hr h => ?_)
  · obtain ⟨c, m, rfl, hm, k⟩ := h
    rfl
  obtain ⟨c, m, rfl, hm, k⟩ := h
  refine ⟨_, (pss_cons (ps_set (i := 2) sc__law_row.nd rfl (by first | exact Or.inl rfl | exact Or.inr rfl) (pe_lst pa_nil))
      (pss_cons (ps_set (i := 3) sc__law_row.nd rfl (by first | exact Or.inl rfl | exact Or.inr rfl) (pe_callB cl_abs (by rfl) T.b_abs (by decide +kernel) (pa_cons (pv 0) pa_nil)))
      (pss_cons (ps_set (i := 4) sc__law_row.nd rfl (by first | exact Or.inl rfl | exact Or.inr rfl) (pe_op op_mod (pe_callTy cl_int (by rfl) T.b_int (by decide +kernel) (pa_cons (pe_op (ok' (K := K) rAddA op_addA rfl) (pe_op op_mulA (pv 3) pe_int) pe_int) pa_nil)) pe_int))
      (pss_cons (ps_for PassesOwn.never rfl (pi_range1 (by rfl) T.b_range (pa_cons (pv 1) pa_nil)) (pg_name (i := 5) sc__law_row.nd rfl (by first | exact Or.inl rfl | exact Or.inr rfl))
      (pss_cons (ps_set (i := 4) sc__law_row.nd rfl (by first | exact Or.inl rfl | exact Or.inr rfl) (pe_op op_mod (pe_callTy cl_int (by rfl) T.b_int (by decide +kernel) (pa_cons (pe_op (ok' (K := K) rAddA op_addA rfl) (pe_op op_mulA (pv 4) pe_int) (pe_op op_mulA pe_int (pe_op (ok' (K := K) rAddA op_addA rfl) (pv 5) pe_int))) pa_nil)) pe_int))
      (pss_one (ps_if (pt_cmpR op_ge (pe_callB cl_abs (by rfl) T.b_abs (by decide +kernel) (pa_cons (pv 0) pa_nil)) (pe_op op_pow pe_int pe_int) (nomark _)) (pss_cons (ps_expr (pe_bm PySem.F.plainAttrs_list PySem.F.slot_list_append PySem.F.type_list_append mt_append (pv 2) (pa_cons (pe_op op_mod (pe_callTy cl_int (by rfl) T.b_int (by decide +kernel) (pa_cons (pv 3) pa_nil)) pe_int) pa_nil)))
      (pss_one (ps_set (i := 3) sc__law_row.nd rfl (by first | exact Or.inl rfl | exact Or.inr rfl) (pe_op op_fdivW (pv 3) pe_int)))) (pss_one (ps_expr (pe_bm PySem.F.plainAttrs_list PySem.F.slot_list_append PySem.F.type_list_append mt_append (pv 2) (pa_cons (pe_op op_mod (pe_callTy cl_int (by rfl) T.b_int (by decide +kernel) (pa_cons (pe_op op_fdivW (pv 4) pe_int) pa_nil)) pe_int) pa_nil))))))))
      (pss_one (ps_ret (pv 2))))))), ?_⟩
  try dsimp only [L2.cxOf, L2.Cx.nox, L2.Cx.wish]
  show XS K H L _ [some (.sh (.int c)), some (.sh (.int m)), none, none, none, none] _
  walk_at "x"
  refine xs_for (js := [5]) ?_
  walk_at "x"
  refine ⟨fun i δ' => ∃ (ns : List Int) (rest mixed : Int) (x : Option SD), δ' = [some (.sh (.int c)), some (.sh (.int m)), some (.ow (ns.map D.int)), some (.sh (.int rest)), some (.sh (.int mixed)), x] ∧ ns.length = i ∧ ∀ n ∈ ns, 0 ≤ n ∧ n < 1009,
    ⟨[], _, _, none, rfl, rfl, by simp⟩, ?_, ?_⟩
  · rintro G eG i d δ' hd ⟨ns, rest, mixed, x, rfl, hl, hb⟩
    obtain ⟨hi, rfl⟩ := rngD_get hd
    have hi' : i < 1000 := by omega
    have step : ∀ z : Int, ∀ n ∈ ns ++ [z % 1009], 0 ≤ n ∧ n < 1009 := fun z n hn => by
      rcases List.mem_append.mp hn with h | h
      · exact hb n h
      · rw [List.mem_singleton.mp h]; omega
    walk_at "x"
    refine br_d (fun h1 => ?_) (fun h1 => ?_)
    · walk_at "x"
      exact ⟨ns ++ [rest % 1009], _, _, _, by rw [List.map_append]; rfl, by rw [List.length_append, hl]; rfl, step _⟩
    · walk_at "x"
      exact ⟨ns ++ [_ % 1009], _, _, _, by rw [List.map_append]; rfl, by rw [List.length_append, hl]; rfl, step _⟩
  · rintro δ' ⟨ns, rest, mixed, x, rfl, hl, hb⟩
    refine xs_fz (i := 2) rfl ?_
    walk_at "x"
    refine k ns ?_ hb
    rw [rngD_len] at hl
    omega
/-! ### _law_numbers -/
abbrev s__law_numbers : Stmt := top 42
abbrev N__law_numbers : List Str := ["_law_script", "_law_many", "_law_cells", "_law_each", "_law_numbers_here", "_law_cell", "_law_number"]
theorem sc__law_numbers : FnScope N__law_numbers ["_law_script", "_law_many"] (defScope s__law_numbers) := ⟨rfl, rfl, rfl, by decide +kernel, rfl, by decide +kernel, by decide +kernel⟩
def W__law_numbers : WP := fun ds R _ => ∃ (sc : List Int) (many : Int), ds = [.klst (sc.map D.int), .int many] ∧ sc.length ≤ 63 ∧ (1 ≤ many ∧ many ≤ 200) ∧ ∀ ns : List Int, (ns.length : Int) = many → (∀ n ∈ ns, 0 ≤ n ∧ n < 1009) → R (.lst (ns.map D.int))
theorem ok__law_numbers (T : Tx K mg C_Table C_InvalidTable C_InvalidBall aW tk) (F : FnE K mg "_law_numbers" s__law_numbers ["_law_script", "_law_many"]) (c__law_row : CalE P w K mg base CX0 1 "_law_row" ["_law_cell", "_law_many"] (spD K W__law_row)) : CalE P w K mg base CX0 2 "_law_numbers" ["_law_script", "_law_many"] (spD K W__law_numbers) := by
  obtain ⟨f__law_row, fd__law_row, G__law_row, g__law_row, k__law_row, b__law_row⟩ := c__law_row
  obtain ⟨f, fd, F, g, bd⟩ := F
  refine ⟨f, fd, ?_, g, F.kp, bd⟩
  refine def0 F sc__law_numbers (fun ds R RX h => ?_) (fun cdv A outer s H vs Q E L ds R RX hr h => ?_)
  · obtain ⟨sc, many, rfl, hl, ⟨hm1, hm2⟩, k⟩ := h
    rfl
  obtain ⟨sc, many, rfl, hl, ⟨hm1, hm2⟩, k⟩ := h
  refine ⟨_, (pss_cons (ps_set (i := 2) sc__law_numbers.nd rfl (by first | exact Or.inl rfl | exact Or.inr rfl) (pe_slice (sk (K := K) sl_any rfl) (pv 0) po_none (po_some pe_int)))
      (pss_cons (ps_set (i := 3) sc__law_numbers.nd rfl (by first | exact Or.inl rfl | exact Or.inr rfl) (pe_op (ok' (K := K) rAddA op_addA rfl) pe_int (pe_op op_fdivW (pv 1) (pe_callB (cl_max2 rfl) (by rfl) T.b_max (by decide +kernel) (pa_cons pe_int (pa_cons (pe_callB (ck (K := K) rLenA cl_len rfl) (by rfl) T.b_len (by decide +kernel) (pa_cons (pv 2) pa_nil)) pa_nil))))))
      (pss_cons (ps_set (i := 4) sc__law_numbers.nd rfl (by first | exact Or.inl rfl | exact Or.inr rfl) (pe_lst pa_nil))
      (pss_cons (ps_for PassesOwn.never rfl (pi_anyK (K := K) rfl (pv 2)) (pg_name (i := 5) sc__law_numbers.nd rfl (by first | exact Or.inl rfl | exact Or.inr rfl))
      (pss_one (ps_for PassesOwn.never rfl (pi_anyK (K := K) rfl (pe_call G__law_row (hr.mono (by decide)) rfl g__law_row k__law_row b__law_row .nil pass0 (pa_cons (pv 5) (pa_cons (pv 3) pa_nil)))) (pg_name (i := 6) sc__law_numbers.nd rfl (by first | exact Or.inl rfl | exact Or.inr rfl))
      (pss_one (ps_expr (pe_bm PySem.F.plainAttrs_list PySem.F.slot_list_append PySem.F.type_list_append mt_append (pv 4) (pa_cons (pv 6) pa_nil)))))))
      (pss_cons (ps_while PassesOwn.never (pt_cmpR op_lt (pe_callB (ck (K := K) rLenA cl_len rfl) (by rfl) T.b_len (by decide +kernel) (pa_cons (pv 4) pa_nil)) (pv 1) (nomark _)) (pss_one (ps_expr (pe_bm PySem.F.plainAttrs_list PySem.F.slot_list_append PySem.F.type_list_append mt_append (pv 4) (pa_cons pe_int pa_nil)))))
      (pss_one (ps_ret (pe_slice (sk (K := K) sl_any rfl) (pv 4) po_none (po_some (pv 1)))))))))), ?_⟩
  try dsimp only [L2.cxOf, L2.Cx.nox, L2.Cx.wish]
  show XS K H L _ [some (.sh (.klst (sc.map D.int))), some (.sh (.int many)), none, none, none, none, none] _
  walk_at "x"
  have e0 : cutD (sc.map D.int) none (some 63) = sc.map D.int := by
    have := cutD_none (sc.map D.int) 63
    rw [List.take_of_length_le (by rw [List.length_map]; exact hl)] at this
    exact this
  rw [e0]
  rw [List.length_map]
  generalize hd : (if (sc.length : Int) > 1 then (sc.length : Int) else 1) = dv
  have hdv : 1 ≤ dv ∧ dv ≤ 63 := by split at hd <;> omega
  have cd := divS (i := many) (j := dv) (by omega) (sz_of (by omega) (by omega))
  have each0 : 0 ≤ many / dv := Int.ediv_nonneg (by omega) (by omega)
  have each1 : many / dv ≤ many := Int.ediv_le_self _ (by omega)
  walk_at "x"
  refine xs_for (js := [5]) ?_
  walk_at "x"
  refine ⟨fun i δ' => ∃ (ns : List Int) (x y : Option SD), δ' = [some (.sh (.klst (sc.map D.int))), some (.sh (.int many)), some (.sh (.lst (sc.map D.int))), some (.sh (.int (1 + many / dv))), some (.ow (ns.map D.int)), x, y] ∧ (ns.length ≤ i * 1000) ∧ ∀ n ∈ ns, 0 ≤ n ∧ n < 1009,
    ⟨[], none, none, rfl, Nat.zero_le _, by simp⟩, ?_, ?_⟩
  · rintro G eG i d δ' hd ⟨ns, x, y, rfl, hln, hb⟩
    rw [List.getElem?_map] at hd
    cases hc : sc[i]? with
    | none => rw [hc] at hd; cases hd
    | some c =>
      rw [hc] at hd
      cases hd
      have hi : i < sc.length := (List.getElem?_eq_some_iff.mp hc).1
      walk_at "x"
      refine xs_for (js := [6]) ?_
      walk_at "x"
      refine ⟨c, _, rfl, ⟨by omega, by omega⟩, fun rs hr1 hr2 => ?_⟩
      walk_at "x"
      refine ⟨fun j δ' => ∃ (ms : List Int) (y : Option SD), δ' = [some (.sh (.klst (sc.map D.int))), some (.sh (.int many)), some (.sh (.lst (sc.map D.int))), some (.sh (.int (1 + many / dv))), some (.ow (ms.map D.int)), some (.sh (.int c)), y] ∧ (ms.length ≤ i * 1000 + j) ∧ ∀ n ∈ ms, 0 ≤ n ∧ n < 1009,
        ⟨ns, _, rfl, by omega, hb⟩, ?_, ?_⟩
      · rintro G2 eG2 j d δ' hd ⟨ms, y, rfl, hlm, hbm⟩
        rw [List.getElem?_map] at hd
        cases hr : rs[j]? with
        | none => rw [hr] at hd; cases hd
        | some r =>
          rw [hr] at hd
          cases hd
          have hj : j < rs.length := (List.getElem?_eq_some_iff.mp hr).1
          walk_at "x"
          refine ⟨ms ++ [r], _, by rw [List.map_append]; rfl, by rw [List.length_append, List.length_singleton]; omega, fun n hn => ?_⟩
          rcases List.mem_append.mp hn with h | h
          · exact hbm n h
          · rw [List.mem_singleton.mp h]; exact hr2 r (List.mem_of_getElem? hr)
      · rintro δ' ⟨ms, y, rfl, hlm, hbm⟩
        rw [List.length_map] at hlm
        exact ⟨ms, _, _, rfl, by omega, hbm⟩
  · rintro δ' ⟨ns, x, y, rfl, hln, hb⟩
    rw [List.length_map] at hln
    refine xs_seq ?_
    refine xs_while (fun δ' => ∃ (ns : List Int), δ' = [some (.sh (.klst (sc.map D.int))), some (.sh (.int many)), some (.sh (.lst (sc.map D.int))), some (.sh (.int (1 + many / dv))), some (.ow (ns.map D.int)), x, y] ∧ (ns.length ≤ 64000) ∧ ∀ n ∈ ns, 0 ≤ n ∧ n < 1009)
      (fun δ' => match δ' with | [_, _, _, _, some (.ow ds), _, _] => many.toNat - ds.length | _ => 0) ⟨ns, rfl, by omega, hb⟩ ?_
    rintro G eG δ' ⟨ns, rfl, hln, hb⟩
    refine yt_test ?_
    refine xe_op ?_
    refine xe_fz (i := 4) rfl ?_
    walk_at "x"
    refine ⟨rfl, ?_⟩
    rw [List.length_map]
    walk_at "x"
    refine ⟨fun h => ?_, fun h => ?_⟩
    · have h1 : (ns.length : Int) < many := by simpa using h
      walk_at "x"
      refine ⟨⟨ns ++ [0], by rw [List.map_append]; rfl, by rw [List.length_append, List.length_singleton]; omega, fun n hn => ?_⟩, ?_⟩
      · rcases List.mem_append.mp hn with h | h
        · exact hb n h
        · rw [List.mem_singleton.mp h]; omega
      · show many.toNat - (ns.map D.int ++ [D.int 0]).length < many.toNat - (ns.map D.int).length
        rw [List.length_append, List.length_map, List.length_singleton]
        omega
    · have h1 : ¬ (ns.length : Int) < many := by simpa using h
      refine xs_fz (i := 4) rfl ?_
      walk_at "x"
      have e1 : cutD (ns.map D.int) none (some many) = (ns.take many.toNat).map D.int := by
        have := cutD_none (ns.map D.int) many.toNat
        rw [List.map_take]
        have e2 : ((many.toNat : Nat) : Int) = many := by omega
        rw [e2] at this
        exact this
      rw [e1]
      exact k _ (by rw [List.length_take]; omega) fun n hn => hb n (List.mem_of_mem_take hn)
/-! ### _law_table -/
abbrev s__law_table : Stmt := top 43
abbrev N__law_table : List Str := ["_law_numbers_here", "_law_at", "_law_width", "_law_height", "_law_pockets", "_law_k", "_law_pocket"]
theorem sc__law_table : FnScope N__law_table ["_law_numbers_here", "_law_at"] (defScope s__law_table) := ⟨rfl, rfl, rfl, by decide +kernel, rfl, by decide +kernel, by decide +kernel⟩
theorem ns_at {ns : List Int} {a : Int} (h1 : 0 ≤ a) (h2 : a < ns.length) : ∃ n ∈ ns, atD (ns.map D.int) a = some (.int n) := by
  have hl : a.toNat < ns.length := by omega
  refine ⟨ns[a.toNat], List.getElem_mem hl, ?_⟩
  have := atD_nat (ds := ns.map D.int) (j := a.toNat) (d := .int ns[a.toNat]) (by rw [List.getElem?_map, List.getElem?_eq_getElem hl]; rfl)
  have e : ((a.toNat : Nat) : Int) = a := by omega
  rwa [e] at this
def W__law_table : WP := fun ds R _ => ∃ (ns : List Int) (at0 : Int), ds = [.lst (ns.map D.int), .int at0] ∧ (0 ≤ at0 ∧ at0 + 6 < ns.length) ∧ (∀ n ∈ ns, 0 ≤ n ∧ n < 1009) ∧ ∀ (w h : Int) (ps : List (Int × Int)), w ≤ 6 → h ≤ 6 → ps.length ≤ 3 → OkT w h ps → R (.tup [.int w, .int h, .tup (ps.map pairD)])
theorem ok__law_table (T : Tx K mg C_Table C_InvalidTable C_InvalidBall aW tk) (F : FnE K mg "_law_table" s__law_table ["_law_numbers_here", "_law_at"])  : CalE P w K mg base CX0 1 "_law_table" ["_law_numbers_here", "_law_at"] (spD K W__law_table) := by
  obtain ⟨f, fd, F, g, bd⟩ := F
  refine ⟨f, fd, ?_, g, F.kp, bd⟩
  refine def0 F sc__law_table (fun ds R RX h => ?_) (fun cdv A outer s H vs Q E L ds R RX hr h => ?_)
  · obtain ⟨ns, at0, rfl, ⟨ha1, ha2⟩, hb, k⟩ := h
    rfl
  obtain ⟨ns, at0, rfl, ⟨ha1, ha2⟩, hb, k⟩ := h
  refine ⟨_, (pss_cons (ps_set (i := 2) sc__law_table.nd rfl (by first | exact Or.inl rfl | exact Or.inr rfl) (pe_op (ok' (K := K) rAddA op_addA rfl) pe_int (pe_op op_mod (pe_callTy cl_int (by rfl) T.b_int (by decide +kernel) (pa_cons (pe_ix (ik (K := K) rIx ix_seq rfl) (pv 0) (pv 1) (fun _ _ => rfl)) pa_nil)) pe_int)))
      (pss_cons (ps_set (i := 3) sc__law_table.nd rfl (by first | exact Or.inl rfl | exact Or.inr rfl) (pe_op (ok' (K := K) rAddA op_addA rfl) pe_int (pe_op op_mod (pe_callTy cl_int (by rfl) T.b_int (by decide +kernel) (pa_cons (pe_ix (ik (K := K) rIx ix_seq rfl) (pv 0) (pe_op (ok' (K := K) rAddA op_addA rfl) (pv 1) pe_int) (fun _ _ => rfl)) pa_nil)) pe_int)))
      (pss_cons (ps_set (i := 4) sc__law_table.nd rfl (by first | exact Or.inl rfl | exact Or.inr rfl) (pe_lst pa_nil))
      (pss_cons (ps_for PassesOwn.never rfl (pi_range1 (by rfl) T.b_range (pa_cons (pe_op op_mod (pe_callTy cl_int (by rfl) T.b_int (by decide +kernel) (pa_cons (pe_ix (ik (K := K) rIx ix_seq rfl) (pv 0) (pe_op (ok' (K := K) rAddA op_addA rfl) (pv 1) pe_int) (fun _ _ => rfl)) pa_nil)) pe_int) pa_nil)) (pg_name (i := 5) sc__law_table.nd rfl (by first | exact Or.inl rfl | exact Or.inr rfl))
      (pss_cons (ps_set (i := 6) sc__law_table.nd rfl (by first | exact Or.inl rfl | exact Or.inr rfl) (pe_tup (pa_cons (pe_op op_mod (pe_callTy cl_int (by rfl) T.b_int (by decide +kernel) (pa_cons (pe_ix (ik (K := K) rIx ix_seq rfl) (pv 0) (pe_op (ok' (K := K) rAddA op_addA rfl) (pe_op (ok' (K := K) rAddA op_addA rfl) (pv 1) pe_int) (pv 5)) (fun _ _ => rfl)) pa_nil)) (pe_op (ok' (K := K) rAddA op_addA rfl) (pv 2) pe_int)) (pa_cons (pe_op op_mod (pe_op op_fdivW (pe_callTy cl_int (by rfl) T.b_int (by decide +kernel) (pa_cons (pe_ix (ik (K := K) rIx ix_seq rfl) (pv 0) (pe_op (ok' (K := K) rAddA op_addA rfl) (pe_op (ok' (K := K) rAddA op_addA rfl) (pv 1) pe_int) (pv 5)) (fun _ _ => rfl)) pa_nil)) pe_int) (pe_op (ok' (K := K) rAddA op_addA rfl) (pv 3) pe_int)) pa_nil))))
      (pss_one (ps_if (pt_cmpR (ok' (K := K) rNotInA (op_notInA (hu65 hr)) rfl) (pv 6) (pv 4) rfl) (pss_one (ps_expr (pe_bm PySem.F.plainAttrs_list PySem.F.slot_list_append PySem.F.type_list_append mt_append (pv 4) (pa_cons (pv 6) pa_nil)))) pss_nil))))
      (pss_one (ps_ret (pe_tup (pa_cons (pv 2) (pa_cons (pv 3) (pa_cons (pe_callTy (ck (K := K) rTupA cl_tup rfl) (by rfl) T.b_tuple (by decide +kernel) (pa_cons (pv 4) pa_nil)) pa_nil)))))))))), ?_⟩
  try dsimp only [L2.cxOf, L2.Cx.nox, L2.Cx.wish]
  show XS K H L _ [some (.sh (.lst (ns.map D.int))), some (.sh (.int at0)), none, none, none, none, none] _
  obtain ⟨n0, hn0, en0⟩ := ns_at (ns := ns) (a := at0) (by omega) (by omega)
  obtain ⟨n1, hn1, en1⟩ := ns_at (ns := ns) (a := at0 + 1) (by omega) (by omega)
  obtain ⟨n2, hn2, en2⟩ := ns_at (ns := ns) (a := at0 + 2) (by omega) (by omega)
  have b0 := hb _ hn0
  have b1 := hb _ hn1
  have b2 := hb _ hn2
  walk_at "x"
  refine xr_ixL en0 ?_
  walk_at "x"
  refine xr_ixL en1 ?_
  walk_at "x"
  have hw : 1 ≤ 1 + n0 % 6 ∧ 1 + n0 % 6 ≤ 6 := by omega
  have hh : 1 ≤ 1 + n1 % 6 ∧ 1 + n1 % 6 ≤ 6 := by omega
  generalize 1 + n0 % 6 = w0 at hw ⊢
  generalize 1 + n1 % 6 = h0 at hh ⊢
  refine xs_for (js := [5]) ?_
  walk_at "x"
  refine xr_ixL en2 ?_
  walk_at "x"
  refine ⟨fun i δ' => ∃ (ps : List (Int × Int)) (x y : Option SD), δ' = [some (.sh (.lst (ns.map D.int))), some (.sh (.int at0)), some (.sh (.int w0)), some (.sh (.int h0)), some (.ow (ps.map pairD)), x, y] ∧ ps.length ≤ i ∧ ps.Nodup ∧ ∀ p ∈ ps, isPt w0 h0 p.1 p.2 = true,
    ⟨[], none, none, rfl, Nat.le_refl _, List.nodup_nil, by simp⟩, ?_, ?_⟩
  · rintro G eG i d δ' hd ⟨ps, x, y, rfl, hl, hnd, hpt⟩
    obtain ⟨hi, rfl⟩ := rngD_get hd
    obtain ⟨n3, hn3, en3⟩ := ns_at (ns := ns) (a := at0 + 3 + (0 + (i : Nat))) (by omega) (by omega)
    have b3 := hb _ hn3
    have q1 : 0 ≤ n3 % (w0 + 1) ∧ n3 % (w0 + 1) ≤ w0 := ⟨Int.emod_nonneg _ (by omega), by have := Int.emod_lt_of_pos n3 (show 0 < w0 + 1 by omega); omega⟩
    have q2 : 0 ≤ n3 / 7 % (h0 + 1) ∧ n3 / 7 % (h0 + 1) ≤ h0 := ⟨Int.emod_nonneg _ (by omega), by have := Int.emod_lt_of_pos (n3 / 7) (show 0 < h0 + 1 by omega); omega⟩
    obtain ⟨px, hpx⟩ : ∃ px, px = n3 % (w0 + 1) := ⟨_, rfl⟩
    obtain ⟨py, hpy⟩ : ∃ py, py = n3 / 7 % (h0 + 1) := ⟨_, rfl⟩
    refine xg_name ?_
    refine xs_cut (fun δ' => δ' = [some (.sh (.lst (ns.map D.int))), some (.sh (.int at0)), some (.sh (.int w0)), some (.sh (.int h0)), some (.ow (ps.map pairD)), some (.sh (.int (0 + (i : Nat)))), some (.sh (pairD (px, py)))]) ?_ ?_
    · walk_at "x"
      refine xr_ixL en3 ?_
      walk_at "x"
      refine xr_ixL en3 ?_
      walk_at "x"
      rw [hpx, hpy]
      rfl
    rintro δ' rfl
    rw [← hpx] at q1
    rw [← hpy] at q2
    refine ys_if ?_
    refine yt_test ?_
    refine xe_opFz (i := 4) rfl ?_
    walk_at "x"
    refine br_d (fun hm => ?_) (fun hm => ?_)
    · walk_at "x"
      exact ⟨ps, _, _, rfl, by omega, hnd, hpt⟩
    · walk_at "x"
      refine ⟨ps ++ [(px, py)], _, _, by rw [List.map_append]; rfl, by rw [List.length_append, List.length_singleton]; omega, ?_, fun p hp => ?_⟩
      · rw [List.nodup_append]
        refine ⟨hnd, by simp, fun a ha b hb z => hm ?_⟩
        rw [List.mem_singleton.mp hb] at z
        exact z ▸ ha
      · rcases List.mem_append.mp hp with z | z
        · exact hpt p z
        · rw [List.mem_singleton.mp z]
          exact isPt_mk q1 q2
  · rintro δ' ⟨ps, x, y, rfl, hl, hnd, hpt⟩
    rw [rngD_len] at hl
    refine xs_fz (i := 4) rfl ?_
    walk_at "x"
    exact k w0 h0 ps hw.2 hh.2 (by omega) ⟨hw.1, by omega, hh.1, by omega, by omega, hnd, hpt⟩
/-! ### _law_ball -/
abbrev s__law_ball : Stmt := top 44
abbrev N__law_ball : List Str := ["_law_numbers_here", "_law_at", "_law_name", "_law_width", "_law_height", "_law_way", "_law_x", "_law_y"]
theorem sc__law_ball : FnScope N__law_ball ["_law_numbers_here", "_law_at", "_law_name", "_law_width", "_law_height"] (defScope s__law_ball) := ⟨rfl, rfl, rfl, by decide +kernel, rfl, by decide +kernel, by decide +kernel⟩
def W__law_ball : WP := fun ds R _ => ∃ (ns : List Int) (at0 : Int) (nm : Str) (w h : Int), ds = [.lst (ns.map D.int), .int at0, .str nm, .int w, .int h] ∧ (0 ≤ at0 ∧ at0 + 4 < ns.length) ∧ (∀ n ∈ ns, 0 ≤ n ∧ n < 1009) ∧ 1 ≤ w ∧ 1 ≤ h ∧
  ∀ b : BallV, b.n = nm → okB w h b = true → b.m ≤ 4 → R (ballD b)
theorem ok__law_ball (T : Tx K mg C_Table C_InvalidTable C_InvalidBall aW tk) (F : FnE K mg "_law_ball" s__law_ball ["_law_numbers_here", "_law_at", "_law_name", "_law_width", "_law_height"])  : CalE P w K mg base CX0 1 "_law_ball" ["_law_numbers_here", "_law_at", "_law_name", "_law_width", "_law_height"] (spD K W__law_ball) := by
  obtain ⟨f, fd, F, g, bd⟩ := F
  refine ⟨f, fd, ?_, g, F.kp, bd⟩
  refine def0 F sc__law_ball (fun ds R RX h => ?_) (fun cdv A outer s H vs Q E L ds R RX hr h => ?_)
  · obtain ⟨ns, at0, nm, w0, h0, rfl, ⟨ha1, ha2⟩, hb, hw, hh, k⟩ := h
    rfl
  obtain ⟨ns, at0, nm, w0, h0, rfl, ⟨ha1, ha2⟩, hb, hw, hh, k⟩ := h
  refine ⟨_, (pss_cons (ps_set (i := 5) sc__law_ball.nd rfl (by first | exact Or.inl rfl | exact Or.inr rfl) (pe_ix (ik (K := K) rIx ix_seq rfl) (pe_tup (pa_cons (pe_tup (pa_cons pe_int (pa_cons pe_int pa_nil))) (pa_cons (pe_tup (pa_cons pe_int (pa_cons (pe_un un_neg pe_int) pa_nil))) (pa_cons (pe_tup (pa_cons (pe_un un_neg pe_int) (pa_cons pe_int pa_nil))) (pa_cons (pe_tup (pa_cons (pe_un un_neg pe_int) (pa_cons (pe_un un_neg pe_int) pa_nil))) (pa_cons (pe_tup (pa_cons pe_int (pa_cons pe_int pa_nil))) (pa_cons (pe_tup (pa_cons (pe_un un_neg pe_int) (pa_cons pe_int pa_nil))) (pa_cons (pe_tup (pa_cons pe_int (pa_cons pe_int pa_nil))) (pa_cons (pe_tup (pa_cons pe_int (pa_cons (pe_un un_neg pe_int) pa_nil))) (pa_cons (pe_tup (pa_cons pe_int (pa_cons pe_int pa_nil))) (pa_cons (pe_tup (pa_cons (pe_un un_neg pe_int) (pa_cons pe_int pa_nil))) pa_nil))))))))))) (pe_op op_mod (pe_callTy cl_int (by rfl) T.b_int (by decide +kernel) (pa_cons (pe_ix (ik (K := K) rIx ix_seq rfl) (pv 0) (pv 1) (fun _ _ => rfl)) pa_nil)) pe_int) (fun _ _ => rfl)))
      (pss_cons (ps_set (i := 6) sc__law_ball.nd rfl (by first | exact Or.inl rfl | exact Or.inr rfl) (pe_op op_mod (pe_callTy cl_int (by rfl) T.b_int (by decide +kernel) (pa_cons (pe_ix (ik (K := K) rIx ix_seq rfl) (pv 0) (pe_op (ok' (K := K) rAddA op_addA rfl) (pv 1) pe_int) (fun _ _ => rfl)) pa_nil)) (pe_op (ok' (K := K) rAddA op_addA rfl) (pv 3) pe_int)))
      (pss_cons (ps_set (i := 7) sc__law_ball.nd rfl (by first | exact Or.inl rfl | exact Or.inr rfl) (pe_op op_mod (pe_callTy cl_int (by rfl) T.b_int (by decide +kernel) (pa_cons (pe_ix (ik (K := K) rIx ix_seq rfl) (pv 0) (pe_op (ok' (K := K) rAddA op_addA rfl) (pv 1) pe_int) (fun _ _ => rfl)) pa_nil)) (pe_op (ok' (K := K) rAddA op_addA rfl) (pv 4) pe_int)))
      (pss_one (ps_ret (pe_tup (pa_cons (pv 2) (pa_cons (pv 6) (pa_cons (pv 7) (pa_cons (pe_ix (ik (K := K) rIx ix_seq rfl) (pv 5) pe_int (fun _ _ => rfl)) (pa_cons (pe_ix (ik (K := K) rIx ix_seq rfl) (pv 5) pe_int (fun _ _ => rfl)) (pa_cons (pe_op op_mulA (pe_op op_mod (pe_callTy cl_int (by rfl) T.b_int (by decide +kernel) (pa_cons (pe_ix (ik (K := K) rIx ix_seq rfl) (pv 0) (pe_op (ok' (K := K) rAddA op_addA rfl) (pv 1) pe_int) (fun _ _ => rfl)) pa_nil)) pe_int) (pe_op op_mod (pe_callTy cl_int (by rfl) T.b_int (by decide +kernel) (pa_cons (pe_ix (ik (K := K) rIx ix_seq rfl) (pv 0) (pe_op (ok' (K := K) rAddA op_addA rfl) (pv 1) pe_int) (fun _ _ => rfl)) pa_nil)) pe_int)) pa_nil)))))))))))), ?_⟩
  try dsimp only [L2.cxOf, L2.Cx.nox, L2.Cx.wish]
  show XS K H L _ [some (.sh (.lst (ns.map D.int))), some (.sh (.int at0)), some (.sh (.str nm)), some (.sh (.int w0)), some (.sh (.int h0)), none, none, none] _
  have way : ∀ (z : Int), 0 ≤ z → z < 10 → ∃ dx dy : Int, (dx = -1 ∨ dx = 0 ∨ dx = 1) ∧ (dy = -1 ∨ dy = 0 ∨ dy = 1) ∧ ¬ (dx = 0 ∧ dy = 0) ∧ atD [.tup [.int 1, .int 1], .tup [.int 1, .int (-1)], .tup [.int (-1), .int 1], .tup [.int (-1), .int (-1)], .tup [.int 1, .int 0], .tup [.int (-1), .int 0], .tup [.int 0, .int 1], .tup [.int 0, .int (-1)], .tup [.int 1, .int 1], .tup [.int (-1), .int 1]] z = some (.tup [.int dx, .int dy]) := fun z h1 h2 => by
    have : z = 0 ∨ z = 1 ∨ z = 2 ∨ z = 3 ∨ z = 4 ∨ z = 5 ∨ z = 6 ∨ z = 7 ∨ z = 8 ∨ z = 9 := by omega
    rcases this with rfl | rfl | rfl | rfl | rfl | rfl | rfl | rfl | rfl | rfl
    · exact ⟨1, 1, by decide, by decide, by decide, rfl⟩
    · exact ⟨1, -1, by decide, by decide, by decide, rfl⟩
    · exact ⟨-1, 1, by decide, by decide, by decide, rfl⟩
    · exact ⟨-1, -1, by decide, by decide, by decide, rfl⟩
    · exact ⟨1, 0, by decide, by decide, by decide, rfl⟩
    · exact ⟨-1, 0, by decide, by decide, by decide, rfl⟩
    · exact ⟨0, 1, by decide, by decide, by decide, rfl⟩
    · exact ⟨0, -1, by decide, by decide, by decide, rfl⟩
    · exact ⟨1, 1, by decide, by decide, by decide, rfl⟩
    · exact ⟨-1, 1, by decide, by decide, by decide, rfl⟩
  obtain ⟨n0, hn0, en0⟩ := ns_at (ns := ns) (a := at0) (by omega) (by omega)
  obtain ⟨n1, hn1, en1⟩ := ns_at (ns := ns) (a := at0 + 1) (by omega) (by omega)
  obtain ⟨n2, hn2, en2⟩ := ns_at (ns := ns) (a := at0 + 2) (by omega) (by omega)
  obtain ⟨n3, hn3, en3⟩ := ns_at (ns := ns) (a := at0 + 3) (by omega) (by omega)
  obtain ⟨n4, hn4, en4⟩ := ns_at (ns := ns) (a := at0 + 4) (by omega) (by omega)
  have b0 := hb _ hn0
  have b3 := hb _ hn3
  have b4 := hb _ hn4
  obtain ⟨dx, dy, a, b, c, ez⟩ := way (n0 % 10) (by omega) (by omega)
  have q1 : 0 ≤ n1 % (w0 + 1) ∧ n1 % (w0 + 1) ≤ w0 := ⟨Int.emod_nonneg _ (by omega), by have := Int.emod_lt_of_pos n1 (show 0 < w0 + 1 by omega); omega⟩
  have q2 : 0 ≤ n2 % (h0 + 1) ∧ n2 % (h0 + 1) ≤ h0 := ⟨Int.emod_nonneg _ (by omega), by have := Int.emod_lt_of_pos n2 (show 0 < h0 + 1 by omega); omega⟩
  have q3 : 0 ≤ n3 % 5 ∧ n3 % 5 ≤ 4 := by omega
  have q4 : 0 ≤ n4 % 2 ∧ n4 % 2 ≤ 1 := by omega
  have cm := mulS (i := n3 % 5) (j := n4 % 2) (sz_of (by omega) (by omega)) (sz_of (by omega) (by omega))
  walk_at "x"
  refine xr_ixL en0 ?_
  walk_at "x"
  refine xr_ixT ez ?_
  walk_at "x"
  refine xr_ixL en1 ?_
  walk_at "x"
  refine xr_ixL en2 ?_
  walk_at "x"
  refine xr_ixL en3 ?_
  walk_at "x"
  refine xr_ixL en4 ?_
  walk_at "x"
  have q5 : 0 ≤ n3 % 5 * (n4 % 2) ∧ n3 % 5 * (n4 % 2) ≤ 4 := by
    have : n4 % 2 = 0 ∨ n4 % 2 = 1 := by omega
    rcases this with z | z <;> rw [z] <;> omega
  exact k ⟨nm, _, _, dx, dy, _⟩ rfl (okB_mk q1 q2 ⟨q5.1, by show n3 % 5 * (n4 % 2) ≤ 1000000000000000000000000000000; omega⟩ a b c) q5.2
/-! ### _law_walk -/
abbrev s__law_walk : Stmt := top 45
abbrev N__law_walk : List Str := ["_law_width", "_law_height", "_law_ball_here", "_law_many", "_law_name", "_law_x", "_law_y", "_law_dx", "_law_dy", "_law_minute", "_law_rows_here", "_law_turn"]
theorem sc__law_walk : FnScope N__law_walk ["_law_width", "_law_height", "_law_ball_here", "_law_many"] (defScope s__law_walk) := ⟨rfl, rfl, rfl, by decide +kernel, rfl, by decide +kernel, by decide +kernel⟩
/-- a ball on a table, the minute aside -/
structure OkW (w h : Int) (b : BallV) : Prop where
  w1 : 1 ≤ w
  h1 : 1 ≤ h
  x : 0 ≤ b.x ∧ b.x ≤ w
  y : 0 ≤ b.y ∧ b.y ≤ h
  dx : b.dx = -1 ∨ b.dx = 0 ∨ b.dx = 1
  dy : b.dy = -1 ∨ b.dy = 0 ∨ b.dy = 1
theorem OkW.of {w h : Int} {b : BallV} (hw : 1 ≤ w) (hh : 1 ≤ h) (k : okB w h b = true) : OkW w h b :=
  let o := okB_of k
  let p := isPt_of o.1
  ⟨hw, hh, p.1, p.2, o.2.2.1, o.2.2.2.1⟩
abbrev rowD (q : Int × Int × Int × Int) : D := .tup [.int q.1, .int q.2.1, .int q.2.2.1, .int q.2.2.2]
def rowAt (w h : Int) (b : BallV) (k : Int) : Int × Int × Int × Int := (partZ w b.x b.dx k, partZ h b.y b.dy k, stepZ w b.x b.dx k, stepZ h b.y b.dy k)
def rowsD (w h : Int) (b : BallV) (n : Nat) : List D := (List.range n).map fun i => rowD (rowAt w h b ((i : Nat) : Int))
theorem rowsD_len (w h : Int) (b : BallV) (n : Nat) : (rowsD w h b n).length = n := by unfold rowsD; rw [List.length_map, List.length_range]
theorem rowsD_succ (w h : Int) (b : BallV) (n : Nat) : rowsD w h b (n + 1) = rowsD w h b n ++ [rowD (rowAt w h b (n : Int))] := by
  unfold rowsD
  rw [List.range_succ, List.map_append]
  rfl
theorem rowsD_at {w h : Int} {b : BallV} {n i : Nat} (hi : i < n) : (rowsD w h b n)[i]? = some (rowD (rowAt w h b (i : Int))) := by
  unfold rowsD
  rw [List.getElem?_map, List.getElem?_range hi]
  rfl
theorem rowsD_atD {w h : Int} {b : BallV} {n : Nat} {z : Int} (h0 : 0 ≤ z) (hz : z < n) : atD (rowsD w h b n) z = some (rowD (rowAt w h b z)) := by
  have := atD_nat (rowsD_at (w := w) (h := h) (b := b) (n := n) (i := z.toNat) (by omega))
  have e : ((z.toNat : Nat) : Int) = z := by omega
  rwa [e] at this
def W__law_walk : WP := fun ds R _ => ∃ (w h : Int) (b : BallV) (n : Int), ds = [.int w, .int h, ballD b, .int n] ∧ OkW w h b ∧ (0 ≤ n ∧ n ≤ 5000) ∧ R (.lst (rowsD w h b (n + 1).toNat))
theorem ok__law_walk (T : Tx K mg C_Table C_InvalidTable C_InvalidBall aW tk) (F : FnE K mg "_law_walk" s__law_walk ["_law_width", "_law_height", "_law_ball_here", "_law_many"])  : CalE P w K mg base CX0 1 "_law_walk" ["_law_width", "_law_height", "_law_ball_here", "_law_many"] (spD K W__law_walk) := by
  obtain ⟨f, fd, F, g, bd⟩ := F
  refine ⟨f, fd, ?_, g, F.kp, bd⟩
  refine def0 F sc__law_walk (fun ds R RX h => ?_) (fun cdv A outer s H vs Q E L ds R RX hr h => ?_)
  · obtain ⟨w0, h0, b, n0, rfl, q, ⟨hn0, hn1⟩, k⟩ := h
    rfl
  obtain ⟨w0, h0, b, n0, rfl, q, ⟨hn0, hn1⟩, k⟩ := h
  refine ⟨_, (pss_cons (ps_asg (pv 2) (pg_tupK (K := K) (n := 6) rfl rfl (pgs_cons (pg_name (i := 4) sc__law_walk.nd rfl (by first | exact Or.inl rfl | exact Or.inr rfl)) (pgs_cons (pg_name (i := 5) sc__law_walk.nd rfl (by first | exact Or.inl rfl | exact Or.inr rfl)) (pgs_cons (pg_name (i := 6) sc__law_walk.nd rfl (by first | exact Or.inl rfl | exact Or.inr rfl)) (pgs_cons (pg_name (i := 7) sc__law_walk.nd rfl (by first | exact Or.inl rfl | exact Or.inr rfl)) (pgs_cons (pg_name (i := 8) sc__law_walk.nd rfl (by first | exact Or.inl rfl | exact Or.inr rfl)) (pgs_cons (pg_name (i := 9) sc__law_walk.nd rfl (by first | exact Or.inl rfl | exact Or.inr rfl)) pgs_nil))))))))
      (pss_cons (ps_set (i := 10) sc__law_walk.nd rfl (by first | exact Or.inl rfl | exact Or.inr rfl) (pe_lst pa_nil))
      (pss_cons (ps_for PassesOwn.never rfl (pi_range1 (by rfl) T.b_range (pa_cons (pe_op (ok' (K := K) rAddA op_addA rfl) (pv 3) pe_int) pa_nil)) (pg_name (i := 11) sc__law_walk.nd rfl (by first | exact Or.inl rfl | exact Or.inr rfl))
      (pss_cons (ps_if (PW.pt (pw_or (pt_cmpR op_lt (pe_op (ok' (K := K) rAddA op_addA rfl) (pv 5) (pv 7)) pe_int (nomark _)) (pw_or1 (pt_cmpR op_gt (pe_op (ok' (K := K) rAddA op_addA rfl) (pv 5) (pv 7)) (pv 0) (nomark _))))) (pss_one (ps_set (i := 7) sc__law_walk.nd rfl (by first | exact Or.inl rfl | exact Or.inr rfl) (pe_un un_neg (pv 7)))) pss_nil)
      (pss_cons (ps_if (PW.pt (pw_or (pt_cmpR op_lt (pe_op (ok' (K := K) rAddA op_addA rfl) (pv 6) (pv 8)) pe_int (nomark _)) (pw_or1 (pt_cmpR op_gt (pe_op (ok' (K := K) rAddA op_addA rfl) (pv 6) (pv 8)) (pv 1) (nomark _))))) (pss_one (ps_set (i := 8) sc__law_walk.nd rfl (by first | exact Or.inl rfl | exact Or.inr rfl) (pe_un un_neg (pv 8)))) pss_nil)
      (pss_cons (ps_expr (pe_bm PySem.F.plainAttrs_list PySem.F.slot_list_append PySem.F.type_list_append mt_append (pv 10) (pa_cons (pe_tup (pa_cons (pv 5) (pa_cons (pv 6) (pa_cons (pv 7) (pa_cons (pv 8) pa_nil))))) pa_nil)))
      (pss_cons (ps_set (i := 5) sc__law_walk.nd rfl (by first | exact Or.inl rfl | exact Or.inr rfl) (pe_op (ok' (K := K) rAddA op_addA rfl) (pv 5) (pv 7)))
      (pss_one (ps_set (i := 6) sc__law_walk.nd rfl (by first | exact Or.inl rfl | exact Or.inr rfl) (pe_op (ok' (K := K) rAddA op_addA rfl) (pv 6) (pv 8)))))))))
      (pss_one (ps_ret (pv 10)))))), ?_⟩
  try dsimp only [L2.cxOf, L2.Cx.nox, L2.Cx.wish]
  show XS K H L _ [some (.sh (.int w0)), some (.sh (.int h0)), some (.sh (ballD b)), some (.sh (.int n0)), none, none, none, none, none, none, none, none] _
  have w1 := q.w1
  have h1 := q.h1
  walk_at "x"
  refine xs_for (js := [11]) ?_
  walk_at "x"
  refine ⟨fun i δ' => ∃ (x y dx dy : Int) (u : Option SD), δ' = [some (.sh (.int w0)), some (.sh (.int h0)), some (.sh (ballD b)), some (.sh (.int n0)), some (.sh (.str b.n)), some (.sh (.int x)), some (.sh (.int y)), some (.sh (.int dx)), some (.sh (.int dy)), some (.sh (.int b.m)), some (.ow (rowsD w0 h0 b i)), u] ∧
      x = partZ w0 b.x b.dx (i : Int) ∧ y = partZ h0 b.y b.dy (i : Int) ∧ flipZ w0 x dx = stepZ w0 b.x b.dx (i : Int) ∧ flipZ h0 y dy = stepZ h0 b.y b.dy (i : Int),
    ⟨b.x, b.y, b.dx, b.dy, none, rfl, (partZ_start (by omega) q.x.1 q.x.2 q.dx).symm, (partZ_start (by omega) q.y.1 q.y.2 q.dy).symm, flip_start (by omega) q.x.1 q.x.2 q.dx, flip_start (by omega) q.y.1 q.y.2 q.dy⟩, ?_, ?_⟩
  · rintro G eG i d δ' hd ⟨x, y, dx, dy, u, rfl, ex, ey, fx, fy⟩
    obtain ⟨hi, rfl⟩ := rngD_get hd
    have nx := walk_next (s := w0) (x := b.x) (d := b.dx) (k := (i : Int)) (by omega) q.x.1 q.x.2 q.dx
    have ny := walk_next (s := h0) (x := b.y) (d := b.dy) (k := (i : Int)) (by omega) q.y.1 q.y.2 q.dy
    have erow : rowD (rowAt w0 h0 b (i : Int)) = .tup [.int x, .int y, .int (flipZ w0 x dx), .int (flipZ h0 y dy)] := by rw [fx, fy, ex, ey]; rfl
    rw [← ex, ← fx] at nx
    rw [← ey, ← fy] at ny
    obtain ⟨s1, hs1⟩ : ∃ s1, s1 = flipZ w0 x dx := ⟨_, rfl⟩
    obtain ⟨s2, hs2⟩ : ∃ s2, s2 = flipZ h0 y dy := ⟨_, rfl⟩
    rw [← hs1, ← hs2] at erow
    rw [← hs1] at nx
    rw [← hs2] at ny
    have ln : (rowsD w0 h0 b i).length < 100000 := by rw [rowsD_len]; omega
    refine xg_name ?_
    refine xs_cut (fun δ' => δ' = [some (.sh (.int w0)), some (.sh (.int h0)), some (.sh (ballD b)), some (.sh (.int n0)), some (.sh (.str b.n)), some (.sh (.int x)), some (.sh (.int y)), some (.sh (.int s1)), some (.sh (.int dy)), some (.sh (.int b.m)), some (.ow (rowsD w0 h0 b i)), some (.sh (.int (0 + (i : Nat))))]) ?_ ?_
    · unfold flipZ at hs1
      walk_at "x"
      refine br_d (fun c1 => ?_) (fun c1 => ?_)
      · walk_at "x"
        rw [if_pos (.inl c1)] at hs1
        rw [hs1]
        rfl
      · walk_at "x"
        refine br_d (fun c2 => ?_) (fun c2 => ?_)
        · walk_at "x"
          rw [if_pos (.inr c2)] at hs1
          rw [hs1]
          rfl
        · walk_at "x"
          rw [if_neg (fun z => z.elim c1 c2)] at hs1
          rw [hs1]
          rfl
    · rintro δ' rfl
      refine xs_cut (fun δ' => δ' = [some (.sh (.int w0)), some (.sh (.int h0)), some (.sh (ballD b)), some (.sh (.int n0)), some (.sh (.str b.n)), some (.sh (.int x)), some (.sh (.int y)), some (.sh (.int s1)), some (.sh (.int s2)), some (.sh (.int b.m)), some (.ow (rowsD w0 h0 b i)), some (.sh (.int (0 + (i : Nat))))]) ?_ ?_
      · unfold flipZ at hs2
        walk_at "x"
        refine br_d (fun c1 => ?_) (fun c1 => ?_)
        · walk_at "x"
          rw [if_pos (.inl c1)] at hs2
          rw [hs2]
          rfl
        · walk_at "x"
          refine br_d (fun c2 => ?_) (fun c2 => ?_)
          · walk_at "x"
            rw [if_pos (.inr c2)] at hs2
            rw [hs2]
            rfl
          · walk_at "x"
            rw [if_neg (fun z => z.elim c1 c2)] at hs2
            rw [hs2]
            try rfl
      · rintro δ' rfl
        refine xs_seq ?_
        refine xs_app (i := 10) rfl ln ?_
        walk_at "x"
        exact ⟨x + s1, y + s2, s1, s2, _, by rw [rowsD_succ, erow]; rfl, nx.1, ny.1, by rw [nx.1]; exact nx.2, by rw [ny.1]; exact ny.2⟩
  · rintro δ' ⟨x, y, dx, dy, u, rfl, _⟩
    rw [rngD_len]
    refine xs_fz (i := 10) rfl ?_
    walk_at "x"
    exact k
/-! ### _law_meet -/
abbrev s__law_meet : Stmt := top 46
abbrev N__law_meet : List Str := ["_law_width", "_law_height", "_law_one", "_law_other", "_law_start", "_law_many", "_law_first", "_law_second", "_law_k"]
theorem sc__law_meet : FnScope N__law_meet ["_law_width", "_law_height", "_law_one", "_law_other"] (defScope s__law_meet) := ⟨rfl, rfl, rfl, by decide +kernel, rfl, by decide +kernel, by decide +kernel⟩
def W__law_meet : WP := fun ds R _ => ∃ (w h : Int) (b c : BallV), ds = [.int w, .int h, ballD b, ballD c] ∧ TwoB w h b c ∧ okB w h c = true ∧ (b.m ≤ 4 ∧ c.m ≤ 4) ∧ ∀ r : Bool, (r = true ↔ ∃ t, MeetT w h b c t) → R (.bl r)
theorem meet_rows {w h : Int} {b c : BallV} (q : OkW w h b) (q' : OkW w h c) (t : Int) : MeetT w h b c t ↔ ((rowAt w h b (t - b.m)).1 = (rowAt w h c (t - c.m)).1 ∧ (rowAt w h b (t - b.m)).2.1 = (rowAt w h c (t - c.m)).2.1) := by
  have w1 := q.w1
  have h1 := q.h1
  show _ ↔ (partZ w b.x b.dx (t - b.m) = partZ w c.x c.dx (t - c.m) ∧ partZ h b.y b.dy (t - b.m) = partZ h c.y c.dy (t - c.m))
  rw [partZ_fold (by omega) q.x.1 q.x.2 q.dx, partZ_fold (by omega) q.y.1 q.y.2 q.dy, partZ_fold (by omega) q'.x.1 q'.x.2 q'.dx, partZ_fold (by omega) q'.y.1 q'.y.2 q'.dy, fold_same (by omega), fold_same (by omega)]
  rfl
theorem meet_per {w h : Int} {b c : BallV} {t : Int} (j : Int) (m : MeetT w h b c t) : MeetT w h b c (t + 8 * w * h * j) := by
  have h1 := m.1.shift (k := 4 * h * b.dx * j) (j := 4 * h * c.dx * j)
  have h2 := m.2.shift (k := 4 * w * b.dy * j) (j := 4 * w * c.dy * j)
  refine ⟨?_, ?_⟩
  · have e1 : b.x + b.dx * (t + 8 * w * h * j - b.m) = b.x + b.dx * (t - b.m) + 2 * w * (4 * h * b.dx * j) := by grind
    have e2 : c.x + c.dx * (t + 8 * w * h * j - c.m) = c.x + c.dx * (t - c.m) + 2 * w * (4 * h * c.dx * j) := by grind
    rw [e1, e2]; exact h1
  · have e1 : b.y + b.dy * (t + 8 * w * h * j - b.m) = b.y + b.dy * (t - b.m) + 2 * h * (4 * w * b.dy * j) := by grind
    have e2 : c.y + c.dy * (t + 8 * w * h * j - c.m) = c.y + c.dy * (t - c.m) + 2 * h * (4 * w * c.dy * j) := by grind
    rw [e1, e2]; exact h2
theorem ok__law_meet (T : Tx K mg C_Table C_InvalidTable C_InvalidBall aW tk) (F : FnE K mg "_law_meet" s__law_meet ["_law_width", "_law_height", "_law_one", "_law_other"]) (c__law_walk : CalE P w K mg base CX0 1 "_law_walk" ["_law_width", "_law_height", "_law_ball_here", "_law_many"] (spD K W__law_walk)) : CalE P w K mg base CX0 2 "_law_meet" ["_law_width", "_law_height", "_law_one", "_law_other"] (spD K W__law_meet) := by
  obtain ⟨f__law_walk, fd__law_walk, G__law_walk, g__law_walk, k__law_walk, b__law_walk⟩ := c__law_walk
  obtain ⟨f, fd, F, g, bd⟩ := F
  refine ⟨f, fd, ?_, g, F.kp, bd⟩
  refine def0 F sc__law_meet (fun ds R RX h => ?_) (fun cdv A outer s H vs Q E L ds R RX hr h => ?_)
  · obtain ⟨w0, h0, b, c, rfl, q, co, ⟨hb4, hc4⟩, k⟩ := h
    rfl
  obtain ⟨w0, h0, b, c, rfl, q, co, ⟨hb4, hc4⟩, k⟩ := h
  refine ⟨_, (pss_cons (ps_set (i := 4) sc__law_meet.nd rfl (by first | exact Or.inl rfl | exact Or.inr rfl) (pe_callB (cl_max2 rfl) (by rfl) T.b_max (by decide +kernel) (pa_cons (pe_ix (ik (K := K) rIx ix_seq rfl) (pv 2) pe_int (fun _ _ => rfl)) (pa_cons (pe_ix (ik (K := K) rIx ix_seq rfl) (pv 3) pe_int (fun _ _ => rfl)) pa_nil))))
      (pss_cons (ps_set (i := 5) sc__law_meet.nd rfl (by first | exact Or.inl rfl | exact Or.inr rfl) (pe_op op_mulA (pe_op op_mulA pe_int (pv 0)) (pv 1)))
      (pss_cons (ps_set (i := 6) sc__law_meet.nd rfl (by first | exact Or.inl rfl | exact Or.inr rfl) (pe_call G__law_walk (hr.mono (by decide)) rfl g__law_walk k__law_walk b__law_walk .nil pass0 (pa_cons (pv 0) (pa_cons (pv 1) (pa_cons (pv 2) (pa_cons (pe_op (ok' (K := K) rAddA op_addA rfl) (pv 5) (pv 4)) pa_nil))))))
      (pss_cons (ps_set (i := 7) sc__law_meet.nd rfl (by first | exact Or.inl rfl | exact Or.inr rfl) (pe_call G__law_walk (hr.mono (by decide)) rfl g__law_walk k__law_walk b__law_walk .nil pass0 (pa_cons (pv 0) (pa_cons (pv 1) (pa_cons (pv 3) (pa_cons (pe_op (ok' (K := K) rAddA op_addA rfl) (pv 5) (pv 4)) pa_nil))))))
      (pss_cons (ps_for PassesOwn.never rfl (pi_range1 (by rfl) T.b_range (pa_cons (pv 5) pa_nil)) (pg_name (i := 8) sc__law_meet.nd rfl (by first | exact Or.inl rfl | exact Or.inr rfl))
      (pss_one (ps_if (pt_cmpR (ok' (K := K) rEqD (op_eqD hr.units) rfl) (pe_slice (sk (K := K) sl_any rfl) (pe_ix (ik (K := K) rIx ix_seq rfl) (pv 6) (pe_op op_sub (pe_op (ok' (K := K) rAddA op_addA rfl) (pv 4) (pv 8)) (pe_ix (ik (K := K) rIx ix_seq rfl) (pv 2) pe_int (fun _ _ => rfl))) (fun _ _ => rfl)) po_none (po_some pe_int)) (pe_slice (sk (K := K) sl_any rfl) (pe_ix (ik (K := K) rIx ix_seq rfl) (pv 7) (pe_op op_sub (pe_op (ok' (K := K) rAddA op_addA rfl) (pv 4) (pv 8)) (pe_ix (ik (K := K) rIx ix_seq rfl) (pv 3) pe_int (fun _ _ => rfl))) (fun _ _ => rfl)) po_none (po_some pe_int)) (nomark _)) (pss_one (ps_ret pe_bl)) pss_nil)))
      (pss_one (ps_ret pe_bl))))))), ?_⟩
  try dsimp only [L2.cxOf, L2.Cx.nox, L2.Cx.wish]
  show XS K H L _ [some (.sh (.int w0)), some (.sh (.int h0)), some (.sh (ballD b)), some (.sh (ballD c)), none, none, none, none, none] _
  obtain ⟨_, bm, _⟩ := okB_of q.bo
  obtain ⟨_, cm, _⟩ := okB_of co
  have w1 := q.w1
  have w2 := q.w2
  have h1 := q.h1
  have h2 := q.h2
  have qb := OkW.of w1 h1 q.bo
  have qc := OkW.of w1 h1 co
  have m1 := mulS (i := 8) (j := w0) (sz_of (by omega) (by omega)) (sz_of (by omega) (by omega))
  have m2 := mulS (i := 8 * w0) (j := h0) (sz_of (by omega) (by omega)) (sz_of (by omega) (by omega))
  have hn : 0 < 8 * w0 * h0 ∧ 8 * w0 * h0 ≤ 288 := ⟨Int.mul_pos (by omega) (by omega), by
    have := Int.mul_le_mul (show 8 * w0 ≤ 48 by omega) h2 (by omega) (by decide)
    omega⟩
  walk_at "x"
  generalize hst : (if c.m > b.m then c.m else b.m) = st
  have hst1 : b.m ≤ st ∧ c.m ≤ st ∧ st ≤ 4 := by split at hst <;> omega
  obtain ⟨N, hN⟩ : ∃ N : Int, N = 8 * w0 * h0 := ⟨_, rfl⟩
  rw [← hN] at hn ⊢
  refine ⟨w0, h0, b, _, rfl, qb, ⟨by omega, by omega⟩, ?_⟩
  walk_at "x"
  refine ⟨w0, h0, c, _, rfl, qc, ⟨by omega, by omega⟩, ?_⟩
  refine xs_seq ?_
  refine xs_for (js := [8]) ?_
  walk_at "x"
  refine ⟨fun i δ' => ∃ (x : Option SD), δ' = [some (.sh (.int w0)), some (.sh (.int h0)), some (.sh (ballD b)), some (.sh (ballD c)), some (.sh (.int st)), some (.sh (.int N)), some (.sh (.lst (rowsD w0 h0 b (N + st + 1).toNat))), some (.sh (.lst (rowsD w0 h0 c (N + st + 1).toNat))), x] ∧ ∀ (j : Nat), j < i → ¬ MeetT w0 h0 b c (st + (j : Int)), ⟨none, rfl, fun j hj => by omega⟩, ?_, ?_⟩
  · rintro G eG i d δ' hd ⟨x, rfl, hI⟩
    obtain ⟨hi, rfl⟩ := rngD_get hd
    have er := rowsD_atD (w := w0) (h := h0) (b := b) (n := (N + st + 1).toNat) (z := st + (0 + (i : Nat)) - b.m) (by omega) (by omega)
    have er' := rowsD_atD (w := w0) (h := h0) (b := c) (n := (N + st + 1).toNat) (z := st + (0 + (i : Nat)) - c.m) (by omega) (by omega)
    have mr := meet_rows qb qc (st + (0 + (i : Nat)))
    generalize rowAt w0 h0 b (st + (0 + (i : Nat)) - b.m) = r1 at er mr
    generalize rowAt w0 h0 c (st + (0 + (i : Nat)) - c.m) = r2 at er' mr
    have ei : st + (0 + (i : Nat) : Int) = st + (i : Int) := by omega
    rw [ei] at mr
    walk_at "x"
    refine xr_ixL er ?_
    walk_at "x"
    refine xr_ixL er' ?_
    walk_at "x"
    refine xr_eq (pair_okD (r1.1, r1.2.1)) (pair_okD (r2.1, r2.2.1)) ?_
    rw [show eqD (.tup (cutD [D.int r1.1, .int r1.2.1, .int r1.2.2.1, .int r1.2.2.2] none (some 2))) (.tup (cutD [D.int r2.1, .int r2.2.1, .int r2.2.2.1, .int r2.2.2.2] none (some 2))) = decide ((r1.1, r1.2.1) = (r2.1, r2.2.1)) from eqD_pair (r1.1, r1.2.1) (r2.1, r2.2.1)]
    walk_at "x"
    refine br_d (fun h => ?_) (fun h => ?_)
    · walk_at "x"
      refine k true ⟨fun _ => ⟨st + (i : Int), mr.mpr ⟨congrArg (·.1) h, congrArg (·.2) h⟩⟩, fun _ => rfl⟩
    · walk_at "x"
      refine ⟨_, rfl, fun j hj z => ?_⟩
      by_cases e : j = i
      · subst e
        have := mr.mp z
        exact h (Prod.ext this.1 this.2)
      · exact hI j (by omega) z
  · rintro δ' ⟨x, rfl, hI⟩
    rw [rngD_len] at hI
    walk_at "x"
    refine k false ⟨fun z => (nomatch z), fun ⟨t, ht⟩ => ?_⟩
    have r0 := Int.emod_nonneg (t - st) (show N ≠ 0 by omega)
    have r1 := Int.emod_lt_of_pos (t - st) hn.1
    have r2 := Int.mul_ediv_add_emod (t - st) N
    have := meet_per (-((t - st) / N)) ht
    have e : t + 8 * w0 * h0 * -((t - st) / N) = st + ((((t - st) % N).toNat : Nat) : Int) := by
      rw [← hN, Int.mul_neg]
      omega
    rw [e] at this
    exact absurd this (hI _ (by omega))
/-! ### _law_rows -/
abbrev s__law_rows : Stmt := top 47
abbrev N__law_rows : List Str := ["_law_rows_here", "_law_numbers_here", "_law_choice", "_law_number", "_law_at", "_law_place", "_law_row_here"]
theorem sc__law_rows : FnScope N__law_rows ["_law_rows_here", "_law_numbers_here"] (defScope s__law_rows) := ⟨rfl, rfl, rfl, by decide +kernel, rfl, by decide +kernel, by decide +kernel⟩
def W__law_rows : WP := fun ds R _ => ∃ (rows : List RowV) (ns : List Int), ds = [.lst (rows.map rowVD), .lst (ns.map D.int)] ∧ ns.length = 40 ∧ (∀ n ∈ ns, 0 ≤ n ∧ n < 1009) ∧ rows.length ≤ 10 ∧ (∀ row ∈ rows, RowOk 100 row) ∧ ∀ rows' : List RowV, OkR rows' → R (.lst (rows'.map rowVD))
theorem cut_rows_to {α : Type} (f : α → D) (rows : List α) (n : Nat) : cutD (rows.map f) none (some (n : Int)) = (rows.take n).map f := by rw [cutD_none, List.map_take]
theorem cut_rows_from {α : Type} (f : α → D) (rows : List α) (n : Nat) : cutD (rows.map f) (some (n : Int)) none = (rows.drop n).map f := by rw [cutD_from, List.map_drop]
/-- a part of a row, changed -/
def chgRow (row : RowV) (p : Int) (v : Int) : RowV :=
  match row with
  | .pr r m s n d => if p = 1 then .pr v m s n d else if p = 2 then .pr r v s n d else if p = 3 then .pr r m v n d else if p = 4 then .pr r m s v d else .pr r m s n v
  | z => z
theorem ok__law_rows (T : Tx K mg C_Table C_InvalidTable C_InvalidBall aW tk) (F : FnE K mg "_law_rows" s__law_rows ["_law_rows_here", "_law_numbers_here"])  : CalE P w K mg base CX0 1 "_law_rows" ["_law_rows_here", "_law_numbers_here"] (spD K W__law_rows) := by
  obtain ⟨f, fd, F, g, bd⟩ := F
  refine ⟨f, fd, ?_, g, F.kp, bd⟩
  refine def0 F sc__law_rows (fun ds R RX h => ?_) (fun cdv A outer s H vs Q E L ds R RX hr h => ?_)
  · obtain ⟨rows, ns, rfl, hns, hb, hl, ho, k⟩ := h
    rfl
  obtain ⟨rows, ns, rfl, hns, hb, hl, ho, k⟩ := h
  refine ⟨_, (pss_cons (ps_set (i := 2) sc__law_rows.nd rfl (by first | exact Or.inl rfl | exact Or.inr rfl) (pe_op op_mod (pe_callTy cl_int (by rfl) T.b_int (by decide +kernel) (pa_cons (pe_ix (ik (K := K) rIx ix_seq rfl) (pv 1) pe_int (fun _ _ => rfl)) pa_nil)) pe_int))
      (pss_cons (ps_set (i := 3) sc__law_rows.nd rfl (by first | exact Or.inl rfl | exact Or.inr rfl) (pe_callTy cl_int (by rfl) T.b_int (by decide +kernel) (pa_cons (pe_ix (ik (K := K) rIx ix_seq rfl) (pv 1) pe_int (fun _ _ => rfl)) pa_nil)))
      (pss_cons (ps_if (PW.pt (pw_or (pt_cmpR (ok' (K := K) rEqD (op_eqD hr.units) rfl) (pv 2) pe_int (nomark _)) (pw_or1 (pt_cmpR (ok' (K := K) rEqD (op_eqD hr.units) rfl) (pe_callB (ck (K := K) rLenA cl_len rfl) (by rfl) T.b_len (by decide +kernel) (pa_cons (pv 0) pa_nil)) pe_int (nomark _))))) (pss_one (ps_ret (pe_op (ok' (K := K) rAddA op_addA rfl) (pv 0) (pe_lst (pa_cons (pe_ix (ik (K := K) rIx ix_seq rfl) (pe_lst (pa_cons (pe_tup (pa_cons pe_str pa_nil)) (pa_cons (pe_tup (pa_cons pe_str pa_nil)) (pa_cons (pe_tup (pa_cons pe_str (pa_cons pe_int (pa_cons (pe_op (ok' (K := K) rAddA op_addA rfl) pe_int (pe_op op_mod (pv 3) pe_int)) (pa_cons pe_int (pa_cons pe_int (pa_cons pe_int pa_nil))))))) pa_nil)))) (pe_op op_mod (pv 3) pe_int) (fun _ _ => rfl)) pa_nil))))) pss_nil)
      (pss_cons (ps_set (i := 4) sc__law_rows.nd rfl (by first | exact Or.inl rfl | exact Or.inr rfl) (pe_op op_mod (pv 3) (pe_callB (ck (K := K) rLenA cl_len rfl) (by rfl) T.b_len (by decide +kernel) (pa_cons (pv 0) pa_nil))))
      (pss_cons (ps_if (pt_cmpR (ok' (K := K) rEqD (op_eqD hr.units) rfl) (pv 2) pe_int (nomark _)) (pss_one (ps_ret (pe_op (ok' (K := K) rAddA op_addA rfl) (pe_slice (sk (K := K) sl_any rfl) (pv 0) po_none (po_some (pv 4))) (pe_slice (sk (K := K) sl_any rfl) (pv 0) (po_some (pe_op (ok' (K := K) rAddA op_addA rfl) (pv 4) pe_int)) po_none)))) pss_nil)
      (pss_cons (ps_if (pt_cmpR (ok' (K := K) rEqD (op_eqD hr.units) rfl) (pv 2) pe_int (nomark _)) (pss_one (ps_ret (pe_op (ok' (K := K) rAddA op_addA rfl) (pe_slice (sk (K := K) sl_any rfl) (pv 0) po_none (po_some (pe_op (ok' (K := K) rAddA op_addA rfl) (pv 4) pe_int))) (pe_slice (sk (K := K) sl_any rfl) (pv 0) (po_some (pv 4)) po_none)))) pss_nil)
      (pss_cons (ps_if (pt_cmpR (ok' (K := K) rEqD (op_eqD hr.units) rfl) (pv 2) pe_int (nomark _)) (pss_one (ps_ret (pe_ix (ik (K := K) rIx ix_seq rfl) (pe_lst (pa_cons (pe_lst (pa_cons (pe_tup (pa_cons pe_str pa_nil)) pa_nil)) (pa_cons (pe_lst (pa_cons (pe_tup (pa_cons pe_str pa_nil)) pa_nil)) (pa_cons (pe_revLK (K := K) rfl (pv 0)) pa_nil)))) (pe_op op_mod (pe_op op_fdivW (pv 3) pe_int) pe_int) (fun _ _ => rfl)))) pss_nil)
      (pss_cons (ps_if (PW.pt (pw_and (pt_cmpR op_lt (pv 2) pe_int (nomark _)) (pw_and1 (pt_cmpR op_gt (pe_callB (ck (K := K) rLenA cl_len rfl) (by rfl) T.b_len (by decide +kernel) (pa_cons (pe_ix (ik (K := K) rIx ix_seq rfl) (pv 0) (pv 4) (fun _ _ => rfl)) pa_nil)) pe_int (nomark _))))) (pss_cons (ps_set (i := 5) sc__law_rows.nd rfl (by first | exact Or.inl rfl | exact Or.inr rfl) (pe_op (ok' (K := K) rAddA op_addA rfl) pe_int (pe_op op_mod (pe_op op_fdivW (pv 3) pe_int) pe_int)))
      (pss_cons (ps_set (i := 6) sc__law_rows.nd rfl (by first | exact Or.inl rfl | exact Or.inr rfl) (pe_op (ok' (K := K) rAddA op_addA rfl) (pe_op (ok' (K := K) rAddA op_addA rfl) (pe_slice (sk (K := K) sl_any rfl) (pe_ix (ik (K := K) rIx ix_seq rfl) (pv 0) (pv 4) (fun _ _ => rfl)) po_none (po_some (pv 5))) (pe_tup (pa_cons (pe_callB (cl_max2 rfl) (by rfl) T.b_max (by decide +kernel) (pa_cons pe_int (pa_cons (pe_op (ok' (K := K) rAddA op_addA rfl) (pe_ix (ik (K := K) rIx ix_seq rfl) (pe_ix (ik (K := K) rIx ix_seq rfl) (pv 0) (pv 4) (fun _ _ => rfl)) (pv 5) (fun _ _ => rfl)) (pe_ix (ik (K := K) rIx ix_seq rfl) (pe_lst (pa_cons pe_int (pa_cons (pe_un un_neg pe_int) pa_nil))) (pe_op op_mod (pe_op op_fdivW (pv 3) pe_int) pe_int) (fun _ _ => rfl))) pa_nil))) pa_nil))) (pe_slice (sk (K := K) sl_any rfl) (pe_ix (ik (K := K) rIx ix_seq rfl) (pv 0) (pv 4) (fun _ _ => rfl)) (po_some (pe_op (ok' (K := K) rAddA op_addA rfl) (pv 5) pe_int)) po_none)))
      (pss_one (ps_ret (pe_op (ok' (K := K) rAddA op_addA rfl) (pe_op (ok' (K := K) rAddA op_addA rfl) (pe_slice (sk (K := K) sl_any rfl) (pv 0) po_none (po_some (pv 4))) (pe_lst (pa_cons (pv 6) pa_nil))) (pe_slice (sk (K := K) sl_any rfl) (pv 0) (po_some (pe_op (ok' (K := K) rAddA op_addA rfl) (pv 4) pe_int)) po_none)))))) pss_nil)
      (pss_one (ps_ret (pv 0))))))))))), ?_⟩
  try dsimp only [L2.cxOf, L2.Cx.nox, L2.Cx.wish]
  show XS K H L _ [some (.sh (.lst (rows.map rowVD))), some (.sh (.lst (ns.map D.int))), none, none, none, none, none] _
  obtain ⟨n30, hn30, en30⟩ := ns_at (ns := ns) (a := 30) (by omega) (by omega)
  obtain ⟨n31, hn31, en31⟩ := ns_at (ns := ns) (a := 31) (by omega) (by omega)
  have b30 := hb _ hn30
  have b31 := hb _ hn31
  have mk : ∀ rows' : List RowV, rows'.length ≤ 50 → (∀ row ∈ rows', RowOk 1000 row) → R (.lst (rows'.map rowVD)) := fun rows' h1 h2 => k rows' ⟨h1, fun row hr => (h2 row hr).le (by decide)⟩
  have ho' : ∀ row ∈ rows, RowOk 1000 row := fun row hr => (ho row hr).le (by decide)
  obtain ⟨row3, hrow3, erow3⟩ : ∃ row : RowV, RowOk 1000 row ∧ atD [.tup [.str "x"], .tup [.str "y"], .tup [.str "pair", .int 0, .int (1 + n31 % 9), .int 1, .int 2, .int 2]] (n31 % 3) = some (rowVD row) := by
    have : n31 % 3 = 0 ∨ n31 % 3 = 1 ∨ n31 % 3 = 2 := by omega
    rcases this with z | z | z <;> rw [z]
    · exact ⟨.x, trivial, rfl⟩
    · exact ⟨.y, trivial, rfl⟩
    · exact ⟨.pr 0 (1 + n31 % 9) 1 2 2, ⟨by omega, by omega, by omega, by omega, by omega⟩, rfl⟩
  have app : ∀ (R' : D → Prop), (∀ d, R d → R' d) → XR K (rAddA K) (.lst (rows.map rowVD)) (.lst [rowVD row3]) R' := fun R' f => xr_addL (by rw [List.length_map]; simp only [List.length_cons, List.length_nil]; omega) (by
    have := mk (rows ++ [row3]) (by rw [List.length_append]; simp only [List.length_cons, List.length_nil]; omega) fun row hr => by
      rcases List.mem_append.mp hr with z | z
      · exact ho' row z
      · rw [List.mem_singleton.mp z]; exact hrow3
    rw [List.map_append] at this
    exact f _ this)
  walk_at "x"
  refine xr_ixL en30 ?_
  walk_at "x"
  refine xr_ixL en31 ?_
  walk_at "x"
  refine br_d (fun _ => ?_) (fun c0 => ?_)
  · walk_at "x"
    refine xr_ixL erow3 ?_
    walk_at "x"
    exact app _ fun _ z => z
  walk_at "x"
  rw [List.length_map]
  refine br_d (fun _ => ?_) (fun c1 => ?_)
  · walk_at "x"
    refine xr_ixL erow3 ?_
    walk_at "x"
    exact app _ fun _ z => z
  have hn0 : 0 < (rows.length : Int) := by omega
  walk_at "x"
  rw [List.length_map]
  walk_at "x"
  have q0 := Int.emod_nonneg n31 (show (rows.length : Int) ≠ 0 by omega)
  have q1 := Int.emod_lt_of_pos n31 hn0
  obtain ⟨a, ha⟩ : ∃ a : Nat, n31 % (rows.length : Int) = (a : Int) := ⟨(n31 % (rows.length : Int)).toNat, by omega⟩
  rw [ha] at q1 ⊢
  have haL : a < rows.length := by omega
  have ea1 : (a : Int) + 1 = ((a + 1 : Nat) : Int) := by omega
  obtain ⟨row, hrow⟩ : ∃ row, rows[a]? = some row := ⟨_, List.getElem?_eq_getElem haL⟩
  have okrow := ho row (List.mem_of_getElem? hrow)
  have erow : atD (rows.map rowVD) (a : Int) = some (rowVD row) := atD_nat (by rw [List.getElem?_map, hrow]; rfl)
  have cut : ∀ (n m : Nat) (R' : D → Prop), (∀ d, R d → R' d) → XR K (rAddA K) (.lst ((rows.take n).map rowVD)) (.lst ((rows.drop m).map rowVD)) R' := fun n m R' f => xr_addL (by rw [List.length_map, List.length_map, List.length_take, List.length_drop]; omega) (by
    have := mk (rows.take n ++ rows.drop m) (by rw [List.length_append, List.length_take, List.length_drop]; omega) fun row hr => by
      rcases List.mem_append.mp hr with z | z
      · exact ho' row (List.mem_of_mem_take z)
      · exact ho' row (List.mem_of_mem_drop z)
    rw [List.map_append] at this
    exact f _ this)
  refine br_d (fun _ => ?_) (fun c2 => ?_)
  · walk_at "x"
    rw [ea1, cut_rows_to, cut_rows_from]
    exact cut _ _ _ fun _ z => z
  walk_at "x"
  refine br_d (fun _ => ?_) (fun c3 => ?_)
  · walk_at "x"
    rw [ea1, cut_rows_to, cut_rows_from]
    exact cut _ _ _ fun _ z => z
  walk_at "x"
  refine br_d (fun _ => ?_) (fun c4 => ?_)
  · walk_at "x"
    refine xe_revL ?_
    walk_at "x"
    refine ⟨_, rfl, ?_⟩
    walk_at "x"
    obtain ⟨rs, hrs1, hrs2, ers⟩ : ∃ rs : List RowV, rs.length ≤ 50 ∧ (∀ row ∈ rs, RowOk 1000 row) ∧ atD [.lst [.tup [.str "y"]], .lst [.tup [.str "x"]], .lst (rows.map rowVD).reverse] (n31 / 7 % 3) = some (.lst (rs.map rowVD)) := by
      have : n31 / 7 % 3 = 0 ∨ n31 / 7 % 3 = 1 ∨ n31 / 7 % 3 = 2 := by omega
      rcases this with z | z | z <;> rw [z]
      · exact ⟨[.y], by decide, fun row hr => by rw [List.mem_singleton.mp hr]; exact trivial, rfl⟩
      · exact ⟨[.x], by decide, fun row hr => by rw [List.mem_singleton.mp hr]; exact trivial, rfl⟩
      · exact ⟨rows.reverse, by rw [List.length_reverse]; omega, fun row hr => ho' row (List.mem_reverse.mp hr), by rw [List.map_reverse]; rfl⟩
    refine xr_ixL ers ?_
    exact mk rs hrs1 hrs2
  walk_at "x"
  refine br_d (fun _ => ?_) (fun _ => ?_)
  · walk_at "x"
    refine xr_ixL erow ?_
    obtain ⟨e0, he0, ee⟩ : ∃ e : Int, (e = 1 ∨ e = -1) ∧ atD [.int 1, .int (-1)] (n31 / 35 % 2) = some (.int e) := by
      have : n31 / 35 % 2 = 0 ∨ n31 / 35 % 2 = 1 := by omega
      rcases this with z | z <;> rw [z]
      · exact ⟨1, .inl rfl, rfl⟩
      · exact ⟨-1, .inr rfl, rfl⟩
    have chg : ∀ (row' : RowV), RowOk 1000 row' → ∀ d, d = rowVD row' → R (.lst (((rows.take a).map rowVD ++ [d]) ++ (rows.drop (a + 1)).map rowVD)) := fun row' ok d ed => by
      subst ed
      have := mk (rows.take a ++ [row'] ++ rows.drop (a + 1)) (by simp only [List.length_append, List.length_take, List.length_drop, List.length_cons, List.length_nil]; omega) fun row hr => by
        rcases List.mem_append.mp hr with z | z
        · rcases List.mem_append.mp z with z | z
          · exact ho' row (List.mem_of_mem_take z)
          · rw [List.mem_singleton.mp z]; exact ok
        · exact ho' row (List.mem_of_mem_drop z)
      rw [List.map_append, List.map_append] at this
      exact this
    have lt1 : (rows.take a).length ≤ 10 := by rw [List.length_take]; omega
    have lt2 : (rows.drop (a + 1)).length ≤ 10 := by rw [List.length_drop]; omega
    cases row with
    | x =>
      walk_at "x"
      refine br_ff rfl ?_
      walk_at "x"
      exact mk rows (by omega) ho'
    | y =>
      walk_at "x"
      refine br_ff rfl ?_
      walk_at "x"
      exact mk rows (by omega) ho'
    | pr r m s n d =>
      obtain ⟨k1, k2, k3, k4, k5⟩ := okrow
      walk_at "x"
      refine br_tt rfl ?_
      have hp5 : n31 / 7 % 5 = 0 ∨ n31 / 7 % 5 = 1 ∨ n31 / 7 % 5 = 2 ∨ n31 / 7 % 5 = 3 ∨ n31 / 7 % 5 = 4 := by omega
      walk_at "x"
      rcases hp5 with z | z | z | z | z <;> rw [z]
      · refine xr_ixL erow ?_
        walk_at "x"
        refine xr_ixL erow ?_
        walk_at "x"
        refine xr_ixL ee ?_
        walk_at "x"
        have hu : 0 ≤ (if r + e0 > 0 then r + e0 else 0) ∧ (if r + e0 > 0 then r + e0 else 0) ≤ 1000 := by split <;> omega
        generalize (if r + e0 > 0 then r + e0 else 0) = u at hu ⊢
        refine xr_ixL erow ?_
        walk_at "x"
        rw [cut_rows_to]
        refine xr_addL (by rw [List.length_map]; simp only [List.length_cons, List.length_nil]; omega) ?_
        walk_at "x"
        rw [ea1, cut_rows_from]
        refine xr_addL (by rw [List.length_append, List.length_map, List.length_map]; simp only [List.length_cons, List.length_nil]; omega) ?_
        exact chg (.pr u m s n d) ⟨by omega, by omega, by omega, by omega, by omega⟩ _ rfl
      · refine xr_ixL erow ?_
        walk_at "x"
        refine xr_ixL erow ?_
        walk_at "x"
        refine xr_ixL ee ?_
        walk_at "x"
        have hu : 0 ≤ (if m + e0 > 0 then m + e0 else 0) ∧ (if m + e0 > 0 then m + e0 else 0) ≤ 1000 := by split <;> omega
        generalize (if m + e0 > 0 then m + e0 else 0) = u at hu ⊢
        refine xr_ixL erow ?_
        walk_at "x"
        rw [cut_rows_to]
        refine xr_addL (by rw [List.length_map]; simp only [List.length_cons, List.length_nil]; omega) ?_
        walk_at "x"
        rw [ea1, cut_rows_from]
        refine xr_addL (by rw [List.length_append, List.length_map, List.length_map]; simp only [List.length_cons, List.length_nil]; omega) ?_
        exact chg (.pr r u s n d) ⟨by omega, by omega, by omega, by omega, by omega⟩ _ rfl
      · refine xr_ixL erow ?_
        walk_at "x"
        refine xr_ixL erow ?_
        walk_at "x"
        refine xr_ixL ee ?_
        walk_at "x"
        have hu : 0 ≤ (if s + e0 > 0 then s + e0 else 0) ∧ (if s + e0 > 0 then s + e0 else 0) ≤ 1000 := by split <;> omega
        generalize (if s + e0 > 0 then s + e0 else 0) = u at hu ⊢
        refine xr_ixL erow ?_
        walk_at "x"
        rw [cut_rows_to]
        refine xr_addL (by rw [List.length_map]; simp only [List.length_cons, List.length_nil]; omega) ?_
        walk_at "x"
        rw [ea1, cut_rows_from]
        refine xr_addL (by rw [List.length_append, List.length_map, List.length_map]; simp only [List.length_cons, List.length_nil]; omega) ?_
        exact chg (.pr r m u n d) ⟨by omega, by omega, by omega, by omega, by omega⟩ _ rfl
      · refine xr_ixL erow ?_
        walk_at "x"
        refine xr_ixL erow ?_
        walk_at "x"
        refine xr_ixL ee ?_
        walk_at "x"
        have hu : 0 ≤ (if n + e0 > 0 then n + e0 else 0) ∧ (if n + e0 > 0 then n + e0 else 0) ≤ 1000 := by split <;> omega
        generalize (if n + e0 > 0 then n + e0 else 0) = u at hu ⊢
        refine xr_ixL erow ?_
        walk_at "x"
        rw [cut_rows_to]
        refine xr_addL (by rw [List.length_map]; simp only [List.length_cons, List.length_nil]; omega) ?_
        walk_at "x"
        rw [ea1, cut_rows_from]
        refine xr_addL (by rw [List.length_append, List.length_map, List.length_map]; simp only [List.length_cons, List.length_nil]; omega) ?_
        exact chg (.pr r m s u d) ⟨by omega, by omega, by omega, by omega, by omega⟩ _ rfl
      · refine xr_ixL erow ?_
        walk_at "x"
        refine xr_ixL erow ?_
        walk_at "x"
        refine xr_ixL ee ?_
        walk_at "x"
        have hu : 0 ≤ (if d + e0 > 0 then d + e0 else 0) ∧ (if d + e0 > 0 then d + e0 else 0) ≤ 1000 := by split <;> omega
        generalize (if d + e0 > 0 then d + e0 else 0) = u at hu ⊢
        refine xr_ixL erow ?_
        walk_at "x"
        rw [cut_rows_to]
        refine xr_addL (by rw [List.length_map]; simp only [List.length_cons, List.length_nil]; omega) ?_
        walk_at "x"
        rw [ea1, cut_rows_from]
        refine xr_addL (by rw [List.length_append, List.length_map, List.length_map]; simp only [List.length_cons, List.length_nil]; omega) ?_
        exact chg (.pr r m s n u) ⟨by omega, by omega, by omega, by omega, by omega⟩ _ rfl
  · walk_at "x"
    exact mk rows (by omega) ho'
/-! ### law -/
abbrev s_law : Stmt := top 48
abbrev N_law : List Str := ["_law_script", "_law_numbers_here", "_law_width", "_law_height", "_law_pockets", "_law_one", "_law_other", "_law_table_here", "_law_meets", "_law_rows_here", "_law_bad", "_law_text", "_law_told", "e", "_law_row_here", "_law_part"]
theorem sc_law : FnScope N_law ["_law_script"] (defScope s_law) := ⟨rfl, rfl, rfl, by decide +kernel, rfl, by decide +kernel, by decide +kernel⟩
def W_law : WP := fun ds R _ => ∃ (sc : List Int), ds = [.klst (sc.map D.int)] ∧ sc.length ≤ 63 ∧ R (.bl true)
theorem ok_law (T : Tx K mg C_Table C_InvalidTable C_InvalidBall aW tk) {f : Addr} {fd : FuncData} (F : Fun K "law" "law" s_law f fd) (c__law_numbers : CalE P w K mg base CX0 2 "_law_numbers" ["_law_script", "_law_many"] (spD K W__law_numbers)) (c__law_table : CalE P w K mg base CX0 1 "_law_table" ["_law_numbers_here", "_law_at"] (spD K W__law_table)) (c__law_ball : CalE P w K mg base CX0 1 "_law_ball" ["_law_numbers_here", "_law_at", "_law_name", "_law_width", "_law_height"] (spD K W__law_ball)) (c_Table : CalID P w K mg base (L2.CX P w) 2 C_Table ["self", "width", "height", "pockets"] (spI K C_Table (W_Table_init C_Table C_InvalidTable))) (c__law_meet : CalE P w K mg base CX0 2 "_law_meet" ["_law_width", "_law_height", "_law_one", "_law_other"] (spD K W__law_meet)) (c_never : CalE P w K mg base CX0 4 "never" ["table", "one", "other"] (spD K (W_never C_Table))) (c_check_text : CalE P w K mg base (L2.CX P w) 5 "check_text" ["table", "one", "other", "text"] (spD K (W_check_text C_Table C_InvalidBall))) (c_never_text : CalE P w K mg base CX0 1 "never_text" ["rows"] (spD K W_never_text)) (c__law_rows : CalE P w K mg base CX0 1 "_law_rows" ["_law_rows_here", "_law_numbers_here"] (spD K W__law_rows)) (c_check_never : CalE P w K mg base (L2.CX P w) 4 "check_never" ["table", "one", "other", "rows"] (spD K (W_check_never C_Table C_InvalidBall))) : FnOk P w K mg base CX0 6 f fd ["_law_script"] (spD K W_law) := by
  obtain ⟨f__law_numbers, fd__law_numbers, G__law_numbers, g__law_numbers, k__law_numbers, b__law_numbers⟩ := c__law_numbers
  obtain ⟨f__law_table, fd__law_table, G__law_table, g__law_table, k__law_table, b__law_table⟩ := c__law_table
  obtain ⟨f__law_ball, fd__law_ball, G__law_ball, g__law_ball, k__law_ball, b__law_ball⟩ := c__law_ball
  obtain ⟨f_Table, fd_Table, T_Table, u_Table, G_Table, M_Table, b_Table, bd_Table, dd_Table, hT_Table⟩ := c_Table
  obtain ⟨f__law_meet, fd__law_meet, G__law_meet, g__law_meet, k__law_meet, b__law_meet⟩ := c__law_meet
  obtain ⟨f_never, fd_never, G_never, g_never, k_never, b_never⟩ := c_never
  obtain ⟨f_check_text, fd_check_text, G_check_text, g_check_text, k_check_text, b_check_text⟩ := c_check_text
  obtain ⟨f_never_text, fd_never_text, G_never_text, g_never_text, k_never_text, b_never_text⟩ := c_never_text
  obtain ⟨f__law_rows, fd__law_rows, G__law_rows, g__law_rows, k__law_rows, b__law_rows⟩ := c__law_rows
  obtain ⟨f_check_never, fd_check_never, G_check_never, g_check_never, k_check_never, b_check_never⟩ := c_check_never
  refine def0 F sc_law (fun ds R RX h => ?_) (fun cdv A outer s H vs Q E L ds R RX hr h => ?_)
  · obtain ⟨sc, rfl, hl, k⟩ := h
    rfl
  obtain ⟨sc, rfl, hl, k⟩ := h
  refine ⟨_, (pss_cons (ps_set (i := 1) sc_law.nd rfl (by first | exact Or.inl rfl | exact Or.inr rfl) (pe_call G__law_numbers (hr.mono (by decide)) rfl g__law_numbers k__law_numbers b__law_numbers .nil pass0 (pa_cons (pv 0) (pa_cons pe_int pa_nil))))
      (pss_cons (ps_asg (pe_call G__law_table (hr.mono (by decide)) rfl g__law_table k__law_table b__law_table .nil pass0 (pa_cons (pv 1) (pa_cons pe_int pa_nil))) (pg_tupK (K := K) (n := 3) rfl rfl (pgs_cons (pg_name (i := 2) sc_law.nd rfl (by first | exact Or.inl rfl | exact Or.inr rfl)) (pgs_cons (pg_name (i := 3) sc_law.nd rfl (by first | exact Or.inl rfl | exact Or.inr rfl)) (pgs_cons (pg_name (i := 4) sc_law.nd rfl (by first | exact Or.inl rfl | exact Or.inr rfl)) pgs_nil)))))
      (pss_cons (ps_set (i := 5) sc_law.nd rfl (by first | exact Or.inl rfl | exact Or.inr rfl) (pe_call G__law_ball (hr.mono (by decide)) rfl g__law_ball k__law_ball b__law_ball .nil pass0 (pa_cons (pv 1) (pa_cons pe_int (pa_cons pe_str (pa_cons (pv 2) (pa_cons (pv 3) pa_nil)))))))
      (pss_cons (ps_set (i := 6) sc_law.nd rfl (by first | exact Or.inl rfl | exact Or.inr rfl) (pe_call G__law_ball (hr.mono (by decide)) rfl g__law_ball k__law_ball b__law_ball .nil pass0 (pa_cons (pv 1) (pa_cons pe_int (pa_cons pe_str (pa_cons (pv 2) (pa_cons (pv 3) pa_nil)))))))
      (pss_cons (ps_set (i := 7) sc_law.nd rfl (by first | exact Or.inl rfl | exact Or.inr rfl) (pe_make M_Table G_Table (hr.mono (by decide)) rfl T.c_Table b_Table .nil passL (pa_cons (pv 2) (pa_cons (pv 3) (pa_cons (pv 4) pa_nil)))))
      (pss_cons (ps_set (i := 8) sc_law.nd rfl (by first | exact Or.inl rfl | exact Or.inr rfl) (pe_call G__law_meet (hr.mono (by decide)) rfl g__law_meet k__law_meet b__law_meet .nil pass0 (pa_cons (pv 2) (pa_cons (pv 3) (pa_cons (pv 5) (pa_cons (pv 6) pa_nil))))))
      (pss_cons (ps_set (i := 9) sc_law.nd rfl (by first | exact Or.inl rfl | exact Or.inr rfl) (pe_call G_never (hr.mono (by decide)) rfl g_never k_never b_never .nil pass0 (pa_cons (pv 7) (pa_cons (pv 5) (pa_cons (pv 6) pa_nil)))))
      (pss_cons (ps_if (pt_cmpR (ok' (K := K) rNeD (op_neD hr.units) rfl) (pv 8) (pe_cmpR op_isNn (pv 9) pe_non (nomark _)) (nomark _)) (pss_one (ps_ret pe_bl)) pss_nil)
      (pss_cons (ps_if (pt_cmpR op_isNn (pv 9) pe_non (nomark _)) (pss_one (ps_set (i := 9) sc_law.nd rfl (by first | exact Or.inl rfl | exact Or.inr rfl) (pe_ix (ik (K := K) rIx ix_seq rfl) (pe_lst (pa_cons (pe_lst pa_nil) (pa_cons (pe_lst (pa_cons (pe_tup (pa_cons pe_str pa_nil)) pa_nil)) (pa_cons (pe_lst (pa_cons (pe_tup (pa_cons pe_str (pa_cons pe_int (pa_cons pe_int (pa_cons pe_int (pa_cons pe_int (pa_cons pe_int pa_nil))))))) pa_nil)) (pa_cons (pe_lst (pa_cons (pe_tup (pa_cons pe_str pa_nil)) pa_nil)) pa_nil))))) (pe_op op_mod (pe_callTy cl_int (by rfl) T.b_int (by decide +kernel) (pa_cons (pe_ix (ik (K := K) rIx ix_seq rfl) (pv 1) pe_int (fun _ _ => rfl)) pa_nil)) pe_int) (fun _ _ => rfl)))) (pss_one (ps_if (pt_cmpR op_notBl (pe_call G_check_text (hr.mono (by decide)) rfl g_check_text k_check_text b_check_text .nil passL (pa_cons (pv 7) (pa_cons (pv 5) (pa_cons (pv 6) (pa_cons (pe_call G_never_text (hr.mono (by decide)) rfl g_never_text k_never_text b_never_text .nil pass0 (pa_cons (pv 9) pa_nil)) pa_nil))))) pe_bl (nomark _)) (pss_one (ps_ret pe_bl)) pss_nil)))
      (pss_cons (ps_set (i := 10) sc_law.nd rfl (by first | exact Or.inl rfl | exact Or.inr rfl) (pe_call G__law_rows (hr.mono (by decide)) rfl g__law_rows k__law_rows b__law_rows .nil pass0 (pa_cons (pe_lc (own := [("_law_row_here", 14)]) (by rfl) sc_law.nd (pi_anyK (K := K) rfl (pv 9)) (blkOk_by (own := [("_law_row_here", 14)]) (N := N_law) (sc := defScope s_law) (by decide +kernel)) (fun _ _ _ _ _ => (pg_name (i := 14) sc_law.nd rfl (by first | exact Or.inl rfl | exact Or.inr rfl))) (fun _ _ _ _ _ => pts_nil) (fun _ _ _ _ _ => (pe_callTy (ck (K := K) rTupA cl_tup rfl) (by rfl) T.b_tuple (by decide +kernel) (pa_cons (pv 14) pa_nil)))) (pa_cons (pv 1) pa_nil))))
      (pss_cons (ps_set (i := 11) sc_law.nd rfl (by first | exact Or.inl rfl | exact Or.inr rfl) (pe_joinK (K := K) rfl pe_str (pe_op (ok' (K := K) rAddA op_addA rfl) (pe_lst (pa_cons pe_str pa_nil)) (pe_lc (own := [("_law_row_here", 14)]) (by rfl) sc_law.nd (pi_anyK (K := K) rfl (pv 10)) (blkOk_by (own := [("_law_row_here", 14)]) (N := N_law) (sc := defScope s_law) (by decide +kernel)) (fun _ _ _ _ _ => (pg_name (i := 14) sc_law.nd rfl (by first | exact Or.inl rfl | exact Or.inr rfl))) (fun _ _ _ _ _ => pts_nil) (fun _ _ _ _ _ => (pe_joinK (K := K) rfl pe_str (pe_lc (own := [("_law_part", 15)]) (by rfl) sc_law.nd (pi_anyK (K := K) rfl (pv 14)) (blkOk_by (own := [("_law_part", 15)]) (by rfl)) (fun _ _ _ _ _ => (pg_name (i := 15) sc_law.nd rfl (by first | exact Or.inl rfl | exact Or.inr rfl))) (fun _ _ _ _ _ => pts_nil) (fun _ _ _ _ _ => (pe_callTy cl_str (by rfl) T.b_str (by decide +kernel) (pa_cons (pv 15) pa_nil))))))))))
      (pss_cons (ps_set (i := 12) sc_law.nd rfl (by first | exact Or.inl rfl | exact Or.inr rfl) (pe_call G_check_text (hr.mono (by decide)) rfl g_check_text k_check_text b_check_text .nil passL (pa_cons (pv 7) (pa_cons (pv 5) (pa_cons (pv 6) (pa_cons (pv 11) pa_nil))))))
      (pss_cons (ps_if (PW.pt (pw_or (pt_not (pt_truK (K := K) rfl (pe_callB (ck (K := K) rIsA cl_isi rfl) (by rfl) T.b_isinstance (by decide +kernel) (pa_cons (pv 12) (pa_cons (pe_bltn (v := .ty "bool") rfl T.b_bool (by decide +kernel) rfl) pa_nil))))) (pw_or (pt_cmpR (ok' (K := K) rNeD (op_neD hr.units) rfl) (pv 12) (pe_call G_check_never (hr.mono (by decide)) rfl g_check_never k_check_never b_check_never .nil passL (pa_cons (pv 7) (pa_cons (pv 5) (pa_cons (pv 6) (pa_cons (pv 10) pa_nil))))) (nomark _)) (pw_or1 (PW.pt (pw_and (pt_truK (K := K) rfl (pv 12)) (pw_and1 (pt_truK (K := K) rfl (pv 8))))))))) (pss_one (ps_ret pe_bl)) pss_nil)
      (pss_cons (ps_tryIs (K := K) (i := 13) rfl rfl rfl sc_law.nd rfl rfl (by exact ⟨rfl, by decide, Or.inl T.e_InvalidBall.g⟩) (fun W pn xe tk _ => by exact (pss_one (ps_expr (pe_callS G_check_text (hr.mono (by decide)) rfl g_check_text k_check_text b_check_text (fun σ => passAt tk σ) (by exact (pa_cons (pv 7) (pa_cons (pv 5) (pa_cons (pe_tup (pa_cons pe_str (pa_cons (pe_op (ok' (K := K) rAddA op_addA rfl) (pv 2) pe_int) (pa_cons pe_int (pa_cons pe_int (pa_cons pe_int (pa_cons pe_int pa_nil))))))) (pa_cons (pv 11) pa_nil))))))))) _ (fun a oe cls d pn hz hf => by exact (pss_one (ps_ret (pe_isExc rfl T.x61 hz hf (by rfl) T.b_isinstance (pa_cons (pv 13) (pa_cons (pe_bltn (v := .ty "ValueError") rfl T.b_ValueError (by decide +kernel) rfl) pa_nil)))))))
      (pss_one (ps_ret pe_bl)))))))))))))))), ?_⟩
  try dsimp only [L2.cxOf, L2.Cx.nox, L2.Cx.wish]
  show XS K H L _ [some (.sh (.klst (sc.map D.int))), none, none, none, none, none, none, none, none, none, none, none, none, none, none, none] _
  have enl : ("\n" : Str).length = 1 := by decide +kernel
  have esp : (" " : Str).length = 1 := by decide +kernel
  walk_at "x"
  refine ⟨sc, 40, rfl, hl, by decide, fun ns hns hb => ?_⟩
  have nl : ns.length = 40 := by omega
  obtain ⟨n32, hn32, en32⟩ := ns_at (ns := ns) (a := 32) (by omega) (by omega)
  have b32 := hb _ hn32
  walk_at "x"
  refine ⟨ns, 0, rfl, ⟨by omega, by omega⟩, hb, fun w0 h0 ps hw hh hpl t => ?_⟩
  have t1 := t.w1
  have t3 := t.h1
  walk_at "x"
  refine ⟨ns, 10, "one", w0, h0, rfl, ⟨by omega, by omega⟩, hb, t1, t3, fun b hbn hbo hbm => ?_⟩
  walk_at "x"
  refine ⟨ns, 16, "other", w0, h0, rfl, ⟨by omega, by omega⟩, hb, t1, t3, fun c hcn hco hcm => ?_⟩
  have q : TwoB w0 h0 b c := ⟨t1, hw, t3, hh, by rw [hbn]; decide +kernel, hbo, by rw [hcn]; decide +kernel⟩
  walk_at "x"
  refine ⟨w0, h0, ps, _, rfl, .inr rfl, by omega, t.nd, fun _ _ => ⟨t.pt, ?_⟩, fun z => absurd ⟨⟨t.w1, t.w2⟩, t.h1, t.h2⟩ z⟩
  walk_at "x"
  refine ⟨w0, h0, b, c, rfl, q, hco, ⟨hbm, hcm⟩, fun meets hmeets => ?_⟩
  have hM : meets = true ∨ meets = false := by cases meets <;> simp
  have neB : ∀ (x y : Bool) (R' : D → Prop), R' (.bl (!decide (x = y))) → XR K (rNeD K) (.bl x) (.bl y) R' := fun x y R' h => xr_ne (okD_of (by simp [cmpD]) (by simp [depD])) (okD_of (by simp [cmpD]) (by simp [depD])) (by rw [eqD_bl]; exact h)
  refine xs_cut (fun δ' => ((∃ t, MeetT w0 h0 b c t) ∧ δ' = [some (.sh (.klst (sc.map D.int))), some (.sh (.lst (ns.map D.int))), some (.sh (.int w0)), some (.sh (.int h0)), some (.sh (.tup (ps.map pairD))), some (.sh (ballD b)), some (.sh (ballD c)), some (.sh (tblD C_Table w0 h0 ps)), some (.sh (.bl meets)), some (.sh (.non)), none, none, none, none, none, none]) ∨ (∃ rows : List RowV, (¬ ∃ t, MeetT w0 h0 b c t) ∧ rightB (mxV w0 b c) (myV h0 b c) rows = true ∧ rows.length ≤ 4 ∧ (∀ row ∈ rows, RowOk 100 row) ∧ δ' = [some (.sh (.klst (sc.map D.int))), some (.sh (.lst (ns.map D.int))), some (.sh (.int w0)), some (.sh (.int h0)), some (.sh (.tup (ps.map pairD))), some (.sh (ballD b)), some (.sh (ballD c)), some (.sh (tblD C_Table w0 h0 ps)), some (.sh (.bl meets)), some (.sh (.lst (rows.map rowVD))), none, none, none, none, none, none])) ?_ ?_
  · walk_at "x"
    refine ⟨w0, h0, ps, b, c, rfl, q, hco, fun hm => ?_, fun rows hno hright hlen hok => ?_⟩
    · walk_at "x"
      exact .inl ⟨hm, rfl⟩
    · walk_at "x"
      exact .inr ⟨rows, hno, hright, hlen, hok, rfl⟩
  intro δ' h
  refine xs_cut (fun δ' => (((∃ t, MeetT w0 h0 b c t) ∧ δ' = [some (.sh (.klst (sc.map D.int))), some (.sh (.lst (ns.map D.int))), some (.sh (.int w0)), some (.sh (.int h0)), some (.sh (.tup (ps.map pairD))), some (.sh (ballD b)), some (.sh (ballD c)), some (.sh (tblD C_Table w0 h0 ps)), some (.sh (.bl meets)), some (.sh (.non)), none, none, none, none, none, none]) ∨ (∃ rows : List RowV, (¬ ∃ t, MeetT w0 h0 b c t) ∧ rightB (mxV w0 b c) (myV h0 b c) rows = true ∧ rows.length ≤ 4 ∧ (∀ row ∈ rows, RowOk 100 row) ∧ δ' = [some (.sh (.klst (sc.map D.int))), some (.sh (.lst (ns.map D.int))), some (.sh (.int w0)), some (.sh (.int h0)), some (.sh (.tup (ps.map pairD))), some (.sh (ballD b)), some (.sh (ballD c)), some (.sh (tblD C_Table w0 h0 ps)), some (.sh (.bl meets)), some (.sh (.lst (rows.map rowVD))), none, none, none, none, none, none]))) ?_ ?_
  · rcases h with ⟨hm, rfl⟩ | ⟨rows, hno, hright, hlen, hok, rfl⟩
    · have hmt : meets = true := hmeets.mpr hm
      walk_at "x"
      refine neB _ _ _ ?_
      walk_at "x"
      refine br_tt (by rw [hmt]; rfl) ?_
      walk_at "x"
      exact .inl ⟨hm, rfl⟩
    · have hmt : meets = false := by
        rcases hM with z | z
        · exact absurd (hmeets.mp z) hno
        · exact z
      walk_at "x"
      refine neB _ _ _ ?_
      walk_at "x"
      refine br_tt (by rw [hmt]; rfl) ?_
      walk_at "x"
      exact .inr ⟨rows, hno, hright, hlen, hok, rfl⟩
  clear h
  intro δ' h
  refine xs_cut (fun δ' => ∃ rs : List RowV, rs.length ≤ 4 ∧ (∀ row ∈ rs, RowOk 100 row) ∧ δ' = [some (.sh (.klst (sc.map D.int))), some (.sh (.lst (ns.map D.int))), some (.sh (.int w0)), some (.sh (.int h0)), some (.sh (.tup (ps.map pairD))), some (.sh (ballD b)), some (.sh (ballD c)), some (.sh (tblD C_Table w0 h0 ps)), some (.sh (.bl meets)), some (.sh (.lst (rs.map rowVD))), none, none, none, none, none, none]) ?_ ?_
  · rcases h with ⟨hm, rfl⟩ | ⟨rows, hno, hright, hlen, hok, rfl⟩
    · walk_at "x"
      obtain ⟨rs, hrs1, hrs2, ers⟩ : ∃ rs : List RowV, rs.length ≤ 4 ∧ (∀ row ∈ rs, RowOk 100 row) ∧ atD [.lst [], .lst [.tup [.str "x"]], .lst [.tup [.str "pair", .int 0, .int 2, .int 1, .int 2, .int 2]], .lst [.tup [.str "y"]]] (n32 % 4) = some (.lst (rs.map rowVD)) := by
        have : n32 % 4 = 0 ∨ n32 % 4 = 1 ∨ n32 % 4 = 2 ∨ n32 % 4 = 3 := by omega
        rcases this with z | z | z | z <;> rw [z]
        · exact ⟨[], by decide, fun row hr => (List.not_mem_nil hr).elim, rfl⟩
        · exact ⟨[.x], by decide, fun row hr => by rw [List.mem_singleton.mp hr]; exact trivial, rfl⟩
        · exact ⟨[.pr 0 2 1 2 2], by decide, fun row hr => by rw [List.mem_singleton.mp hr]; exact ⟨by omega, by omega, by omega, by omega, by omega⟩, rfl⟩
        · exact ⟨[.y], by decide, fun row hr => by rw [List.mem_singleton.mp hr]; exact trivial, rfl⟩
      refine xr_ixL en32 ?_
      walk_at "x"
      refine xr_ixL ers ?_
      walk_at "x"
      exact ⟨rs, hrs1, hrs2, rfl⟩
    · have OR : OkR rows := ⟨by omega, fun row hr => (hok row hr).le (by decide)⟩
      walk_at "x"
      refine ⟨rows, rfl, OR, ?_⟩
      walk_at "x"
      refine ⟨w0, h0, ps, b, c, rows, rfl, q, OR, fun z => absurd hco (by rw [z]; decide), fun _ => ?_⟩
      rw [hright]
      walk_at "x"
      refine br_tt (by decide) ?_
      walk_at "x"
      exact ⟨rows, hlen, hok, rfl⟩
  clear h
  rintro δ' ⟨rs, hrs1, hrs2, rfl⟩
  walk_at "x"
  refine xe_lcF (α := RowV) (js := [14]) (by decide) ?_
  walk_at "x"
  refine ⟨rs, rowVD, rowVD, rfl, by omega, fun G eG i row hr => ?_, ?_⟩
  · cases row <;> (walk_at "x"; rfl)
  walk_at "x"
  refine ⟨rs, ns, rfl, nl, hb, by omega, hrs2, fun bad hbad => ?_⟩
  have hl2 := hbad.len
  obtain ⟨s1, s2⟩ := lines_sum hbad
  walk_at "x"
  refine xe_lcF (α := RowV) (js := [14]) (by decide) ?_
  walk_at "x"
  refine ⟨bad, rowVD, fun row => .str (lineOf (rowWords row)), rfl, by omega, fun G eG i row hrow => ?_, ?_⟩
  · have ok := hbad.ok row (List.mem_of_getElem? hrow)
    obtain ⟨a1, a2, a3⟩ := rowWords_ok ok
    rw [rowL_D row]
    walk_at "x"
    refine xe_lcF (α := D) (js := [15]) (by decide) ?_
    walk_at "x"
    refine ⟨rowL row, fun d => d, fun d => .str (strD d), by rw [List.map_id'], by have := rowL_len row; omega, fun G2 eG2 j d hd => ?_, ?_⟩
    · rcases rowL_ok ok d (List.mem_of_getElem? hd) with ⟨s, rfl⟩ | ⟨i, rfl, hi⟩
      · walk_at "x"
        rfl
      · walk_at "x"
        rfl
    · rw [rowL_words]
      walk_at "x"
      have h2 := words_sum a2 a3
      refine ⟨by rw [esp]; omega, rfl⟩
  refine xr_addL (by rw [List.length_map]; simp only [List.length_cons, List.length_nil]; omega) ?_
  rw [paper_lines]
  walk_at "x"
  refine ⟨by rw [enl]; omega, ?_⟩
  rw [show Txt.join ("\n" : Str) (linesOf bad) = paperText bad from rfl]
  walk_at "x"
  refine ⟨w0, h0, ps, b, c, bad, rfl, q, hbad, fun z => absurd hco (by rw [z]; decide), fun _ => ?_⟩
  have told : rightB (mxV w0 b c) (myV h0 b c) bad = true → meets = false := fun hr => by
    rcases hM with z | z
    · obtain ⟨t, ht⟩ := hmeets.mp z
      have := (meet_iff q hco t).mp ht
      exact (right_sound hr this.1 this.2).elim
    · exact z
  generalize hrb : rightB (mxV w0 b c) (myV h0 b c) bad = rb at told
  refine xs_cut (fun δ' => δ' = [some (.sh (.klst (sc.map D.int))), some (.sh (.lst (ns.map D.int))), some (.sh (.int w0)), some (.sh (.int h0)), some (.sh (.tup (ps.map pairD))), some (.sh (ballD b)), some (.sh (ballD c)), some (.sh (tblD C_Table w0 h0 ps)), some (.sh (.bl meets)), some (.sh (.lst (rs.map rowVD))), some (.sh (.lst (bad.map rowVD))), some (.sh (.str (paperText bad))), some (.sh (.bl rb)), none, none, none]) ?_ ?_
  · walk_at "x"
    refine ⟨w0, h0, ps, b, c, bad, rfl, q, by omega, fun z => absurd hco (by rw [z]; decide), fun _ => ?_⟩
    rw [hrb]
    refine neB _ _ _ ?_
    walk_at "x"
    refine br_tt (by simp) ?_
    walk_at "x"
    refine br_c (fun h => ?_) (fun h => ?_)
    · walk_at "x"
      rw [told h]
      walk_at "x"
      rfl
    · walk_at "x"
      rfl
  rintro δ' rfl
  refine xs_seq ?_
  refine xs_tryIs (exm_cls T.x_InvalidBall T.s_InvalidBall_InvalidBall) (by simp) T.v61 k (fun W hW => ?_)
  walk_at "x"
  refine ⟨w0, h0, ps, b, ⟨"b", w0 + 1, 0, 1, 0, 0⟩, bad, rfl, ⟨q.w1, q.w2, q.h1, q.h2, q.bn, q.bo, show nameOk ("b" : Str) = true by decide +kernel⟩, hbad, fun _ => ?_, fun z => ?_⟩
  · rfl
  · exact absurd z (by simp [okB, isPt]; try omega)

end
theorem law_ask {K : K'} {H : Hp} {a : Addr} {ns : List Int} (hl : ns.length ≤ 63) (hS : SqL K H a (ns.map V.int)) : spD K W_law [.ref a] H (fun v _ => v = .bl true) (fun _ _ _ => False) := by
  refine ⟨[], [.klst (ns.map D.int)], fun d => d = .bl true, fun _ => False, fun l hl => by simp at hl, by rw [hid_nil]; exact .cons (.klst hS (DvA.ofInts ns)) .nil, ⟨ns, rfl, hl, rfl⟩, fun v H' r _ dv hr => ?_, fun _ _ _ z => z⟩
  subst hr
  cases dv
  rfl
theorem all_mk {P : Program} {w : World} {K : PySem.W.Frag} {h : Heap} {mg : Str → Option Value} {fa : Addr} {C_Table : Addr} (X : K.In h) (G : h.Ns mainGlobals mg) (hfa : mg "law" = some (.ref fa))
    {t_MOST : Tok}
    {t_MOST_POCKETS : Tok}
    {t_NAME_CHARS : Tok}
    {t_MOST_NAME_CHARS : Tok}
    {t_DIGITS : Tok}
    {t_MOST_DIGITS : Tok}
    {t_PAIR_NUMBERS : Tok}
    
    {aW aE : Addr} {odE : Option Addr} {slW slE : Array (Option Value)} {nW nE : Nat} {tE1 tE2 : Tok}
    {C_InvalidTable : Addr}
    {C_InvalidBall : Addr}
    
    
    {od_require an_require : Option Addr} {sl_require : Array (Option Value)} {oc_require kV_require dc_require pm_require cd_require ct_require : Value} {f_require : Addr}
    {od_is_point an_is_point : Option Addr} {sl_is_point : Array (Option Value)} {oc_is_point kV_is_point dc_is_point pm_is_point cd_is_point ct_is_point : Value} {f_is_point : Addr}
    {od_Table___init__ an_Table___init__ : Option Addr} {sl_Table___init__ : Array (Option Value)} {oc_Table___init__ kV_Table___init__ dc_Table___init__ pm_Table___init__ cd_Table___init__ ct_Table___init__ : Value} {f_Table___init__ : Addr}
    {od_is_name an_is_name : Option Addr} {sl_is_name : Array (Option Value)} {oc_is_name kV_is_name dc_is_name pm_is_name cd_is_name ct_is_name : Value} {f_is_name : Addr}
    {od_is_ball an_is_ball : Option Addr} {sl_is_ball : Array (Option Value)} {oc_is_ball kV_is_ball dc_is_ball pm_is_ball cd_is_ball ct_is_ball : Value} {f_is_ball : Addr}
    {od_check_ball an_check_ball : Option Addr} {sl_check_ball : Array (Option Value)} {oc_check_ball kV_check_ball dc_check_ball pm_check_ball cd_check_ball ct_check_ball : Value} {f_check_ball : Addr}
    {od_inverse an_inverse : Option Addr} {sl_inverse : Array (Option Value)} {oc_inverse kV_inverse dc_inverse pm_inverse cd_inverse ct_inverse : Value} {f_inverse : Addr}
    {od_chinese an_chinese : Option Addr} {sl_chinese : Array (Option Value)} {oc_chinese kV_chinese dc_chinese pm_chinese cd_chinese ct_chinese : Value} {f_chinese : Addr}
    {od_united an_united : Option Addr} {sl_united : Array (Option Value)} {oc_united kV_united dc_united pm_united cd_united ct_united : Value} {f_united : Addr}
    {od_solved an_solved : Option Addr} {sl_solved : Array (Option Value)} {oc_solved kV_solved dc_solved pm_solved cd_solved ct_solved : Value} {f_solved : Addr}
    {od_meeting_classes an_meeting_classes : Option Addr} {sl_meeting_classes : Array (Option Value)} {oc_meeting_classes kV_meeting_classes dc_meeting_classes pm_meeting_classes cd_meeting_classes ct_meeting_classes : Value} {f_meeting_classes : Addr}
    {od_part_classes an_part_classes : Option Addr} {sl_part_classes : Array (Option Value)} {oc_part_classes kV_part_classes dc_part_classes pm_part_classes cd_part_classes ct_part_classes : Value} {f_part_classes : Addr}
    {od_never an_never : Option Addr} {sl_never : Array (Option Value)} {oc_never kV_never dc_never pm_never cd_never ct_never : Value} {f_never : Addr}
    {od_shows an_shows : Option Addr} {sl_shows : Array (Option Value)} {oc_shows kV_shows dc_shows pm_shows cd_shows ct_shows : Value} {f_shows : Addr}
    {od_check_never an_check_never : Option Addr} {sl_check_never : Array (Option Value)} {oc_check_never kV_check_never dc_check_never pm_check_never cd_check_never ct_check_never : Value} {f_check_never : Addr}
    {od_never_text an_never_text : Option Addr} {sl_never_text : Array (Option Value)} {oc_never_text kV_never_text dc_never_text pm_never_text cd_never_text ct_never_text : Value} {f_never_text : Addr}
    {od_is_number an_is_number : Option Addr} {sl_is_number : Array (Option Value)} {oc_is_number kV_is_number dc_is_number pm_is_number cd_is_number ct_is_number : Value} {f_is_number : Addr}
    {od_are_numbers an_are_numbers : Option Addr} {sl_are_numbers : Array (Option Value)} {oc_are_numbers kV_are_numbers dc_are_numbers pm_are_numbers cd_are_numbers ct_are_numbers : Value} {f_are_numbers : Addr}
    {od_parse_never an_parse_never : Option Addr} {sl_parse_never : Array (Option Value)} {oc_parse_never kV_parse_never dc_parse_never pm_parse_never cd_parse_never ct_parse_never : Value} {f_parse_never : Addr}
    {od_check_text an_check_text : Option Addr} {sl_check_text : Array (Option Value)} {oc_check_text kV_check_text dc_check_text pm_check_text cd_check_text ct_check_text : Value} {f_check_text : Addr}
    {od__law_row an__law_row : Option Addr} {sl__law_row : Array (Option Value)} {oc__law_row kV__law_row dc__law_row pm__law_row cd__law_row ct__law_row : Value} {f__law_row : Addr}
    {od__law_numbers an__law_numbers : Option Addr} {sl__law_numbers : Array (Option Value)} {oc__law_numbers kV__law_numbers dc__law_numbers pm__law_numbers cd__law_numbers ct__law_numbers : Value} {f__law_numbers : Addr}
    {od__law_table an__law_table : Option Addr} {sl__law_table : Array (Option Value)} {oc__law_table kV__law_table dc__law_table pm__law_table cd__law_table ct__law_table : Value} {f__law_table : Addr}
    {od__law_ball an__law_ball : Option Addr} {sl__law_ball : Array (Option Value)} {oc__law_ball kV__law_ball dc__law_ball pm__law_ball cd__law_ball ct__law_ball : Value} {f__law_ball : Addr}
    {od__law_walk an__law_walk : Option Addr} {sl__law_walk : Array (Option Value)} {oc__law_walk kV__law_walk dc__law_walk pm__law_walk cd__law_walk ct__law_walk : Value} {f__law_walk : Addr}
    {od__law_meet an__law_meet : Option Addr} {sl__law_meet : Array (Option Value)} {oc__law_meet kV__law_meet dc__law_meet pm__law_meet cd__law_meet ct__law_meet : Value} {f__law_meet : Addr}
    {od__law_rows an__law_rows : Option Addr} {sl__law_rows : Array (Option Value)} {oc__law_rows kV__law_rows dc__law_rows pm__law_rows cd__law_rows ct__law_rows : Value} {f__law_rows : Addr}
    {od_law an_law : Option Addr} {sl_law : Array (Option Value)} {oc_law kV_law dc_law pm_law cd_law ct_law : Value} {f_law : Addr}
    {T0 aN : Addr} {ocT : Value} {odT odN : Option Addr} {slT slN : Array (Option Value)} {nT nN : Nat}
    (ac_Table : PySem.W.nsIn K mainGlobals "Table" = some (some (.ref C_Table))) (pg_Table : PySem.W.plainGet K C_Table Str.empty = true) (hd_Table : PySem.W.hasDictIn K C_Table = true) (po_Table : PySem.W.plainOver K C_Table = true) (sa_Table : PySem.W.findIn K (.ref C_Table) "__setattr__" = some (some (.builtin "object.__setattr__"))) (mk_Table : PySem.W.makesIn K C_Table = true) (kc_Table : PySem.W.keepIn K (.ref C_Table) = true)
    (n_width : PySem.W.findIn K (.ref C_Table) "width" = some none)
    (n_height : PySem.W.findIn K (.ref C_Table) "height" = some none)
    (n_pockets : PySem.W.findIn K (.ref C_Table) "pockets" = some none)
    (z_range : PySem.W.nsIn K mainGlobals "range" = some none)
    (z_int : PySem.W.nsIn K mainGlobals "int" = some none)
    (z_abs : PySem.W.nsIn K mainGlobals "abs" = some none)
    (z_len : PySem.W.nsIn K mainGlobals "len" = some none)
    (z_max : PySem.W.nsIn K mainGlobals "max" = some none)
    (z_all : PySem.W.nsIn K mainGlobals "all" = some none)
    (z_any : PySem.W.nsIn K mainGlobals "any" = some none)
    (z_tuple : PySem.W.nsIn K mainGlobals "tuple" = some none)
    (z_list : PySem.W.nsIn K mainGlobals "list" = some none)
    (z_sorted : PySem.W.nsIn K mainGlobals "sorted" = some none)
    (z_isinstance : PySem.W.nsIn K mainGlobals "isinstance" = some none)
    (z_enumerate : PySem.W.nsIn K mainGlobals "enumerate" = some none)
    (z_str : PySem.W.nsIn K mainGlobals "str" = some none)
    (z_bool : PySem.W.nsIn K mainGlobals "bool" = some none)
    (z_ValueError : PySem.W.nsIn K mainGlobals "ValueError" = some none)
    (v_MOST : PySem.W.nsIn K mainGlobals "MOST" = some (some (.int 1000000000000000000000000000000 t_MOST)))
    (v_MOST_POCKETS : PySem.W.nsIn K mainGlobals "MOST_POCKETS" = some (some (.int 12 t_MOST_POCKETS)))
    (v_NAME_CHARS : PySem.W.nsIn K mainGlobals "NAME_CHARS" = some (some (.str "abcdefghijklmnopqrstuvwxyz0123456789" t_NAME_CHARS)))
    (v_MOST_NAME_CHARS : PySem.W.nsIn K mainGlobals "MOST_NAME_CHARS" = some (some (.int 12 t_MOST_NAME_CHARS)))
    (v_DIGITS : PySem.W.nsIn K mainGlobals "DIGITS" = some (some (.str "0123456789" t_DIGITS)))
    (v_MOST_DIGITS : PySem.W.nsIn K mainGlobals "MOST_DIGITS" = some (some (.int 70 t_MOST_DIGITS)))
    (v_PAIR_NUMBERS : PySem.W.nsIn K mainGlobals "PAIR_NUMBERS" = some (some (.int 5 t_PAIR_NUMBERS)))
    (g_gcd : PySem.W.nsIn K mainGlobals "gcd" = some (some (.builtin "math.gcd")))
    (v_WHOLE : PySem.W.nsIn K mainGlobals "WHOLE" = some (some (.ref aW))) (l_WHOLE : K.lookup aW = some ⟨.type "list", none, .seq #[.ref aE] nW, slW⟩) (l_WHOLE0 : K.lookup aE = some ⟨.type "tuple", odE, .seq #[.int 0 tE1, .int 1 tE2] nE, slE⟩)
    (eg_InvalidTable : PySem.W.nsIn K mainGlobals "InvalidTable" = some (some (.ref C_InvalidTable))) (ek_InvalidTable : PySem.W.keepIn K (.ref C_InvalidTable) = true) (xq_InvalidTable : PySem.W.excIn K C_InvalidTable [.type "ValueError", .type "Exception", .type "BaseException", .type "object"] "ValueError.__new__" = true) (eb_InvalidTable : PySem.W.subIn K (.ref C_InvalidTable) (.type "BaseException") = some true) (et_InvalidTable : PySem.W.typeIn K (.ref C_InvalidTable) = some (.type "type")) (eh_InvalidTable : PySem.W.hasDictIn K C_InvalidTable = true)
    (eg_InvalidBall : PySem.W.nsIn K mainGlobals "InvalidBall" = some (some (.ref C_InvalidBall))) (ek_InvalidBall : PySem.W.keepIn K (.ref C_InvalidBall) = true) (xq_InvalidBall : PySem.W.excIn K C_InvalidBall [.type "ValueError", .type "Exception", .type "BaseException", .type "object"] "ValueError.__new__" = true) (eb_InvalidBall : PySem.W.subIn K (.ref C_InvalidBall) (.type "BaseException") = some true) (et_InvalidBall : PySem.W.typeIn K (.ref C_InvalidBall) = some (.type "type")) (eh_InvalidBall : PySem.W.hasDictIn K C_InvalidBall = true)
    (es_InvalidBall_InvalidBall : PySem.W.subIn K (.ref C_InvalidBall) (.ref C_InvalidBall) = some true)
    (xg : PySem.W.findIn K (.ref C_InvalidBall) "__getattribute__" = some (some (.builtin "BaseException.__getattribute__"))) (xk : PySem.W.findIn K (.ref C_InvalidBall) "__getattr__" = some none) (xa : PySem.W.findIn K (.ref C_InvalidBall) "__class__" = some (some (.builtin "object.__class__"))) (xn : PySem.W.specialIn K (.builtin "object.__class__") "__get__" = some (some (.builtin "getset_descriptor.__get__"))) (xt : PySem.W.takesIn K (.builtin "object.__class__") = some true) (xm : PySem.W.mroIn K C_InvalidBall (.type "object") = some true) (es_xv : PySem.W.kitOne K (.ref C_InvalidBall) (.type "ValueError") = some true)
    (a_require : PySem.W.nsIn K mainGlobals "require" = some (some (.ref f_require))) (l_require : K.lookup f_require = some ⟨oc_require, od_require, .func (PySem.W.fnOf "require" "require" (defArgs s_require) (defBody s_require) (defScope s_require) .none kV_require dc_require pm_require an_require cd_require ct_require), sl_require⟩) (c_require : PySem.W.codeIn K cd_require "require" = true) (k_require : PySem.W.keepIn K (.ref f_require) = true)
    (a_is_point : PySem.W.findIn K (.ref C_Table) "is_point" = some (some (.ref f_is_point))) (i_is_point : PySem.W.isFn K (.ref f_is_point) = true) (l_is_point : K.lookup f_is_point = some ⟨oc_is_point, od_is_point, .func (PySem.W.fnOf "is_point" "Table.is_point" (defArgs s_is_point) (defBody s_is_point) (defScope s_is_point) .none kV_is_point dc_is_point pm_is_point an_is_point cd_is_point ct_is_point), sl_is_point⟩) (c_is_point : PySem.W.codeIn K cd_is_point "Table.is_point" = true) (k_is_point : PySem.W.keepIn K (.ref f_is_point) = true)
    (a_Table___init__ : PySem.W.findIn K (.ref C_Table) "__init__" = some (some (.ref f_Table___init__))) (i_Table___init__ : PySem.W.isFn K (.ref f_Table___init__) = true) (l_Table___init__ : K.lookup f_Table___init__ = some ⟨oc_Table___init__, od_Table___init__, .func (PySem.W.fnOf "__init__" "Table.__init__" (defArgs s_Table___init__) (defBody s_Table___init__) (defScope s_Table___init__) (.ref T0) kV_Table___init__ dc_Table___init__ pm_Table___init__ an_Table___init__ cd_Table___init__ ct_Table___init__), sl_Table___init__⟩) (c_Table___init__ : PySem.W.codeIn K cd_Table___init__ "Table.__init__" = true) (k_Table___init__ : PySem.W.keepIn K (.ref f_Table___init__) = true)
    (a_is_name : PySem.W.nsIn K mainGlobals "is_name" = some (some (.ref f_is_name))) (l_is_name : K.lookup f_is_name = some ⟨oc_is_name, od_is_name, .func (PySem.W.fnOf "is_name" "is_name" (defArgs s_is_name) (defBody s_is_name) (defScope s_is_name) .none kV_is_name dc_is_name pm_is_name an_is_name cd_is_name ct_is_name), sl_is_name⟩) (c_is_name : PySem.W.codeIn K cd_is_name "is_name" = true) (k_is_name : PySem.W.keepIn K (.ref f_is_name) = true)
    (a_is_ball : PySem.W.nsIn K mainGlobals "is_ball" = some (some (.ref f_is_ball))) (l_is_ball : K.lookup f_is_ball = some ⟨oc_is_ball, od_is_ball, .func (PySem.W.fnOf "is_ball" "is_ball" (defArgs s_is_ball) (defBody s_is_ball) (defScope s_is_ball) .none kV_is_ball dc_is_ball pm_is_ball an_is_ball cd_is_ball ct_is_ball), sl_is_ball⟩) (c_is_ball : PySem.W.codeIn K cd_is_ball "is_ball" = true) (k_is_ball : PySem.W.keepIn K (.ref f_is_ball) = true)
    (a_check_ball : PySem.W.nsIn K mainGlobals "check_ball" = some (some (.ref f_check_ball))) (l_check_ball : K.lookup f_check_ball = some ⟨oc_check_ball, od_check_ball, .func (PySem.W.fnOf "check_ball" "check_ball" (defArgs s_check_ball) (defBody s_check_ball) (defScope s_check_ball) .none kV_check_ball dc_check_ball pm_check_ball an_check_ball cd_check_ball ct_check_ball), sl_check_ball⟩) (c_check_ball : PySem.W.codeIn K cd_check_ball "check_ball" = true) (k_check_ball : PySem.W.keepIn K (.ref f_check_ball) = true)
    (a_inverse : PySem.W.nsIn K mainGlobals "inverse" = some (some (.ref f_inverse))) (l_inverse : K.lookup f_inverse = some ⟨oc_inverse, od_inverse, .func (PySem.W.fnOf "inverse" "inverse" (defArgs s_inverse) (defBody s_inverse) (defScope s_inverse) .none kV_inverse dc_inverse pm_inverse an_inverse cd_inverse ct_inverse), sl_inverse⟩) (c_inverse : PySem.W.codeIn K cd_inverse "inverse" = true) (k_inverse : PySem.W.keepIn K (.ref f_inverse) = true)
    (a_chinese : PySem.W.nsIn K mainGlobals "chinese" = some (some (.ref f_chinese))) (l_chinese : K.lookup f_chinese = some ⟨oc_chinese, od_chinese, .func (PySem.W.fnOf "chinese" "chinese" (defArgs s_chinese) (defBody s_chinese) (defScope s_chinese) .none kV_chinese dc_chinese pm_chinese an_chinese cd_chinese ct_chinese), sl_chinese⟩) (c_chinese : PySem.W.codeIn K cd_chinese "chinese" = true) (k_chinese : PySem.W.keepIn K (.ref f_chinese) = true)
    (a_united : PySem.W.nsIn K mainGlobals "united" = some (some (.ref f_united))) (l_united : K.lookup f_united = some ⟨oc_united, od_united, .func (PySem.W.fnOf "united" "united" (defArgs s_united) (defBody s_united) (defScope s_united) .none kV_united dc_united pm_united an_united cd_united ct_united), sl_united⟩) (c_united : PySem.W.codeIn K cd_united "united" = true) (k_united : PySem.W.keepIn K (.ref f_united) = true)
    (a_solved : PySem.W.nsIn K mainGlobals "solved" = some (some (.ref f_solved))) (l_solved : K.lookup f_solved = some ⟨oc_solved, od_solved, .func (PySem.W.fnOf "solved" "solved" (defArgs s_solved) (defBody s_solved) (defScope s_solved) .none kV_solved dc_solved pm_solved an_solved cd_solved ct_solved), sl_solved⟩) (c_solved : PySem.W.codeIn K cd_solved "solved" = true) (k_solved : PySem.W.keepIn K (.ref f_solved) = true)
    (a_meeting_classes : PySem.W.nsIn K mainGlobals "meeting_classes" = some (some (.ref f_meeting_classes))) (l_meeting_classes : K.lookup f_meeting_classes = some ⟨oc_meeting_classes, od_meeting_classes, .func (PySem.W.fnOf "meeting_classes" "meeting_classes" (defArgs s_meeting_classes) (defBody s_meeting_classes) (defScope s_meeting_classes) .none kV_meeting_classes dc_meeting_classes pm_meeting_classes an_meeting_classes cd_meeting_classes ct_meeting_classes), sl_meeting_classes⟩) (c_meeting_classes : PySem.W.codeIn K cd_meeting_classes "meeting_classes" = true) (k_meeting_classes : PySem.W.keepIn K (.ref f_meeting_classes) = true)
    (a_part_classes : PySem.W.nsIn K mainGlobals "part_classes" = some (some (.ref f_part_classes))) (l_part_classes : K.lookup f_part_classes = some ⟨oc_part_classes, od_part_classes, .func (PySem.W.fnOf "part_classes" "part_classes" (defArgs s_part_classes) (defBody s_part_classes) (defScope s_part_classes) .none kV_part_classes dc_part_classes pm_part_classes an_part_classes cd_part_classes ct_part_classes), sl_part_classes⟩) (c_part_classes : PySem.W.codeIn K cd_part_classes "part_classes" = true) (k_part_classes : PySem.W.keepIn K (.ref f_part_classes) = true)
    (a_never : PySem.W.nsIn K mainGlobals "never" = some (some (.ref f_never))) (l_never : K.lookup f_never = some ⟨oc_never, od_never, .func (PySem.W.fnOf "never" "never" (defArgs s_never) (defBody s_never) (defScope s_never) .none kV_never dc_never pm_never an_never cd_never ct_never), sl_never⟩) (c_never : PySem.W.codeIn K cd_never "never" = true) (k_never : PySem.W.keepIn K (.ref f_never) = true)
    (a_shows : PySem.W.nsIn K mainGlobals "shows" = some (some (.ref f_shows))) (l_shows : K.lookup f_shows = some ⟨oc_shows, od_shows, .func (PySem.W.fnOf "shows" "shows" (defArgs s_shows) (defBody s_shows) (defScope s_shows) .none kV_shows dc_shows pm_shows an_shows cd_shows ct_shows), sl_shows⟩) (c_shows : PySem.W.codeIn K cd_shows "shows" = true) (k_shows : PySem.W.keepIn K (.ref f_shows) = true)
    (a_check_never : PySem.W.nsIn K mainGlobals "check_never" = some (some (.ref f_check_never))) (l_check_never : K.lookup f_check_never = some ⟨oc_check_never, od_check_never, .func (PySem.W.fnOf "check_never" "check_never" (defArgs s_check_never) (defBody s_check_never) (defScope s_check_never) .none kV_check_never dc_check_never pm_check_never an_check_never cd_check_never ct_check_never), sl_check_never⟩) (c_check_never : PySem.W.codeIn K cd_check_never "check_never" = true) (k_check_never : PySem.W.keepIn K (.ref f_check_never) = true)
    (a_never_text : PySem.W.nsIn K mainGlobals "never_text" = some (some (.ref f_never_text))) (l_never_text : K.lookup f_never_text = some ⟨oc_never_text, od_never_text, .func (PySem.W.fnOf "never_text" "never_text" (defArgs s_never_text) (defBody s_never_text) (defScope s_never_text) .none kV_never_text dc_never_text pm_never_text an_never_text cd_never_text ct_never_text), sl_never_text⟩) (c_never_text : PySem.W.codeIn K cd_never_text "never_text" = true) (k_never_text : PySem.W.keepIn K (.ref f_never_text) = true)
    (a_is_number : PySem.W.nsIn K mainGlobals "is_number" = some (some (.ref f_is_number))) (l_is_number : K.lookup f_is_number = some ⟨oc_is_number, od_is_number, .func (PySem.W.fnOf "is_number" "is_number" (defArgs s_is_number) (defBody s_is_number) (defScope s_is_number) .none kV_is_number dc_is_number pm_is_number an_is_number cd_is_number ct_is_number), sl_is_number⟩) (c_is_number : PySem.W.codeIn K cd_is_number "is_number" = true) (k_is_number : PySem.W.keepIn K (.ref f_is_number) = true)
    (a_are_numbers : PySem.W.nsIn K mainGlobals "are_numbers" = some (some (.ref f_are_numbers))) (l_are_numbers : K.lookup f_are_numbers = some ⟨oc_are_numbers, od_are_numbers, .func (PySem.W.fnOf "are_numbers" "are_numbers" (defArgs s_are_numbers) (defBody s_are_numbers) (defScope s_are_numbers) .none kV_are_numbers dc_are_numbers pm_are_numbers an_are_numbers cd_are_numbers ct_are_numbers), sl_are_numbers⟩) (c_are_numbers : PySem.W.codeIn K cd_are_numbers "are_numbers" = true) (k_are_numbers : PySem.W.keepIn K (.ref f_are_numbers) = true)
    (a_parse_never : PySem.W.nsIn K mainGlobals "parse_never" = some (some (.ref f_parse_never))) (l_parse_never : K.lookup f_parse_never = some ⟨oc_parse_never, od_parse_never, .func (PySem.W.fnOf "parse_never" "parse_never" (defArgs s_parse_never) (defBody s_parse_never) (defScope s_parse_never) .none kV_parse_never dc_parse_never pm_parse_never an_parse_never cd_parse_never ct_parse_never), sl_parse_never⟩) (c_parse_never : PySem.W.codeIn K cd_parse_never "parse_never" = true) (k_parse_never : PySem.W.keepIn K (.ref f_parse_never) = true)
    (a_check_text : PySem.W.nsIn K mainGlobals "check_text" = some (some (.ref f_check_text))) (l_check_text : K.lookup f_check_text = some ⟨oc_check_text, od_check_text, .func (PySem.W.fnOf "check_text" "check_text" (defArgs s_check_text) (defBody s_check_text) (defScope s_check_text) .none kV_check_text dc_check_text pm_check_text an_check_text cd_check_text ct_check_text), sl_check_text⟩) (c_check_text : PySem.W.codeIn K cd_check_text "check_text" = true) (k_check_text : PySem.W.keepIn K (.ref f_check_text) = true)
    (a__law_row : PySem.W.nsIn K mainGlobals "_law_row" = some (some (.ref f__law_row))) (l__law_row : K.lookup f__law_row = some ⟨oc__law_row, od__law_row, .func (PySem.W.fnOf "_law_row" "_law_row" (defArgs s__law_row) (defBody s__law_row) (defScope s__law_row) .none kV__law_row dc__law_row pm__law_row an__law_row cd__law_row ct__law_row), sl__law_row⟩) (c__law_row : PySem.W.codeIn K cd__law_row "_law_row" = true) (k__law_row : PySem.W.keepIn K (.ref f__law_row) = true)
    (a__law_numbers : PySem.W.nsIn K mainGlobals "_law_numbers" = some (some (.ref f__law_numbers))) (l__law_numbers : K.lookup f__law_numbers = some ⟨oc__law_numbers, od__law_numbers, .func (PySem.W.fnOf "_law_numbers" "_law_numbers" (defArgs s__law_numbers) (defBody s__law_numbers) (defScope s__law_numbers) .none kV__law_numbers dc__law_numbers pm__law_numbers an__law_numbers cd__law_numbers ct__law_numbers), sl__law_numbers⟩) (c__law_numbers : PySem.W.codeIn K cd__law_numbers "_law_numbers" = true) (k__law_numbers : PySem.W.keepIn K (.ref f__law_numbers) = true)
    (a__law_table : PySem.W.nsIn K mainGlobals "_law_table" = some (some (.ref f__law_table))) (l__law_table : K.lookup f__law_table = some ⟨oc__law_table, od__law_table, .func (PySem.W.fnOf "_law_table" "_law_table" (defArgs s__law_table) (defBody s__law_table) (defScope s__law_table) .none kV__law_table dc__law_table pm__law_table an__law_table cd__law_table ct__law_table), sl__law_table⟩) (c__law_table : PySem.W.codeIn K cd__law_table "_law_table" = true) (k__law_table : PySem.W.keepIn K (.ref f__law_table) = true)
    (a__law_ball : PySem.W.nsIn K mainGlobals "_law_ball" = some (some (.ref f__law_ball))) (l__law_ball : K.lookup f__law_ball = some ⟨oc__law_ball, od__law_ball, .func (PySem.W.fnOf "_law_ball" "_law_ball" (defArgs s__law_ball) (defBody s__law_ball) (defScope s__law_ball) .none kV__law_ball dc__law_ball pm__law_ball an__law_ball cd__law_ball ct__law_ball), sl__law_ball⟩) (c__law_ball : PySem.W.codeIn K cd__law_ball "_law_ball" = true) (k__law_ball : PySem.W.keepIn K (.ref f__law_ball) = true)
    (a__law_walk : PySem.W.nsIn K mainGlobals "_law_walk" = some (some (.ref f__law_walk))) (l__law_walk : K.lookup f__law_walk = some ⟨oc__law_walk, od__law_walk, .func (PySem.W.fnOf "_law_walk" "_law_walk" (defArgs s__law_walk) (defBody s__law_walk) (defScope s__law_walk) .none kV__law_walk dc__law_walk pm__law_walk an__law_walk cd__law_walk ct__law_walk), sl__law_walk⟩) (c__law_walk : PySem.W.codeIn K cd__law_walk "_law_walk" = true) (k__law_walk : PySem.W.keepIn K (.ref f__law_walk) = true)
    (a__law_meet : PySem.W.nsIn K mainGlobals "_law_meet" = some (some (.ref f__law_meet))) (l__law_meet : K.lookup f__law_meet = some ⟨oc__law_meet, od__law_meet, .func (PySem.W.fnOf "_law_meet" "_law_meet" (defArgs s__law_meet) (defBody s__law_meet) (defScope s__law_meet) .none kV__law_meet dc__law_meet pm__law_meet an__law_meet cd__law_meet ct__law_meet), sl__law_meet⟩) (c__law_meet : PySem.W.codeIn K cd__law_meet "_law_meet" = true) (k__law_meet : PySem.W.keepIn K (.ref f__law_meet) = true)
    (a__law_rows : PySem.W.nsIn K mainGlobals "_law_rows" = some (some (.ref f__law_rows))) (l__law_rows : K.lookup f__law_rows = some ⟨oc__law_rows, od__law_rows, .func (PySem.W.fnOf "_law_rows" "_law_rows" (defArgs s__law_rows) (defBody s__law_rows) (defScope s__law_rows) .none kV__law_rows dc__law_rows pm__law_rows an__law_rows cd__law_rows ct__law_rows), sl__law_rows⟩) (c__law_rows : PySem.W.codeIn K cd__law_rows "_law_rows" = true) (k__law_rows : PySem.W.keepIn K (.ref f__law_rows) = true)
    (a_law : PySem.W.nsIn K mainGlobals "law" = some (some (.ref f_law))) (l_law : K.lookup f_law = some ⟨oc_law, od_law, .func (PySem.W.fnOf "law" "law" (defArgs s_law) (defBody s_law) (defScope s_law) .none kV_law dc_law pm_law an_law cd_law ct_law), sl_law⟩) (c_law : PySem.W.codeIn K cd_law "law" = true) (k_law : PySem.W.keepIn K (.ref f_law) = true)
    (l_T0 : K.lookup T0 = some ⟨ocT, odT, .seq #[.ref aN] nT, slT⟩) (l_aN : K.lookup aN = some ⟨.type "tuple", odN, .seq #[] nN, slN⟩) :
    ∃ fd : FuncData, (∀ (s : Shared) (v : Value), BindsTo s fd ⟨[v], []⟩ [("_law_script", v)]) ∧ ∀ base : Heap, K.In base → base.Ns mainGlobals mg → FnOk P w K mg base CX0 6 fa fd ["_law_script"] (spD K W_law) := by
  have e := hfa.symm.trans (PySem.W.mg_of X G a_law)
  cases e
  have hW : ∀ {H : Hp}, SqL K H aW [.ref aE] := .inr ⟨_, #[.ref aE], nW, l_WHOLE, rfl, rfl, rfl, (by show 1 ≤ sizeLine; decide), .cons rfl .nil⟩
  have hE : ∀ {H : Hp}, SqT K H aE [.int 0, .int 1] := .inr ⟨_, #[.int 0 tE1, .int 1 tE2], nE, l_WHOLE0, rfl, rfl, (by show 2 ≤ sizeLine; decide), .cons ⟨_, rfl⟩ (.cons ⟨_, rfl⟩ .nil)⟩
  have hN : ∀ H : Hp, Dv K H (.ref aN) (.tup []) := fun H => .tup (.inr ⟨_, #[], nN, l_aN, rfl, rfl, (by show 0 ≤ sizeLine; exact Nat.zero_le _), .nil⟩) .nil
  have T : Tx K mg C_Table C_InvalidTable C_InvalidBall aW (fun i => [t_MOST, t_MOST_POCKETS, t_NAME_CHARS, t_MOST_NAME_CHARS, t_DIGITS, t_MOST_DIGITS, t_PAIR_NUMBERS].getD i t_MOST) :=
    { b_range := PySem.W.mg_none_of X G z_range,
      b_int := PySem.W.mg_none_of X G z_int,
      b_abs := PySem.W.mg_none_of X G z_abs,
      b_len := PySem.W.mg_none_of X G z_len,
      b_max := PySem.W.mg_none_of X G z_max,
      b_all := PySem.W.mg_none_of X G z_all,
      b_any := PySem.W.mg_none_of X G z_any,
      b_tuple := PySem.W.mg_none_of X G z_tuple,
      b_list := PySem.W.mg_none_of X G z_list,
      b_sorted := PySem.W.mg_none_of X G z_sorted,
      b_isinstance := PySem.W.mg_none_of X G z_isinstance,
      b_enumerate := PySem.W.mg_none_of X G z_enumerate,
      b_str := PySem.W.mg_none_of X G z_str,
      b_bool := PySem.W.mg_none_of X G z_bool,
      b_ValueError := PySem.W.mg_none_of X G z_ValueError,
      g_gcd := PySem.W.mg_of X G g_gcd,
      m_MOST := PySem.W.mg_of X G v_MOST,
      m_MOST_POCKETS := PySem.W.mg_of X G v_MOST_POCKETS,
      m_NAME_CHARS := PySem.W.mg_of X G v_NAME_CHARS,
      m_MOST_NAME_CHARS := PySem.W.mg_of X G v_MOST_NAME_CHARS,
      m_DIGITS := PySem.W.mg_of X G v_DIGITS,
      m_MOST_DIGITS := PySem.W.mg_of X G v_MOST_DIGITS,
      m_PAIR_NUMBERS := PySem.W.mg_of X G v_PAIR_NUMBERS,
      m_WHOLE := PySem.W.mg_of X G v_WHOLE,
      d_WHOLE := fun H => .klst hW (.cons (.tup hE (.cons (.int 0) (.cons (.int 1) .nil))) .nil),
      c_Table := PySem.W.mg_of X G ac_Table,
      cl_Table := ⟨pg_Table, hd_Table, po_Table, sa_Table⟩,
      n_width := n_width,
      n_height := n_height,
      n_pockets := n_pockets,
      e_InvalidTable := ⟨PySem.W.mg_of X G eg_InvalidTable, ek_InvalidTable, xq_InvalidTable, eb_InvalidTable, et_InvalidTable⟩,
      x_InvalidTable := ⟨eh_InvalidTable, eb_InvalidTable, et_InvalidTable⟩,
      e_InvalidBall := ⟨PySem.W.mg_of X G eg_InvalidBall, ek_InvalidBall, xq_InvalidBall, eb_InvalidBall, et_InvalidBall⟩,
      x_InvalidBall := ⟨eh_InvalidBall, eb_InvalidBall, et_InvalidBall⟩,
      s_InvalidBall_InvalidBall := es_InvalidBall_InvalidBall,
      x61 := ⟨xg, xk, eb_InvalidBall, eh_InvalidBall, xa, xn, xt, xm⟩,
      v61 := es_xv }
  have F_require := fun_mk (st := s_require) l_require c_require k_require
  have b_require := F_require.binds (ps := ["holds"]) fun _ _ _ _ _ _ us hl => match us, hl with | [_], _ => rfl
  have F_is_point := fun_mk (st := s_is_point) l_is_point c_is_point k_is_point
  have b_is_point := F_is_point.binds (ps := ["self", "point"]) fun _ _ _ _ _ _ us hl => match us, hl with | [_, _], _ => rfl
  have F_Table___init__ : FunD K "__init__" "Table.__init__" (defArgs s_Table___init__) (defBody s_Table___init__) (defScope s_Table___init__) [.ref aN] [] f_Table___init__ _ :=
    ⟨⟨_, _, _, _, _, _, _, _, _, _, rfl, l_Table___init__, c_Table___init__, .inr ⟨by simp, T0, _, [.ref aN], _, rfl, l_T0, rfl, .cons rfl .nil⟩, .inl rfl⟩, k_Table___init__⟩
  obtain ⟨us_0, hv_0, b_Table___init__⟩ := F_Table___init__.binds1 (ps := ["self", "width", "height", "pockets"]) 4 1 (by simp) (by rfl) (fun T kV doc pm an cdv ct us its h1 h2 => match us, its, h1, h2 with | [_, _, _, _], [_], _, _ => ⟨_, rfl, rfl⟩)
  cases hv_0
  obtain ⟨us_T, hv_T, bd_T⟩ := F_Table___init__.binds1 (ps := ["self", "width", "height", "pockets"]) 3 0 (by simp) (by rfl) (fun T kV doc pm an cdv ct us its h1 h2 => match us, its, h1, h2 with | [_, _, _], [_], _, _ => ⟨_, rfl, rfl⟩)
  cases hv_T with
  | cons h1_T h2_T =>
  cases h2_T
  have Fn_Table___init__ : InD K C_Table "Table.__init__" s_Table___init__ ["self", "width", "height", "pockets"] := ⟨_, _, _, _, F_Table___init__, ⟨mk_Table, a_Table___init__, i_Table___init__, kc_Table⟩, b_Table___init__, bd_T, .cons h1_T .nil, hN⟩
  have F_is_name := fun_mk (st := s_is_name) l_is_name c_is_name k_is_name
  have b_is_name := F_is_name.binds (ps := ["text"]) fun _ _ _ _ _ _ us hl => match us, hl with | [_], _ => rfl
  have F_is_ball := fun_mk (st := s_is_ball) l_is_ball c_is_ball k_is_ball
  have b_is_ball := F_is_ball.binds (ps := ["table", "ball"]) fun _ _ _ _ _ _ us hl => match us, hl with | [_, _], _ => rfl
  have F_check_ball := fun_mk (st := s_check_ball) l_check_ball c_check_ball k_check_ball
  have b_check_ball := F_check_ball.binds (ps := ["table", "ball"]) fun _ _ _ _ _ _ us hl => match us, hl with | [_, _], _ => rfl
  have F_inverse := fun_mk (st := s_inverse) l_inverse c_inverse k_inverse
  have b_inverse := F_inverse.binds (ps := ["number", "modulus"]) fun _ _ _ _ _ _ us hl => match us, hl with | [_, _], _ => rfl
  have F_chinese := fun_mk (st := s_chinese) l_chinese c_chinese k_chinese
  have b_chinese := F_chinese.binds (ps := ["one", "other"]) fun _ _ _ _ _ _ us hl => match us, hl with | [_, _], _ => rfl
  have F_united := fun_mk (st := s_united) l_united c_united k_united
  have b_united := F_united.binds (ps := ["one", "other"]) fun _ _ _ _ _ _ us hl => match us, hl with | [_, _], _ => rfl
  have F_solved := fun_mk (st := s_solved) l_solved c_solved k_solved
  have b_solved := F_solved.binds (ps := ["factor", "right", "modulus"]) fun _ _ _ _ _ _ us hl => match us, hl with | [_, _, _], _ => rfl
  have F_meeting_classes := fun_mk (st := s_meeting_classes) l_meeting_classes c_meeting_classes k_meeting_classes
  have b_meeting_classes := F_meeting_classes.binds (ps := ["size", "at", "step", "other", "move"]) fun _ _ _ _ _ _ us hl => match us, hl with | [_, _, _, _, _], _ => rfl
  have F_part_classes := fun_mk (st := s_part_classes) l_part_classes c_part_classes k_part_classes
  have b_part_classes := F_part_classes.binds (ps := ["table", "one", "other"]) fun _ _ _ _ _ _ us hl => match us, hl with | [_, _, _], _ => rfl
  have F_never := fun_mk (st := s_never) l_never c_never k_never
  have b_never := F_never.binds (ps := ["table", "one", "other"]) fun _ _ _ _ _ _ us hl => match us, hl with | [_, _, _], _ => rfl
  have F_shows := fun_mk (st := s_shows) l_shows c_shows k_shows
  have b_shows := F_shows.binds (ps := ["row", "left", "right"]) fun _ _ _ _ _ _ us hl => match us, hl with | [_, _, _], _ => rfl
  have F_check_never := fun_mk (st := s_check_never) l_check_never c_check_never k_check_never
  have b_check_never := F_check_never.binds (ps := ["table", "one", "other", "rows"]) fun _ _ _ _ _ _ us hl => match us, hl with | [_, _, _, _], _ => rfl
  have F_never_text := fun_mk (st := s_never_text) l_never_text c_never_text k_never_text
  have b_never_text := F_never_text.binds (ps := ["rows"]) fun _ _ _ _ _ _ us hl => match us, hl with | [_], _ => rfl
  have F_is_number := fun_mk (st := s_is_number) l_is_number c_is_number k_is_number
  have b_is_number := F_is_number.binds (ps := ["word"]) fun _ _ _ _ _ _ us hl => match us, hl with | [_], _ => rfl
  have F_are_numbers := fun_mk (st := s_are_numbers) l_are_numbers c_are_numbers k_are_numbers
  have b_are_numbers := F_are_numbers.binds (ps := ["words", "many"]) fun _ _ _ _ _ _ us hl => match us, hl with | [_, _], _ => rfl
  have F_parse_never := fun_mk (st := s_parse_never) l_parse_never c_parse_never k_parse_never
  have b_parse_never := F_parse_never.binds (ps := ["text"]) fun _ _ _ _ _ _ us hl => match us, hl with | [_], _ => rfl
  have F_check_text := fun_mk (st := s_check_text) l_check_text c_check_text k_check_text
  have b_check_text := F_check_text.binds (ps := ["table", "one", "other", "text"]) fun _ _ _ _ _ _ us hl => match us, hl with | [_, _, _, _], _ => rfl
  have F__law_row := fun_mk (st := s__law_row) l__law_row c__law_row k__law_row
  have b__law_row := F__law_row.binds (ps := ["_law_cell", "_law_many"]) fun _ _ _ _ _ _ us hl => match us, hl with | [_, _], _ => rfl
  have F__law_numbers := fun_mk (st := s__law_numbers) l__law_numbers c__law_numbers k__law_numbers
  have b__law_numbers := F__law_numbers.binds (ps := ["_law_script", "_law_many"]) fun _ _ _ _ _ _ us hl => match us, hl with | [_, _], _ => rfl
  have F__law_table := fun_mk (st := s__law_table) l__law_table c__law_table k__law_table
  have b__law_table := F__law_table.binds (ps := ["_law_numbers_here", "_law_at"]) fun _ _ _ _ _ _ us hl => match us, hl with | [_, _], _ => rfl
  have F__law_ball := fun_mk (st := s__law_ball) l__law_ball c__law_ball k__law_ball
  have b__law_ball := F__law_ball.binds (ps := ["_law_numbers_here", "_law_at", "_law_name", "_law_width", "_law_height"]) fun _ _ _ _ _ _ us hl => match us, hl with | [_, _, _, _, _], _ => rfl
  have F__law_walk := fun_mk (st := s__law_walk) l__law_walk c__law_walk k__law_walk
  have b__law_walk := F__law_walk.binds (ps := ["_law_width", "_law_height", "_law_ball_here", "_law_many"]) fun _ _ _ _ _ _ us hl => match us, hl with | [_, _, _, _], _ => rfl
  have F__law_meet := fun_mk (st := s__law_meet) l__law_meet c__law_meet k__law_meet
  have b__law_meet := F__law_meet.binds (ps := ["_law_width", "_law_height", "_law_one", "_law_other"]) fun _ _ _ _ _ _ us hl => match us, hl with | [_, _, _, _], _ => rfl
  have F__law_rows := fun_mk (st := s__law_rows) l__law_rows c__law_rows k__law_rows
  have b__law_rows := F__law_rows.binds (ps := ["_law_rows_here", "_law_numbers_here"]) fun _ _ _ _ _ _ us hl => match us, hl with | [_, _], _ => rfl
  have F_law := fun_mk (st := s_law) l_law c_law k_law
  refine ⟨PySem.W.fnOf "law" "law" (defArgs s_law) (defBody s_law) (defScope s_law) .none kV_law dc_law pm_law an_law cd_law ct_law, fun s v => .of_eq rfl, fun base _ _ => ?_⟩
  have o_require := ok_require (P := P) (w := w) (base := base) T ⟨_, _, F_require, PySem.W.mg_of X G a_require, b_require⟩ 
  have o_is_point := ok_is_point (P := P) (w := w) (base := base) T ⟨_, _, F_is_point, ⟨a_is_point, i_is_point, k_is_point⟩, b_is_point⟩ 
  have o_Table___init__ := ok_Table___init__ (P := P) (w := w) (base := base) T Fn_Table___init__ o_require o_is_point
  have o_is_name := ok_is_name (P := P) (w := w) (base := base) T ⟨_, _, F_is_name, PySem.W.mg_of X G a_is_name, b_is_name⟩ 
  have o_is_ball := ok_is_ball (P := P) (w := w) (base := base) T ⟨_, _, F_is_ball, PySem.W.mg_of X G a_is_ball, b_is_ball⟩ o_is_name o_is_point
  have o_check_ball := ok_check_ball (P := P) (w := w) (base := base) T ⟨_, _, F_check_ball, PySem.W.mg_of X G a_check_ball, b_check_ball⟩ o_is_ball
  have o_inverse := ok_inverse (P := P) (w := w) (base := base) T ⟨_, _, F_inverse, PySem.W.mg_of X G a_inverse, b_inverse⟩ 
  have o_chinese := ok_chinese (P := P) (w := w) (base := base) T ⟨_, _, F_chinese, PySem.W.mg_of X G a_chinese, b_chinese⟩ o_inverse
  have o_united := ok_united (P := P) (w := w) (base := base) T ⟨_, _, F_united, PySem.W.mg_of X G a_united, b_united⟩ 
  have o_solved := ok_solved (P := P) (w := w) (base := base) T ⟨_, _, F_solved, PySem.W.mg_of X G a_solved, b_solved⟩ 
  have o_meeting_classes := ok_meeting_classes (P := P) (w := w) (base := base) T ⟨_, _, F_meeting_classes, PySem.W.mg_of X G a_meeting_classes, b_meeting_classes⟩ o_united o_solved
  have o_part_classes := ok_part_classes (P := P) (w := w) (base := base) T ⟨_, _, F_part_classes, PySem.W.mg_of X G a_part_classes, b_part_classes⟩ o_meeting_classes
  have o_never := ok_never (P := P) (w := w) (base := base) T ⟨_, _, F_never, PySem.W.mg_of X G a_never, b_never⟩ o_check_ball o_part_classes o_chinese
  have o_shows := ok_shows (P := P) (w := w) (base := base) T ⟨_, _, F_shows, PySem.W.mg_of X G a_shows, b_shows⟩ 
  have o_check_never := ok_check_never (P := P) (w := w) (base := base) T ⟨_, _, F_check_never, PySem.W.mg_of X G a_check_never, b_check_never⟩ o_check_ball o_part_classes o_shows
  have o_never_text := ok_never_text (P := P) (w := w) (base := base) T ⟨_, _, F_never_text, PySem.W.mg_of X G a_never_text, b_never_text⟩ 
  have o_is_number := ok_is_number (P := P) (w := w) (base := base) T ⟨_, _, F_is_number, PySem.W.mg_of X G a_is_number, b_is_number⟩ 
  have o_are_numbers := ok_are_numbers (P := P) (w := w) (base := base) T ⟨_, _, F_are_numbers, PySem.W.mg_of X G a_are_numbers, b_are_numbers⟩ o_is_number
  have o_parse_never := ok_parse_never (P := P) (w := w) (base := base) T ⟨_, _, F_parse_never, PySem.W.mg_of X G a_parse_never, b_parse_never⟩ o_are_numbers
  have o_check_text := ok_check_text (P := P) (w := w) (base := base) T ⟨_, _, F_check_text, PySem.W.mg_of X G a_check_text, b_check_text⟩ o_check_never o_parse_never
  have o__law_row := ok__law_row (P := P) (w := w) (base := base) T ⟨_, _, F__law_row, PySem.W.mg_of X G a__law_row, b__law_row⟩ 
  have o__law_numbers := ok__law_numbers (P := P) (w := w) (base := base) T ⟨_, _, F__law_numbers, PySem.W.mg_of X G a__law_numbers, b__law_numbers⟩ o__law_row
  have o__law_table := ok__law_table (P := P) (w := w) (base := base) T ⟨_, _, F__law_table, PySem.W.mg_of X G a__law_table, b__law_table⟩ 
  have o__law_ball := ok__law_ball (P := P) (w := w) (base := base) T ⟨_, _, F__law_ball, PySem.W.mg_of X G a__law_ball, b__law_ball⟩ 
  have o__law_walk := ok__law_walk (P := P) (w := w) (base := base) T ⟨_, _, F__law_walk, PySem.W.mg_of X G a__law_walk, b__law_walk⟩ 
  have o__law_meet := ok__law_meet (P := P) (w := w) (base := base) T ⟨_, _, F__law_meet, PySem.W.mg_of X G a__law_meet, b__law_meet⟩ o__law_walk
  have o__law_rows := ok__law_rows (P := P) (w := w) (base := base) T ⟨_, _, F__law_rows, PySem.W.mg_of X G a__law_rows, b__law_rows⟩ 
  exact ok_law T F_law o__law_numbers o__law_table o__law_ball o_Table___init__ o__law_meet o_never o_check_text o_never_text o__law_rows o_check_never
end Cu
open PySem PySem.W PyProof.Rows
set_option maxRecDepth 100000 in
set_option maxHeartbeats 0 in
theorem PySem.Challenge.cw_cushioned_k61_whole_checked_texts_holds : PySem.Challenge.rw_cushioned_k61_whole_checked_texts.Holds := by
  w_on; o_law; k_head; (case hw => w_witness2)
  k_fill
  refine L2.walk_of (l := PySem.Challenge.rw_cushioned_k61_whole_checked_texts) (n := 63) (k := 6) (x := "_law_script") (CX := fun _ => L2.CX0) (sp := fun w => Cu.spD _ Cu.W_law) rfl (by decide) rfl ⟨rfl, by decide, by decide⟩ (fun w h Y => PySem.W.kIn_of Y) ?F (fun w H a ns hl _ hS => Cu.law_ask hl hS) fun _ _ _ _ _ z => z
  case F =>
    intro w mg fa h KX G hmg
    refine' Cu.all_mk KX G hmg ?ac_Table ?pg_Table ?hd_Table ?po_Table ?sa_Table ?mk_Table ?kc_Table ?n_width ?n_height ?n_pockets ?z_range ?z_int ?z_abs ?z_len ?z_max ?z_all ?z_any ?z_tuple ?z_list ?z_sorted ?z_isinstance ?z_enumerate ?z_str ?z_bool ?z_ValueError ?v_MOST ?v_MOST_POCKETS ?v_NAME_CHARS ?v_MOST_NAME_CHARS ?v_DIGITS ?v_MOST_DIGITS ?v_PAIR_NUMBERS ?g_gcd ?v_WHOLE ?l_WHOLE ?l_WHOLE0 ?eg_InvalidTable ?ek_InvalidTable ?xq_InvalidTable ?eb_InvalidTable ?et_InvalidTable ?eh_InvalidTable ?eg_InvalidBall ?ek_InvalidBall ?xq_InvalidBall ?eb_InvalidBall ?et_InvalidBall ?eh_InvalidBall ?es_InvalidBall_InvalidBall ?xg ?xk ?xa ?xn ?xt ?xm ?es_xv ?a_require ?l_require ?c_require ?k_require ?a_is_point ?i_is_point ?l_is_point ?c_is_point ?k_is_point ?a_Table___init__ ?i_Table___init__ ?l_Table___init__ ?c_Table___init__ ?k_Table___init__ ?a_is_name ?l_is_name ?c_is_name ?k_is_name ?a_is_ball ?l_is_ball ?c_is_ball ?k_is_ball ?a_check_ball ?l_check_ball ?c_check_ball ?k_check_ball ?a_inverse ?l_inverse ?c_inverse ?k_inverse ?a_chinese ?l_chinese ?c_chinese ?k_chinese ?a_united ?l_united ?c_united ?k_united ?a_solved ?l_solved ?c_solved ?k_solved ?a_meeting_classes ?l_meeting_classes ?c_meeting_classes ?k_meeting_classes ?a_part_classes ?l_part_classes ?c_part_classes ?k_part_classes ?a_never ?l_never ?c_never ?k_never ?a_shows ?l_shows ?c_shows ?k_shows ?a_check_never ?l_check_never ?c_check_never ?k_check_never ?a_never_text ?l_never_text ?c_never_text ?k_never_text ?a_is_number ?l_is_number ?c_is_number ?k_is_number ?a_are_numbers ?l_are_numbers ?c_are_numbers ?k_are_numbers ?a_parse_never ?l_parse_never ?c_parse_never ?k_parse_never ?a_check_text ?l_check_text ?c_check_text ?k_check_text ?a__law_row ?l__law_row ?c__law_row ?k__law_row ?a__law_numbers ?l__law_numbers ?c__law_numbers ?k__law_numbers ?a__law_table ?l__law_table ?c__law_table ?k__law_table ?a__law_ball ?l__law_ball ?c__law_ball ?k__law_ball ?a__law_walk ?l__law_walk ?c__law_walk ?k__law_walk ?a__law_meet ?l__law_meet ?c__law_meet ?k__law_meet ?a__law_rows ?l__law_rows ?c__law_rows ?k__law_rows ?a_law ?l_law ?c_law ?k_law ?l_T0 ?l_aN
    (case ac_Table => k_is)
    (case pg_Table => k_is)
    (case hd_Table => k_is)
    (case po_Table => k_is)
    (case sa_Table => k_is)
    (case mk_Table => k_is)
    (case kc_Table => k_is)
    (case n_width => k_is)
    (case n_height => k_is)
    (case n_pockets => k_is)
    (case z_range => k_is)
    (case z_int => k_is)
    (case z_abs => k_is)
    (case z_len => k_is)
    (case z_max => k_is)
    (case z_all => k_is)
    (case z_any => k_is)
    (case z_tuple => k_is)
    (case z_list => k_is)
    (case z_sorted => k_is)
    (case z_isinstance => k_is)
    (case z_enumerate => k_is)
    (case z_str => k_is)
    (case z_bool => k_is)
    (case z_ValueError => k_is)
    (case v_MOST => k_is)
    (case v_MOST_POCKETS => k_is)
    (case v_NAME_CHARS => k_is)
    (case v_MOST_NAME_CHARS => k_is)
    (case v_DIGITS => k_is)
    (case v_MOST_DIGITS => k_is)
    (case v_PAIR_NUMBERS => k_is)
    (case g_gcd => k_is)
    (case v_WHOLE => k_is)
    (case l_WHOLE => k_is)
    (case l_WHOLE0 => k_is)
    (case eg_InvalidTable => k_is)
    (case ek_InvalidTable => k_is)
    (case xq_InvalidTable => k_exc)
    (case eb_InvalidTable => k_is)
    (case et_InvalidTable => k_is)
    (case eh_InvalidTable => k_is)
    (case eg_InvalidBall => k_is)
    (case ek_InvalidBall => k_is)
    (case xq_InvalidBall => k_exc)
    (case eb_InvalidBall => k_is)
    (case et_InvalidBall => k_is)
    (case eh_InvalidBall => k_is)
    (case es_InvalidBall_InvalidBall => first | k_is | rfl)
    (case xg => k_is)
    (case xk => k_is)
    (case xa => k_is)
    (case xn => k_is)
    (case xt => k_is)
    (case xm => k_is)
    (case es_xv => first | k_is | rfl)
    (case a_require => k_is)
    (case l_require => k_is)
    (case c_require => k_is)
    (case k_require => k_is)
    (case a_is_point => k_is)
    (case i_is_point => k_is)
    (case l_is_point => k_is)
    (case c_is_point => k_is)
    (case k_is_point => k_is)
    (case a_Table___init__ => k_is)
    (case i_Table___init__ => k_is)
    (case l_Table___init__ => k_is)
    (case c_Table___init__ => k_is)
    (case k_Table___init__ => k_is)
    (case a_is_name => k_is)
    (case l_is_name => k_is)
    (case c_is_name => k_is)
    (case k_is_name => k_is)
    (case a_is_ball => k_is)
    (case l_is_ball => k_is)
    (case c_is_ball => k_is)
    (case k_is_ball => k_is)
    (case a_check_ball => k_is)
    (case l_check_ball => k_is)
    (case c_check_ball => k_is)
    (case k_check_ball => k_is)
    (case a_inverse => k_is)
    (case l_inverse => k_is)
    (case c_inverse => k_is)
    (case k_inverse => k_is)
    (case a_chinese => k_is)
    (case l_chinese => k_is)
    (case c_chinese => k_is)
    (case k_chinese => k_is)
    (case a_united => k_is)
    (case l_united => k_is)
    (case c_united => k_is)
    (case k_united => k_is)
    (case a_solved => k_is)
    (case l_solved => k_is)
    (case c_solved => k_is)
    (case k_solved => k_is)
    (case a_meeting_classes => k_is)
    (case l_meeting_classes => k_is)
    (case c_meeting_classes => k_is)
    (case k_meeting_classes => k_is)
    (case a_part_classes => k_is)
    (case l_part_classes => k_is)
    (case c_part_classes => k_is)
    (case k_part_classes => k_is)
    (case a_never => k_is)
    (case l_never => k_is)
    (case c_never => k_is)
    (case k_never => k_is)
    (case a_shows => k_is)
    (case l_shows => k_is)
    (case c_shows => k_is)
    (case k_shows => k_is)
    (case a_check_never => k_is)
    (case l_check_never => k_is)
    (case c_check_never => k_is)
    (case k_check_never => k_is)
    (case a_never_text => k_is)
    (case l_never_text => k_is)
    (case c_never_text => k_is)
    (case k_never_text => k_is)
    (case a_is_number => k_is)
    (case l_is_number => k_is)
    (case c_is_number => k_is)
    (case k_is_number => k_is)
    (case a_are_numbers => k_is)
    (case l_are_numbers => k_is)
    (case c_are_numbers => k_is)
    (case k_are_numbers => k_is)
    (case a_parse_never => k_is)
    (case l_parse_never => k_is)
    (case c_parse_never => k_is)
    (case k_parse_never => k_is)
    (case a_check_text => k_is)
    (case l_check_text => k_is)
    (case c_check_text => k_is)
    (case k_check_text => k_is)
    (case a__law_row => k_is)
    (case l__law_row => k_is)
    (case c__law_row => k_is)
    (case k__law_row => k_is)
    (case a__law_numbers => k_is)
    (case l__law_numbers => k_is)
    (case c__law_numbers => k_is)
    (case k__law_numbers => k_is)
    (case a__law_table => k_is)
    (case l__law_table => k_is)
    (case c__law_table => k_is)
    (case k__law_table => k_is)
    (case a__law_ball => k_is)
    (case l__law_ball => k_is)
    (case c__law_ball => k_is)
    (case k__law_ball => k_is)
    (case a__law_walk => k_is)
    (case l__law_walk => k_is)
    (case c__law_walk => k_is)
    (case k__law_walk => k_is)
    (case a__law_meet => k_is)
    (case l__law_meet => k_is)
    (case c__law_meet => k_is)
    (case k__law_meet => k_is)
    (case a__law_rows => k_is)
    (case l__law_rows => k_is)
    (case c__law_rows => k_is)
    (case k__law_rows => k_is)
    (case a_law => k_is)
    (case l_law => k_is)
    (case c_law => k_is)
    (case k_law => k_is)
    (case l_T0 => k_is)
    (case l_aN => k_is)
