import PyProof.Rows.All
import Wide.All
import OpenK.KLine
import Wide.FinOn
import PyProof.Rows.Top
import PyProof.Rows.RowHeap
import PyProof.Rows.Tup
import PyProof.Rows.TupSub
import PyProof.Rows.IntRules
import PyProof.Rows.Nodes
import PyProof.Rows.OwnEval
import PyProof.Rows.CatchSeen
import PyProof.FitsBits
import PyProof.NoPylong
import PyProof.PureInt
import PyProof.StrOps
import PyProof.PlainList
import PyProof.Rules3
import PyProof.TupleIter
import PyProof.IsRules
import PyProof.PassesOwn
import PyProof.ForRange
import PyProof.IsiPairs
import PyProof.IsiSeqPairs
import PyProof.IsiNone
import PyProof.WalkInts
import PyProof.Rows.Exc
import PyProof.Rows.RuleN_abs
import PyProof.Rows.StrTemp
import PyProof.Rows.RuleB_floordiv
import PyProof.Rows.RuleB_small
import PyProof.Rows.SeqMore
import PyProof.Rows.StrRules
import PyProof.Rows.EqDataRows
import PyProof.Rows.Lst
import PyProof.Conv_int_bool
import PyProof.WalksPairs
import PyProof.RangeFor
import PyProof.ForAny
import PyProof.ForAppend
import PyProof.Rows.TupAssign
import PyProof.RulesMatch
import PyProof.Rows.Method
import PyProof.Rows.RuleB_pow
import PyProof.StrLoop
import Wide.Ends
import Wide.BridgeG
import Open.Head
import KE.KTryDeep
import PyProof.ExcArgs
import KE.KIsNot
import PyProof.P3In
import PyProof.Rows.CountFlat
import PyProof.StrBlock
import PyProof.Dict
import PyProof.ListCopy
import PyProof.AutoListH
import PyProof.CallType
import PyProof.FactsAll.list_2
import PySem.Challenge.RW_uf050018_09
set_option Elab.async false
set_option maxRecDepth 100000
set_option linter.all false
namespace Mine

structure Q4 where
  l0 : Int
  l1 : Int
  r0 : Int
  r1 : Int
structure Q4.nn (q : Q4) : Prop where
  a : 0 ≤ q.l0
  b : 0 ≤ q.l1
  c : 0 ≤ q.r0
  d : 0 ≤ q.r1
theorem pow23 (k : Nat) : (2 : Int) ^ k ≤ 3 ^ k := by
  induction k with
  | zero => decide
  | succ n ih => rw [Int.pow_succ, Int.pow_succ]; have : (0 : Int) < 3 ^ n := Int.pow_pos (by decide); (first | lia | omega)
end Mine

namespace Mine

/-- the simplest fraction between a/b and c/d: its parts, and the last one -/
inductive CF : Int → Int → Int → Int → List Int → Int → Prop
  | stop {a b c d : Int} (h : a % b = 0 ∨ a / b ≠ c / d) : CF a b c d [] ((a + b - 1) / b)
  | step {a b c d : Int} {ps : List Int} {c0 : Int} (h1 : a % b ≠ 0) (h2 : a / b = c / d) (r : CF d (c - a / b * d) b (a - a / b * b) ps c0) : CF a b c d (a / b :: ps) c0
def cfv : List Int → Int → Int × Int
  | [], c0 => (c0, 1)
  | k :: ps, c0 => (k * (cfv ps c0).1 + (cfv ps c0).2, (cfv ps c0).1)
structure Bd (a b c d : Int) : Prop where
  a0 : 0 ≤ a
  b1 : 1 ≤ b
  c0 : 0 ≤ c
  d1 : 1 ≤ d
  le : a * d ≤ c * b

theorem sub_ediv {a b : Int} : a - a / b * b = a % b := by rw [Int.emod_def, Int.mul_comm]

theorem Bd.turn {a b c d : Int} (h : Bd a b c d) (h1 : a % b ≠ 0) (h2 : a / b = c / d) : Bd d (c - a / b * d) b (a - a / b * b) ∧ c - a / b * d < d ∧ a - a / b * b < b ∧ 0 ≤ a / b := by
  have hb := h.b1
  have hd := h.d1
  have e1 : a - a / b * b = a % b := sub_ediv
  have e2 : c - a / b * d = c % d := by rw [h2]; exact sub_ediv
  have l1 := Int.emod_nonneg a (b := b) (by (first | lia | omega))
  have l2 := Int.emod_lt_of_pos a (b := b) (by (first | lia | omega))
  have l3 := Int.emod_nonneg c (b := d) (by (first | lia | omega))
  have l4 := Int.emod_lt_of_pos c (b := d) (by (first | lia | omega))
  have hk : 0 ≤ a / b := Int.ediv_nonneg h.a0 (by (first | lia | omega))
  have hle : d * (a - a / b * b) ≤ b * (c - a / b * d) := by
    have := h.le
    have e3 : d * (a - a / b * b) = a * d - a / b * (b * d) := by rw [Int.mul_sub, Int.mul_comm d a, ← Int.mul_assoc, Int.mul_comm d (a / b), Int.mul_assoc, Int.mul_comm d b]
    have e4 : b * (c - a / b * d) = c * b - a / b * (b * d) := by rw [Int.mul_sub, Int.mul_comm b c, ← Int.mul_assoc, Int.mul_comm b (a / b), Int.mul_assoc]
    rw [e3, e4]; (first | lia | omega)
  have hc1 : 1 ≤ c - a / b * d := by
    rcases Int.lt_or_eq_of_le l3 with q | q
    · (first | lia | omega)
    · exfalso
      rw [e2, ← q, Int.mul_zero] at hle
      have : 0 < d * (a - a / b * b) := Int.mul_pos (by (first | lia | omega)) (by (first | lia | omega))
      (first | lia | omega)
  exact ⟨⟨by (first | lia | omega), hc1, by (first | lia | omega), by (first | lia | omega), hle⟩, by (first | lia | omega), by (first | lia | omega), hk⟩

theorem cf_exists : ∀ (n : Nat) (a b c d : Int), Bd a b c d → (b + d).toNat ≤ n → ∃ ps c0, CF a b c d ps c0
  | 0, a, b, c, d, h, hn => by have := h.b1; have := h.d1; (first | lia | omega)
  | n + 1, a, b, c, d, h, hn => by
    by_cases h1 : a % b = 0
    · exact ⟨_, _, .stop (.inl h1)⟩
    · by_cases h2 : a / b = c / d
      · obtain ⟨hb, x1, x2, _⟩ := h.turn h1 h2
        obtain ⟨ps, c0, r⟩ := cf_exists n d (c - a / b * d) b (a - a / b * b) hb (by (first | lia | omega))
        exact ⟨_, _, .step h1 h2 r⟩
      · exact ⟨_, _, .stop (.inr h2)⟩
theorem cf_for {a b c d : Int} (h : Bd a b c d) : ∃ ps c0, CF a b c d ps c0 := cf_exists _ a b c d h (Nat.le_refl _)

structure Smp (a b c d u l : Int) : Prop where
  l1 : 1 ≤ l
  u0 : 0 ≤ u
  co : Int.gcd u l = 1
  lo : a * l ≤ u * b
  hi : u * d ≤ c * l
  mn : ∀ x y : Int, 1 ≤ y → a * y ≤ x * b → x * d ≤ c * y → u ≤ x ∧ l ≤ y

theorem ceil_mul {a b : Int} (hb : 1 ≤ b) : a ≤ (a + b - 1) / b * b := by
  have h1 := Int.mul_ediv_add_emod (a + b - 1) b
  have h2 := Int.emod_lt_of_pos (a + b - 1) (b := b) (by (first | lia | omega))
  rw [Int.mul_comm] at h1
  (first | lia | omega)
theorem ceil_le {a b x : Int} (hb : 1 ≤ b) (h : a ≤ x * b) : (a + b - 1) / b ≤ x := by
  have : (a + b - 1) / b < x + 1 := Int.ediv_lt_of_lt_mul (by (first | lia | omega)) (by rw [Int.add_mul]; (first | lia | omega))
  (first | lia | omega)
theorem ceil_hi {a b c d : Int} (h : Bd a b c d) (hs : a % b = 0 ∨ a / b ≠ c / d) : (a + b - 1) / b * d ≤ c := by
  have hb := h.b1
  have hd := h.d1
  have le := h.le
  rcases hs with hs | hs
  · have e : (a + b - 1) / b * b = a := by
      have q := ceil_mul (a := a) hb
      have q2 : (a + b - 1) / b ≤ a / b := ceil_le hb (by have := Int.mul_ediv_add_emod a b; rw [Int.mul_comm] at this; (first | lia | omega))
      have q3 := Int.mul_le_mul_of_nonneg_right q2 (show 0 ≤ b by (first | lia | omega))
      have q4 := Int.mul_ediv_add_emod a b
      rw [Int.mul_comm] at q4
      (first | lia | omega)
    have : (a + b - 1) / b * d * b ≤ c * b := by
      rw [Int.mul_assoc, Int.mul_comm d b, ← Int.mul_assoc, e]; exact le
    exact Int.le_of_mul_le_mul_right this (by (first | lia | omega))
  · have h1 := Int.mul_ediv_add_emod a b
    have h2 := Int.emod_lt_of_pos a (b := b) (by (first | lia | omega))
    have h3 := Int.emod_nonneg a (b := b) (by (first | lia | omega))
    have h4 := Int.mul_ediv_add_emod c d
    have h5 := Int.emod_nonneg c (b := d) (by (first | lia | omega))
    have h6 := Int.emod_lt_of_pos c (b := d) (by (first | lia | omega))
    have hle : a / b ≤ c / d := by
      apply Int.le_ediv_of_mul_le (by (first | lia | omega))
      have : a / b * d * b ≤ c * b := by
        have : a / b * b ≤ a := by rw [Int.mul_comm]; (first | lia | omega)
        have := Int.mul_le_mul_of_nonneg_right this (show 0 ≤ d by (first | lia | omega))
        have e : a / b * d * b = a / b * b * d := by rw [Int.mul_assoc, Int.mul_comm d b, ← Int.mul_assoc]
        rw [e]; (first | lia | omega)
      exact Int.le_of_mul_le_mul_right this (by (first | lia | omega))
    have hlt : a / b + 1 ≤ c / d := by (first | lia | omega)
    have hc : (a + b - 1) / b ≤ a / b + 1 := ceil_le hb (by rw [Int.add_mul, Int.mul_comm (a / b)]; (first | lia | omega))
    have := Int.mul_le_mul_of_nonneg_right (Int.le_trans hc hlt) (show 0 ≤ d by (first | lia | omega))
    rw [Int.mul_comm (c / d)] at this
    (first | lia | omega)

theorem cf_main {a b c d : Int} {ps : List Int} {c0 : Int} (r : CF a b c d ps c0) : Bd a b c d → Smp a b c d (cfv ps c0).1 (cfv ps c0).2 := by
  induction r with
  | @stop a b c d h =>
    intro hb
    have hb1 := hb.b1
    show Smp a b c d ((a + b - 1) / b) 1
    refine ⟨by (first | lia | omega), Int.ediv_nonneg (by have := hb.a0; (first | lia | omega)) (by (first | lia | omega)), by simp, by rw [Int.mul_one]; exact ceil_mul hb1, by rw [Int.mul_one]; exact ceil_hi hb h, fun x y hy h1 h2 => ⟨ceil_le hb1 ?_, hy⟩⟩
    have := Int.mul_le_mul_of_nonneg_left hy hb.a0
    (first | lia | omega)
  | @step a b c d ps c0 h1 h2 r ih =>
    intro hb
    obtain ⟨hb', x1, x2, hk⟩ := hb.turn h1 h2
    have s := ih hb'
    show Smp a b c d (a / b * (cfv ps c0).1 + (cfv ps c0).2) (cfv ps c0).1
    generalize (cfv ps c0).1 = u at *
    generalize (cfv ps c0).2 = l at *
    generalize a / b = k at *
    have hu : 1 ≤ u := by
      have q1 := s.lo
      have q2 := Int.mul_le_mul_of_nonneg_right hb.d1 (show 0 ≤ l by have := s.l1; (first | lia | omega))
      have q3 := s.l1
      rcases Int.lt_or_eq_of_le s.u0 with q | q
      · (first | lia | omega)
      · rw [← q, Int.zero_mul] at q1; (first | lia | omega)
    refine ⟨hu, ?_, ?_, ?_, ?_, ?_⟩
    · have := Int.mul_nonneg hk s.u0; have := s.l1; (first | lia | omega)
    · have e : Int.gcd (k * u + l) u = Int.gcd u l := by rw [Int.gcd_comm, Int.add_comm, Int.gcd_add_mul_right_right]
      rw [e]; exact s.co
    · have := s.hi; grind
    · have := s.lo; grind
    · intro x y hy q1 q2
      have hx : 1 ≤ x - k * y := by
        have p1 : 1 * y ≤ (a - k * b) * y := Int.mul_le_mul_of_nonneg_right hb'.d1 (by (first | lia | omega))
        have p2 : (a - k * b) * y ≤ (x - k * y) * b := by grind
        have p3 : 0 < (x - k * y) * b := by (first | lia | omega)
        exact Int.pos_of_mul_pos_left p3 (by have := hb.b1; (first | lia | omega))
      obtain ⟨m1, m2⟩ := s.mn y (x - k * y) hx (by grind) (by grind)
      have := Int.mul_le_mul_of_nonneg_left m1 hk
      exact ⟨by (first | lia | omega), m1⟩

/-- what is built from the last part on -/
def okc : List Int → Int → Prop
  | [], c0 => 0 ≤ c0
  | k :: ps, c0 => 0 ≤ k ∧ 1 ≤ (cfv ps c0).1 ∧ 1 ≤ (cfv ps c0).2 ∧ okc ps c0
theorem cf_okc {a b c d : Int} {ps : List Int} {c0 : Int} (r : CF a b c d ps c0) : Bd a b c d → okc ps c0 := by
  induction r with
  | @stop a b c d h => intro hb; exact Int.ediv_nonneg (by have := hb.a0; have := hb.b1; (first | lia | omega)) (by have := hb.b1; (first | lia | omega))
  | @step a b c d ps c0 h1 h2 r ih =>
    intro hb
    obtain ⟨hb', x1, x2, hk⟩ := hb.turn h1 h2
    have s := cf_main r hb'
    have o := ih hb'
    have hu : 1 ≤ (cfv ps c0).1 := by
      have q1 := s.lo
      have q2 := Int.mul_le_mul_of_nonneg_right hb.d1 (show 0 ≤ (cfv ps c0).2 by have := s.l1; (first | lia | omega))
      have q3 := s.l1
      rcases Int.lt_or_eq_of_le s.u0 with q | q
      · (first | lia | omega)
      · rw [← q, Int.zero_mul] at q1; (first | lia | omega)
    exact ⟨hk, hu, s.l1, o⟩
theorem okc_pos : ∀ {ps : List Int} {c0 : Int}, okc ps c0 → 0 ≤ (cfv ps c0).1 ∧ 1 ≤ (cfv ps c0).2
  | [], c0, h => ⟨h, by show (1 : Int) ≤ 1; (first | lia | omega)⟩
  | k :: ps, c0, h => by
    have := Int.mul_nonneg h.1 (show 0 ≤ (cfv ps c0).1 by have := h.2.1; (first | lia | omega))
    exact ⟨by show 0 ≤ k * (cfv ps c0).1 + (cfv ps c0).2; have := h.2.2.1; (first | lia | omega), h.2.1⟩
theorem okc_drop : ∀ {ps : List Int} {c0 : Int}, okc ps c0 → ∀ i, okc (ps.drop i) c0 ∧ (cfv (ps.drop i) c0).1 + (cfv (ps.drop i) c0).2 ≤ (cfv ps c0).1 + (cfv ps c0).2
  | ps, c0, h, 0 => ⟨h, Int.le_refl _⟩
  | [], c0, h, i + 1 => by rw [List.drop_nil]; exact ⟨h, Int.le_refl _⟩
  | k :: ps, c0, h, i + 1 => by
    obtain ⟨a, b⟩ := okc_drop h.2.2.2 i
    refine ⟨a, Int.le_trans b ?_⟩
    have := Int.mul_nonneg h.1 (show 0 ≤ (cfv ps c0).1 by have := h.2.1; (first | lia | omega))
    show (cfv ps c0).1 + (cfv ps c0).2 ≤ k * (cfv ps c0).1 + (cfv ps c0).2 + (cfv ps c0).1
    (first | lia | omega)
theorem okc_part {k : Int} {ps : List Int} {c0 : Int} (h : okc (k :: ps) c0) : k ≤ (cfv (k :: ps) c0).1 := by
  have := Int.mul_le_mul_of_nonneg_left h.2.1 h.1
  show k ≤ k * (cfv ps c0).1 + (cfv ps c0).2
  have := h.2.2.1
  (first | lia | omega)
theorem cf_len {a b c d : Int} {ps : List Int} {c0 : Int} (r : CF a b c d ps c0) : Bd a b c d → b ≤ a → 2 * 3 ^ ps.length ≤ 2 ^ ps.length * ((cfv ps c0).1 + (cfv ps c0).2) := by
  induction r with
  | @stop a b c d h =>
    intro hb hab
    have hb1 := hb.b1
    have : 1 ≤ (a + b - 1) / b := Int.le_ediv_of_mul_le (by (first | lia | omega)) (by (first | lia | omega))
    show 2 * 3 ^ 0 ≤ 2 ^ 0 * ((a + b - 1) / b + 1)
    simp; (first | lia | omega)
  | @step a b c d ps c0 h1 h2 r ih =>
    intro hb hab
    obtain ⟨hb', x1, x2, hk⟩ := hb.turn h1 h2
    have s := cf_main r hb'
    have o := ih hb' (by (first | lia | omega))
    have hk1 : 1 ≤ a / b := Int.le_ediv_of_mul_le (by have := hb.b1; (first | lia | omega)) (by (first | lia | omega))
    have hul : (cfv ps c0).2 ≤ (cfv ps c0).1 := by
      have q1 := s.lo
      have q2 := Int.mul_le_mul_of_nonneg_right (show c - a / b * d ≤ d by (first | lia | omega)) (show 0 ≤ (cfv ps c0).1 by exact s.u0)
      rw [Int.mul_comm (c - a / b * d)] at q2
      have q3 : d * (cfv ps c0).2 ≤ d * (cfv ps c0).1 := by (first | lia | omega)
      exact Int.le_of_mul_le_mul_left q3 (by have := hb.d1; (first | lia | omega))
    have key : 3 * ((cfv ps c0).1 + (cfv ps c0).2) ≤ 2 * ((cfv (a / b :: ps) c0).1 + (cfv (a / b :: ps) c0).2) := by
      show _ ≤ 2 * (a / b * (cfv ps c0).1 + (cfv ps c0).2 + (cfv ps c0).1)
      have := Int.mul_le_mul_of_nonneg_right hk1 (show 0 ≤ (cfv ps c0).1 by exact s.u0)
      (first | lia | omega)
    have hp : (0 : Int) ≤ 2 ^ ps.length := Int.le_of_lt (Int.pow_pos (by decide))
    have k2 := Int.mul_le_mul_of_nonneg_left key hp
    generalize (cfv (a / b :: ps) c0).1 + (cfv (a / b :: ps) c0).2 = E at *
    generalize (cfv ps c0).1 + (cfv ps c0).2 = F at *
    simp only [List.length_cons, Int.pow_succ]
    generalize (2 : Int) ^ ps.length = P at *
    generalize (3 : Int) ^ ps.length = R at *
    have e1 : P * (3 * F) = 3 * (P * F) := by grind
    have e2 : P * 2 * E = P * (2 * E) := by grind
    rw [e2]; (first | lia | omega)
theorem pow_len {n : Nat} {S : Int} (h1 : 2 * 3 ^ n ≤ 2 ^ n * S) (h : S ≤ 10 ^ 70) : n < 500 := by
  apply Classical.byContradiction
  intro hl
  obtain ⟨k, hk⟩ : ∃ k, n = 500 + k := ⟨n - 500, by (first | lia | omega)⟩
  rw [hk, Int.pow_add, Int.pow_add] at h1
  have p2 : (0 : Int) < 2 ^ k := Int.pow_pos (by decide)
  have c1 : (2 : Int) ^ 500 * 10 ^ 70 < 2 * 3 ^ 500 := by decide +kernel
  have q := pow23 k
  have e1 : (2 : Int) ^ 500 * 2 ^ k * S ≤ 2 ^ 500 * 2 ^ k * 10 ^ 70 := Int.mul_le_mul_of_nonneg_left h (Int.mul_nonneg (by decide +kernel) (by (first | lia | omega)))
  have e2 : (2 : Int) ^ 500 * 2 ^ k * 10 ^ 70 = 2 ^ 500 * 10 ^ 70 * 2 ^ k := by rw [Int.mul_assoc, Int.mul_comm (2 ^ k), ← Int.mul_assoc]
  have e3 : (2 : Int) ^ 500 * 10 ^ 70 * 2 ^ k < 2 * 3 ^ 500 * 2 ^ k := Int.mul_lt_mul_of_pos_right c1 p2
  have e4 : (2 : Int) * 3 ^ 500 * 2 ^ k ≤ 2 * 3 ^ 500 * 3 ^ k := Int.mul_le_mul_of_nonneg_left q (by decide +kernel)
  have e5 : (2 : Int) * (3 ^ 500 * 3 ^ k) = 2 * 3 ^ 500 * 3 ^ k := by rw [Int.mul_assoc]
  rw [e5] at h1
  rw [e2] at e1
  exact absurd (Int.lt_of_le_of_lt (Int.le_trans h1 e1) (Int.lt_of_lt_of_le e3 e4)) (Int.lt_irrefl _)
theorem cf_short {a b c d : Int} {ps : List Int} {c0 : Int} (r : CF a b c d ps c0) (hb : Bd a b c d) (h : a + b ≤ 10 ^ 70) : ps.length < 502 := by
  have s := cf_main r hb
  obtain ⟨m1, m2⟩ := s.mn a b hb.b1 (Int.le_refl _) hb.le
  cases r with
  | stop h => simp
  | @step _ _ _ _ ps c0 h1 h2 r =>
    obtain ⟨hb', x1, x2, hk⟩ := hb.turn h1 h2
    have s' := cf_main r hb'
    have o := cf_len r hb' (by (first | lia | omega))
    have : ps.length < 500 := pow_len o (by
      have e1 : (cfv (a / b :: ps) c0).1 = a / b * (cfv ps c0).1 + (cfv ps c0).2 := rfl
      have e2 : (cfv (a / b :: ps) c0).2 = (cfv ps c0).1 := rfl
      have := Int.mul_nonneg hk s'.u0
      (first | lia | omega))
    simp; (first | lia | omega)
end Mine

namespace Mine

structure Tg (t0 t1 M : Int) : Prop where
  nn : 0 ≤ t0
  co : Int.gcd t0 t1 = 1
  m1 : 1 ≤ M
  lt : M < t1

theorem dvd_cross {t0 t1 x y : Int} (hg : Int.gcd t0 t1 = 1) (e : t0 * y = x * t1) : t1 ∣ y := by
  have h : t1 ∣ t0 * y := ⟨x, by rw [e, Int.mul_comm]⟩
  have h2 : t1.natAbs ∣ t0.natAbs * y.natAbs := by rw [← Int.natAbs_mul]; exact Int.natAbs_dvd_natAbs.mpr h
  have hc : Nat.Coprime t1.natAbs t0.natAbs := by rw [Nat.coprime_comm]; exact hg
  exact Int.natAbs_dvd_natAbs.mp (hc.dvd_of_dvd_mul_left h2)
theorem no_cross {t0 t1 M x y : Int} (T : Tg t0 t1 M) (h1 : 1 ≤ y) (h2 : y ≤ M) : t0 * y ≠ x * t1 := by
  intro e
  have := Int.le_of_dvd (by (first | lia | omega)) (dvd_cross T.co e)
  have := T.lt
  (first | lia | omega)
theorem Tg.pos {t0 t1 M : Int} (T : Tg t0 t1 M) : 1 ≤ t0 := by
  have := T.nn
  rcases Int.lt_or_eq_of_le this with h | h
  · (first | lia | omega)
  · exfalso
    have := no_cross (x := 0) (y := 1) T (by (first | lia | omega)) T.m1
    rw [← h] at this; simp at this

end Mine
namespace Mine
end Mine

namespace Mine
open PySem PySem.Spec PySem.Calls PyProof.Rows

/-- the usual kinds of expressions -/
def pl : Expr → Bool
  | .Starred .. | .ListComp .. | .SetComp .. | .DictComp .. | .Set .. | .Slice .. => false
  | _ => true
theorem pl_star {x : Expr} {es : List Expr} {env : Env} (h : pl x = true) : starEach (x :: es) env = (false, eval x env) :: starEach es env := by cases x <;> first | rfl | cases h
theorem pl_marks {op : CmpOp} {x : Expr} (h : pl x = true) : behindInMarks op x = false := by cases x <;> first | rfl | cases h
theorem pl_swaps {x : Expr} {t : Option Expr} {n : Nat} {env : Env} (h : pl x = true) : swapsWith x t n env = pure false := by cases x <;> first | rfl | cases h
theorem pl_fold {x : Expr} {env : Env} (h : pl x = true) (v : Value) : foldedSetIterable x env v = pure v := by cases x <;> first | rfl | cases h
theorem pl_sub {x : Expr} {o i : Value} (h : pl x = true) : subscripted x false o i = operate [o, i] (getItem o i) := by cases x <;> first | rfl | cases h
def plT : Expr → Bool
  | .UnaryOp .Not _ _ | .BoolOp .. | .IfExp .. | .Compare .. => false
  | _ => true
theorem plT_eq {x : Expr} {env : Env} {t : Sem Value} (h : plT x = true) : isTrue x env t = (do let v ← t; standAt x.pos; holding [v] (truthy v)) := by
  cases x with
  | UnaryOp op _ _ => cases op <;> first | rfl | cases h
  | _ => first | rfl | cases h

abbrev Keep (h h' : Heap) : Prop := ∀ b o, h.get? b = some o → h'.get? b = some o
theorem Keep.rfl {h : Heap} : Keep h h := fun _ _ e => e
theorem Keep.trans {h h' h'' : Heap} (a : Keep h h') (b : Keep h' h'') : Keep h h'' := fun x o e => b x o (a x o e)
theorem Keep.push {h h' : Heap} (a : Keep h h') (o : Obj) : Keep h (h'.push o) := fun x o' e => Heap.get?_push_of_some _ (a x o' e)
theorem Keep.none {h h' : Heap} (a : Keep h h') {l : Addr} (n : h'.get? l = none) : h.get? l = none := by
  cases hq : h.get? l with
  | none => rfl
  | some o => rw [a l o hq] at n; cases n
/-- every object stands, but for those at W -/
def Kp (W : List Addr) (h h' : Heap) : Prop := ∀ b o, b ∉ W → h.get? b = some o → h'.get? b = some o
theorem Keep.kp {W : List Addr} {h h' : Heap} (k : Keep h h') : Kp W h h' := fun b o _ e => k b o e
theorem Kp.rfl {W : List Addr} {h : Heap} : Kp W h h := fun _ _ _ e => e
theorem Kp.trans {W : List Addr} {h h' h'' : Heap} (a : Kp W h h') (b : Kp W h' h'') : Kp W h h'' := fun x o n e => b x o n (a x o n e)
theorem Kp.mono {W W' : List Addr} {h h' : Heap} (a : Kp W h h') (s : ∀ b ∈ W, b ∈ W') : Kp W' h h' := fun x o n e => a x o (fun hx => n (s x hx)) e

/-- a tree that changes no object that stands -/
structure EvT {α : Type} (M : Model) (A : Around) (h : Heap) (t : Sem α) (R : α → Heap → Prop) (X : Value → Heap → Prop) : Prop where
  go : ∀ (s : Shared) (Q : α → Shared → Prop) (E : Value → Shared → Prop), Keep h s.heap →
    (∀ a h' k, Keep s.heap h' → R a h' → Q a { s with heap := h', toks := k }) →
    (∀ x h' k, X x h' → E x { s with heap := h', toks := k }) → wpAny M A t Q E s

abbrev Ev (M : Model) (A : Around) (env : Env) (h : Heap) (e : Expr) (R X : Value → Heap → Prop) : Prop := EvT M A h (eval e env) R X
abbrev Tr (M : Model) (A : Around) (env : Env) (h : Heap) (e : Expr) (b : Bool) (X : Value → Heap → Prop) : Prop := EvT M A h (isTrue e env (eval e env)) (fun c _ => c = b) X

/-- the value v reads as d -/
def Rd (d : PyData) (v : Value) (h : Heap) : Prop := ∃ as, Reads h v d as
theorem Rd.keep {d : PyData} {v : Value} {h h' : Heap} (r : Rd d v h) (k : Keep h h') : Rd d v h' := let ⟨as, x⟩ := r; ⟨as, PyProof.Rows.Reads.keeps k x⟩
def RdL (ds : List PyData) (vs : List Value) (h : Heap) : Prop := ∃ as, ReadsAll h vs ds as
theorem RdL.keep {ds : List PyData} {vs : List Value} {h h' : Heap} (r : RdL ds vs h) (k : Keep h h') : RdL ds vs h' := let ⟨as, x⟩ := r; ⟨as, PyProof.Rows.ReadsAll.keeps k x⟩
theorem RdL.nil {h : Heap} : RdL [] [] h := ⟨_, .nil⟩
theorem RdL.cons {d ds v vs} {h : Heap} (a : Rd d v h) (b : RdL ds vs h) : RdL (d :: ds) (v :: vs) h := let ⟨_, x⟩ := a; let ⟨_, y⟩ := b; ⟨_, .cons x y⟩
theorem RdL.len {ds vs} {h : Heap} (a : RdL ds vs h) : vs.length = ds.length := by
  obtain ⟨as, x⟩ := a
  induction ds generalizing vs as with
  | nil => cases x; rfl
  | cons d ds ih => cases x with | cons _ y => simp [ih _ y]
theorem RdL.at {ds vs} {h : Heap} (a : RdL ds vs h) {i : Nat} {d : PyData} (e : ds[i]? = some d) : ∃ v, vs[i]? = some v ∧ Rd d v h := by
  obtain ⟨as, x⟩ := a
  induction ds generalizing vs as i with
  | nil => simp at e
  | cons d' ds ih =>
    cases x with
    | cons r y =>
      cases i with
      | zero => simp at e; subst e; exact ⟨_, rfl, _, r⟩
      | succ i =>
        obtain ⟨v, q⟩ := ih (i := i) (by simpa using e) _ y
        exact ⟨v, by simpa using q⟩
theorem RdL.uncons {d ds vs} {h : Heap} (a : RdL (d :: ds) vs h) : ∃ v r, vs = v :: r ∧ Rd d v h ∧ RdL ds r h := by
  obtain ⟨as, x⟩ := a
  cases x with | cons r y => exact ⟨_, _, rfl, ⟨_, r⟩, ⟨_, y⟩⟩
theorem RdL.unnil {vs} {h : Heap} (a : RdL [] vs h) : vs = [] := by
  obtain ⟨as, x⟩ := a
  cases x; rfl
theorem RdL.append {ds es vs us} {h : Heap} (a : RdL ds vs h) (b : RdL es us h) : RdL (ds ++ es) (vs ++ us) h := by
  obtain ⟨as, x⟩ := a
  induction ds generalizing vs as with
  | nil => cases x; exact b
  | cons d ds ih => cases x with | cons r y => exact RdL.cons ⟨_, r⟩ (ih _ y)
mutual
/-- no list and no dict in it -/
def flat : PyData → Bool
  | .list _ | .dict _ => false
  | .tuple xs => flatL xs
  | _ => true
def flatL : List PyData → Bool
  | [] => true
  | x :: xs => flat x && flatL xs
end
mutual
theorem flat_nil {h : Heap} : ∀ {d : PyData} {v : Value} {as : List Addr}, flat d = true → Reads h v d as → as = []
  | _, _, _, _, .none => rfl
  | _, _, _, _, .bool _ => rfl
  | _, _, _, _, .int _ _ => rfl
  | _, _, _, _, .str _ _ => rfl
  | .list _, _, _, hf, _ => by simp [flat] at hf
  | .dict _, _, _, hf, _ => by simp [flat] at hf
  | .tuple _, _, _, hf, .tuple _ _ _ y => flatL_nil (by simpa [flat] using hf) y
theorem flatL_nil {h : Heap} : ∀ {ds : List PyData} {vs : List Value} {as : List Addr}, flatL ds = true → ReadsAll h vs ds as → as = []
  | [], _, _, _, .nil => rfl
  | _ :: _, _, _, hf, .cons x y => by
    simp only [flatL, Bool.and_eq_true] at hf
    rw [flat_nil hf.1 x, flatL_nil hf.2 y]; rfl
end

/-- ... and whatever list is in it is new against h₀ -/
def Rf (h₀ : Heap) (d : PyData) (v : Value) (h : Heap) : Prop := ∃ as, Reads h v d as ∧ ∀ a ∈ as, h₀.get? a = none
theorem Rf.rd {h₀ : Heap} {d : PyData} {v : Value} {h : Heap} (r : Rf h₀ d v h) : Rd d v h := let ⟨as, x, _⟩ := r; ⟨as, x⟩
theorem Rf.of_flat {h₀ : Heap} {d : PyData} {v : Value} {h : Heap} (f : flat d = true) (r : Rd d v h) : Rf h₀ d v h := by
  obtain ⟨as, x⟩ := r
  refine ⟨as, x, ?_⟩
  rw [flat_nil f x]; exact fun _ ha => nomatch ha
theorem Rf.keep {h₀ : Heap} {d : PyData} {v : Value} {h h' : Heap} (r : Rf h₀ d v h) (k : Keep h h') : Rf h₀ d v h' := let ⟨as, x, n⟩ := r; ⟨as, PyProof.Rows.Reads.keeps k x, n⟩
theorem Rf.old {h₀ h₁ : Heap} {d : PyData} {v : Value} {h : Heap} (r : Rf h₁ d v h) (k : Keep h₀ h₁) : Rf h₀ d v h := by
  obtain ⟨as, x, n⟩ := r
  exact ⟨as, x, fun a ha => k.none (n a ha)⟩
/-- a new list of flat things -/
def Rl (h₀ : Heap) (ds : List PyData) (v : Value) (h : Heap) : Prop := ∃ l items, v = .ref l ∧ h.PlainList l items ∧ RdL ds items.toList h ∧ h₀.get? l = none
theorem Rl.keep {h₀ : Heap} {ds} {v : Value} {h h' : Heap} (r : Rl h₀ ds v h) (k : Keep h h') : Rl h₀ ds v h' := by
  obtain ⟨l, items, e, ⟨n, p⟩, x, f⟩ := r
  exact ⟨l, items, e, ⟨n, k _ _ p⟩, x.keep k, f⟩
theorem Rl.old {h₀ h₁ : Heap} {ds} {v : Value} {h : Heap} (r : Rl h₁ ds v h) (k : Keep h₀ h₁) : Rl h₀ ds v h := by
  obtain ⟨l, items, e, p, x, f⟩ := r
  exact ⟨l, items, e, p, x, k.none f⟩
theorem Rl.rd {h₀ : Heap} {ds} {v : Value} {h : Heap} (r : Rl h₀ ds v h) : Rd (.list ds) v h := by
  obtain ⟨l, items, e, ⟨n, p⟩, ⟨as, x⟩, _⟩ := r
  subst e
  exact ⟨_, .list p rfl rfl x⟩
section
variable {α β : Type} {M : Model} {A : Around} {env : Env} {h : Heap} {X : Value → Heap → Prop}

theorem EvT.up {h' : Heap} {t : Sem α} {R : α → Heap → Prop} (e : EvT M A h t R X) (k : Keep h h') : EvT M A h' t R X := ⟨fun s Q E k' q x => e.go s Q E (k.trans k') q x⟩
theorem EvT.mono {t : Sem α} {R R' : α → Heap → Prop} (e : EvT M A h t R X) (m : ∀ a h', Keep h h' → R a h' → R' a h') : EvT M A h t R' X :=
  ⟨fun s Q E k q x => e.go s Q E k (fun a h' i k' r => q a h' i k' (m a h' (k.trans k') r)) x⟩
theorem EvT.of {t : Sem α} {R : α → Heap → Prop}
    (e : ∀ (s : Shared) (Q : α → Shared → Prop) (E : Value → Shared → Prop), Keep h s.heap → (∀ a h' k, Keep s.heap h' → R a h' → Q a { s with heap := h', toks := k }) → wpAny M A t Q E s) : EvT M A h t R X :=
  ⟨fun s Q E k q _ => e s Q E k q⟩
theorem EvT.ofS {t : Sem α} {R : α → Heap → Prop}
    (e : ∀ (s : Shared) (Q : α → Shared → Prop) (E : Value → Shared → Prop), Keep h s.heap → (∀ a k, R a s.heap → Q a { s with toks := k }) → wpAny M A t Q E s) : EvT M A h t R X :=
  ⟨fun s Q E k q _ => e s Q E k fun a k' r => q a s.heap k' Keep.rfl r⟩
theorem EvT.pure {a : α} {R : α → Heap → Prop} (r : ∀ h', Keep h h' → R a h') : EvT M A h (Pure.pure a) R X :=
  EvT.of fun s _ _ k q => wpAny_pure (q a s.heap s.toks Keep.rfl (r _ k))
theorem EvT.bind {t : Sem α} {f : α → Sem β} {R : α → Heap → Prop} {R' : β → Heap → Prop} (e : EvT M A h t R X)
    (n : ∀ a h', Keep h h' → R a h' → EvT M A h' (f a) R' X) : EvT M A h (t >>= f) R' X := by
  refine ⟨fun s Q E k q x => ?_⟩
  refine wpAny_bind (e.go s _ E k (fun a h' i k' r => ?_) x)
  exact (n a h' (k.trans k') r).go _ Q E (fun b o e => e) (fun a' h'' j k'' r' => q a' h'' j (k'.trans k'') r') (fun y h'' j r' => x y h'' j r')
theorem EvT.seq {t : Sem α} {R : α → Heap → Prop} (e : EvT M A h t R X) {s : Shared} {Q : α → Shared → Prop} {E : Value → Shared → Prop} (k : Keep h s.heap)
    (q : ∀ a h' i, Keep s.heap h' → R a h' → Q a { s with heap := h', toks := i }) (x : ∀ y h' i, X y h' → E y { s with heap := h', toks := i }) : wpAny M A t Q E s := e.go s Q E k q x
/-- two trees, one behind the other -/
theorem EvT.two {γ : Type} {t : Sem α} {u : Sem β} {R : α → Heap → Prop} {R2 : β → Heap → Prop} {v : α → β → Sem γ} {R' : γ → Heap → Prop} (e : EvT M A h t R X) (e2 : EvT M A h u R2 X)
    (m : ∀ a h' h'', Keep h' h'' → R a h' → R a h'') (n : ∀ a b h', Keep h h' → R a h' → R2 b h' → EvT M A h' (v a b) R' X)
    {s : Shared} {Q : γ → Shared → Prop} {E : Value → Shared → Prop} (k : Keep h s.heap)
    (q : ∀ a h' i, Keep s.heap h' → R' a h' → Q a { s with heap := h', toks := i }) (x : ∀ y h' i, X y h' → E y { s with heap := h', toks := i }) :
    wpAny M A t (fun a s₁ => wpAny M A u (fun b s₂ => wpAny M A (v a b) Q E s₂) E s₁) E s := by
  refine e.go s _ E k (fun a h1 i k1 r1 => ?_) x
  refine (e2.up (k.trans k1)).seq (s := { s with heap := h1, toks := i }) Keep.rfl (fun b h2 j k2 r2 => ?_) (fun y h2 j r => x y h2 j r)
  exact (n a b h2 (k.trans (Keep.trans k1 k2)) (m _ _ _ k2 r1) r2).seq (s := { s with heap := h2, toks := j }) Keep.rfl (fun c h3 j k3 r3 => q c h3 j (Keep.trans k1 (Keep.trans k2 k3)) r3) (fun y h3 j r => x y h3 j r)
end
theorem rd_mono {d : PyData} : ∀ a h' h'', Keep h' h'' → Rd d a h' → Rd d a h'' := fun _ _ _ k r => r.keep k

section
variable {prog : Program} {w : World} {A : Around} {env : Env} {h : Heap} {X : Value → Heap → Prop}

theorem ev_int {i : Int} {k pos} : Ev (model prog w) A env h (.Constant (.int i) k pos) (Rd (.int i)) X :=
  EvT.ofS fun _ _ _ _ q => wpAny_Constant_int (q _ _ ⟨_, .int _ _⟩)
theorem ev_str {x : Str} {k pos} : Ev (model prog w) A env h (.Constant (.str x) k pos) (Rd (.str x)) X :=
  EvT.ofS fun _ _ _ _ q => wpAny_Constant_str (q _ _ ⟨_, .str _ _⟩)
theorem ev_bool {b : Bool} {k pos} : Ev (model prog w) A env h (.Constant (.bool b) k pos) (Rd (.bool b)) X :=
  EvT.ofS fun s _ _ _ q => wpAny_Constant_bool (q _ s.toks ⟨_, .bool _⟩)
theorem ev_bin {l r : Expr} {op : Operator} {pos : Pos} {d1 d2 : PyData} {R : Value → Heap → Prop} (e1 : Ev (model prog w) A env h l (Rd d1) X) (e2 : Ev (model prog w) A env h r (Rd d2) X)
    (o : ∀ v1 v2 h', Keep h h' → Rd d1 v1 h' → Rd d2 v2 h' → EvT (model prog w) A h' (binaryOp op v1 v2) R X) : Ev (model prog w) A env h (.BinOp l op r pos) R X := by
  refine ⟨fun s Q E k q x => ?_⟩
  exact wpAny_BinOp (EvT.two e1 e2 rd_mono o k q x)

theorem rd_int {i : Int} {v : Value} {h : Heap} (r : Rd (.int i) v h) : ∃ t, v = .int i t := by obtain ⟨as, x⟩ := r; cases x; exact ⟨_, rfl⟩
theorem rd_bool {i : Bool} {v : Value} {h : Heap} (r : Rd (.bool i) v h) : v = .bool i := by obtain ⟨as, x⟩ := r; cases x; rfl
theorem rd_tup {ds : List PyData} {v : Value} {h : Heap} (r : Rd (.tuple ds) v h) : ∃ a items, v = .ref a ∧ h.IsTuple a items ∧ RdL ds items.toList h := by
  obtain ⟨as, x⟩ := r
  cases x with | tuple h1 h2 h3 y => exact ⟨_, _, rfl, ⟨_, h1, h2, _, h3⟩, _, y⟩
theorem rd_list {ds : List PyData} {v : Value} {h : Heap} (r : Rd (.list ds) v h) : ∃ a items, v = .ref a ∧ h.IsList a items ∧ RdL ds items.toList h := by
  obtain ⟨as, x⟩ := r
  cases x with | list h1 h2 h3 y => exact ⟨_, _, rfl, ⟨_, h1, h2, _, h3⟩, _, y⟩

theorem ev_add {l r : Expr} {pos : Pos} {a b : Int} (e1 : Ev (model prog w) A env h l (Rd (.int a)) X) (e2 : Ev (model prog w) A env h r (Rd (.int b)) X) :
    Ev (model prog w) A env h (.BinOp l .Add r pos) (Rd (.int (a + b))) X := ev_bin e1 e2 fun v1 v2 h' k r1 r2 => by
  obtain ⟨t, rfl⟩ := rd_int r1; obtain ⟨u, rfl⟩ := rd_int r2
  exact EvT.ofS fun _ _ _ _ q => P.add_int (q _ _ ⟨_, .int _ _⟩)
theorem ev_sub {l r : Expr} {pos : Pos} {a b : Int} (e1 : Ev (model prog w) A env h l (Rd (.int a)) X) (e2 : Ev (model prog w) A env h r (Rd (.int b)) X) :
    Ev (model prog w) A env h (.BinOp l .Sub r pos) (Rd (.int (a - b))) X := ev_bin e1 e2 fun v1 v2 h' k r1 r2 => by
  obtain ⟨t, rfl⟩ := rd_int r1; obtain ⟨u, rfl⟩ := rd_int r2
  exact EvT.ofS fun _ _ _ _ q => P.sub_int (q _ _ ⟨_, .int _ _⟩)
theorem ev_mul {l r : Expr} {pos : Pos} {a b : Int} (e1 : Ev (model prog w) A env h l (Rd (.int a)) X) (e2 : Ev (model prog w) A env h r (Rd (.int b)) X) (hm : IntMulOk a b) :
    Ev (model prog w) A env h (.BinOp l .Mult r pos) (Rd (.int (a * b))) X := ev_bin e1 e2 fun v1 v2 h' k r1 r2 => by
  obtain ⟨t, rfl⟩ := rd_int r1; obtain ⟨u, rfl⟩ := rd_int r2
  exact EvT.ofS fun _ _ _ _ q => P.mul_int (q _ _ ⟨_, .int _ _⟩) hm
theorem ev_mod {l r : Expr} {pos : Pos} {a b : Int} (e1 : Ev (model prog w) A env h l (Rd (.int a)) X) (e2 : Ev (model prog w) A env h r (Rd (.int b)) X) (hb : 0 < b) :
    Ev (model prog w) A env h (.BinOp l .Mod r pos) (Rd (.int (a % b))) X := ev_bin e1 e2 fun v1 v2 h' k r1 r2 => by
  obtain ⟨t, rfl⟩ := rd_int r1; obtain ⟨u, rfl⟩ := rd_int r2
  refine EvT.ofS fun _ _ _ _ q => PyProof.Rows.mod_int (by (first | lia | omega)) ?_
  rw [Int.fmod_eq_emod_of_nonneg _ (by (first | lia | omega))]
  exact q _ _ ⟨_, .int _ _⟩
theorem ev_neg {x : Expr} {pos : Pos} {a : Int} (e1 : Ev (model prog w) A env h x (Rd (.int a)) X) :
    Ev (model prog w) A env h (.UnaryOp .USub x pos) (Rd (.int (-a))) X := by
  refine ⟨fun s Q E k q x => ?_⟩
  refine wpAny_UnaryOp (e1.go s _ E k (fun v h1 i k1 r1 => ?_) x)
  obtain ⟨t, rfl⟩ := rd_int r1
  exact P.neg_int (q _ _ _ k1 ⟨_, .int _ _⟩)

/-- one comparison, as a value and as a test -/
theorem ev_cmp {l r : Expr} {op : CmpOp} {pos : Pos} {d1 d2 : PyData} {R : Value → Heap → Prop} (e1 : Ev (model prog w) A env h l (Rd d1) X) (e2 : Ev (model prog w) A env h r (Rd d2) X)
    (o : ∀ v1 v2 h', Keep h h' → Rd d1 v1 h' → Rd d2 v2 h' → EvT (model prog w) A h' (compareOp op v1 v2) R X) (hm : pl r = true := by rfl) :
    Ev (model prog w) A env h (.Compare l [op] [r] pos) R X := by
  refine ⟨fun s Q E k q x => ?_⟩
  exact wpAny_Compare1 (EvT.two e1 e2 rd_mono o k q x) (pl_marks hm)
theorem tr_cmp {l r : Expr} {op : CmpOp} {pos : Pos} {d1 d2 : PyData} {b : Bool} (e1 : Ev (model prog w) A env h l (Rd d1) X) (e2 : Ev (model prog w) A env h r (Rd d2) X)
    (o : ∀ v1 v2 h', Keep h h' → Rd d1 v1 h' → Rd d2 v2 h' → EvT (model prog w) A h' (compareOp op v1 v2) (Rd (.bool b)) X) (hm : pl r = true := by rfl) :
    Tr (model prog w) A env h (.Compare l [op] [r] pos) b X := by
  refine ⟨fun s Q E k q x => ?_⟩
  refine wpAny_isTrue_Compare1 ?_ (pl_marks hm)
  exact EvT.two (v := fun a b => compareOp op a b) (Q := fun c s₃ => wpAny (model prog w) A (truthy c) Q E s₃) e1 e2 rd_mono o k (fun c h' i k' r => by cases rd_bool r; exact wpAny_truthy_bool (q _ _ _ k' rfl)) x

/-- int comparisons -/
def icmp : CmpOp → Int → Int → Option Bool
  | .Lt, a, b => some (decide (a < b))
  | .LtE, a, b => some (decide (a ≤ b))
  | .Gt, a, b => some (decide (a > b))
  | .GtE, a, b => some (decide (a ≥ b))
  | .Eq, a, b => some (a == b)
  | .NotEq, a, b => some (a != b)
  | _, _, _ => none
theorem op_icmp {op : CmpOp} {a b : Int} {c : Bool} (e : icmp op a b = some c) {v1 v2 : Value} {h' : Heap} (r1 : Rd (.int a) v1 h') (r2 : Rd (.int b) v2 h') :
    EvT (model prog w) A h' (compareOp op v1 v2) (Rd (.bool c)) X := by
  obtain ⟨t, rfl⟩ := rd_int r1; obtain ⟨u, rfl⟩ := rd_int r2
  cases op <;> cases e
  · exact EvT.ofS fun s _ _ _ q => P.eq_int (q _ s.toks ⟨_, .bool _⟩)
  · exact EvT.ofS fun s _ _ _ q => P.ne_int (q _ s.toks ⟨_, .bool _⟩)
  · exact EvT.ofS fun s _ _ _ q => P.lt_int (q _ s.toks ⟨_, .bool _⟩)
  · exact EvT.ofS fun s _ _ _ q => P.le_int (q _ s.toks ⟨_, .bool _⟩)
  · exact EvT.ofS fun s _ _ _ q => P.gt_int (q _ s.toks ⟨_, .bool _⟩)
  · exact EvT.ofS fun s _ _ _ q => P.ge_int (q _ s.toks ⟨_, .bool _⟩)
theorem ev_icmp {l r : Expr} {op : CmpOp} {pos : Pos} {a b : Int} {c : Bool} (e1 : Ev (model prog w) A env h l (Rd (.int a)) X) (e2 : Ev (model prog w) A env h r (Rd (.int b)) X) (e : icmp op a b = some c)
    (hm : pl r = true := by rfl) : Ev (model prog w) A env h (.Compare l [op] [r] pos) (Rd (.bool c)) X :=
  ev_cmp e1 e2 (fun _ _ _ _ r1 r2 => op_icmp e r1 r2) hm
theorem tr_icmp {l r : Expr} {op : CmpOp} {pos : Pos} {a b : Int} {c : Bool} (e1 : Ev (model prog w) A env h l (Rd (.int a)) X) (e2 : Ev (model prog w) A env h r (Rd (.int b)) X) (e : icmp op a b = some c)
    (hm : pl r = true := by rfl) : Tr (model prog w) A env h (.Compare l [op] [r] pos) c X :=
  tr_cmp e1 e2 (fun _ _ _ _ r1 r2 => op_icmp e r1 r2) hm

/-- tests -/
theorem tr_not {x : Expr} {pos : Pos} {b : Bool} (e : Tr (model prog w) A env h x b X) : Tr (model prog w) A env h (.UnaryOp .Not x pos) (!b) X := by
  refine ⟨fun s Q E k q x => ?_⟩
  refine wpAny_isTrue_Not (e.go s _ E k (fun c h1 i k1 r1 => ?_) x)
  subst r1; exact q _ _ _ k1 rfl
theorem tr_bool {op : BoolOp} {es : List Expr} {pos : Pos} {b : Bool} (e : EvT (model prog w) A h (allTrue op es env) (fun c _ => c = b) X) : Tr (model prog w) A env h (.BoolOp op es pos) b X := by
  refine ⟨fun s Q E k q x => ?_⟩
  exact wpAny_isTrue_BoolOp (e.go s Q E k q x)
theorem all_and_nil : EvT (model prog w) A h (allTrue .And [] env) (fun c _ => c = true) X := EvT.ofS fun s _ _ _ q => wpAny_allTrue_And_nil (q _ s.toks rfl)
theorem all_and {x : Expr} {es : List Expr} {a b : Bool} (e : Tr (model prog w) A env h x a X) (e2 : a = true → EvT (model prog w) A h (allTrue .And es env) (fun c _ => c = b) X) :
    EvT (model prog w) A h (allTrue .And (x :: es) env) (fun c _ => c = (a && b)) X := by
  refine ⟨fun s Q E k q x => ?_⟩
  refine wpAny_allTrue_And_cons (e.go s _ E k (fun c h1 i k1 r1 => ?_) x)
  subst r1
  cases c with
  | false => exact q _ _ _ k1 rfl
  | true => exact ((e2 rfl).up (k.trans k1)).seq (s := { s with heap := h1, toks := i }) Keep.rfl (fun c h2 j k2 r2 => q c h2 j (Keep.trans k1 k2) (by simpa using r2)) (fun y h2 j r => x y h2 j r)
theorem all_or_nil : EvT (model prog w) A h (allTrue .Or [] env) (fun c _ => c = false) X := EvT.ofS fun s _ _ _ q => wpAny_pure (a := false) (q _ s.toks rfl)
theorem all_or {x : Expr} {es : List Expr} {a b : Bool} (e : Tr (model prog w) A env h x a X) (e2 : a = false → EvT (model prog w) A h (allTrue .Or es env) (fun c _ => c = b) X) :
    EvT (model prog w) A h (allTrue .Or (x :: es) env) (fun c _ => c = (a || b)) X := by
  refine ⟨fun s Q E k q x => ?_⟩
  refine wpAny_allTrue_Or_cons (e.go s _ E k (fun c h1 i k1 r1 => ?_) x)
  subst r1
  cases c with
  | true => exact q _ _ _ k1 rfl
  | false => exact ((e2 rfl).up (k.trans k1)).seq (s := { s with heap := h1, toks := i }) Keep.rfl (fun c h2 j k2 r2 => q c h2 j (Keep.trans k1 k2) (by simpa using r2)) (fun y h2 j r => x y h2 j r)
theorem tr_val {e : Expr} {b : Bool} (e1 : Ev (model prog w) A env h e (Rd (.bool b)) X)
    (he : plT e = true := by rfl) : Tr (model prog w) A env h e b X := by
  refine ⟨fun s Q E k q x => ?_⟩
  refine wpAny_isTrue_value (e1.go s _ E k (fun c h1 i k1 r1 => ?_) x) (plT_eq he)
  cases rd_bool r1; exact wpAny_truthy_bool (q _ _ _ k1 rfl)
theorem ev_not {x : Expr} {pos : Pos} {b : Bool} (e : Ev (model prog w) A env h x (Rd (.bool b)) X) : Ev (model prog w) A env h (.UnaryOp .Not x pos) (Rd (.bool (!b))) X := by
  refine ⟨fun s Q E k q x => ?_⟩
  refine wpAny_UnaryOp (e.go s _ E k (fun v h1 i k1 r1 => ?_) x)
  cases rd_bool r1
  exact PyProof.Rows.not_of (wpAny_truthy_bool (q _ _ _ k1 ⟨_, .bool _⟩))

/-- and, or as values: all of them bools -/
theorem bo_last {op : BoolOp} {x : Expr} {pos : Pos} {R : Value → Heap → Prop} (e : Ev (model prog w) A env h x R X) : EvT (model prog w) A h (boolOp pos op [eval x env]) R X := e
theorem bo_and {x y : Expr} {es : List Expr} {pos : Pos} {a b : Bool} (e : Ev (model prog w) A env h x (Rd (.bool a)) X)
    (e2 : a = true → EvT (model prog w) A h (boolOp pos .And (evalEach (y :: es) env)) (Rd (.bool b)) X) :
    EvT (model prog w) A h (boolOp pos .And (evalEach (x :: y :: es) env)) (Rd (.bool (a && b))) X := by
  refine ⟨fun s Q E k q x' => ?_⟩
  show wpAny (model prog w) A (do
    let v ← eval x env
    standAt pos
    let t ← holding [v] (truthy v)
    match BoolOp.And, t with
    | .And, false | .Or, true => pure v
    | _, _ => boolOp pos .And (evalEach (y :: es) env)) Q E s
  refine wpAny_bind (e.go s _ E k (fun v h1 i k1 r1 => ?_) x')
  cases rd_bool r1
  refine wpAny_bind (wpAny_standAt (wpAny_bind (wpAny_holding (wpAny_truthy_bool ?_))))
  cases a with
  | false => exact wpAny_pure (q _ _ _ k1 ⟨_, .bool _⟩)
  | true => exact ((e2 rfl).up (k.trans k1)).seq (s := { s with heap := h1, toks := i }) Keep.rfl (fun c h2 j k2 r2 => q c h2 j (Keep.trans k1 k2) (by simpa using r2)) (fun y h2 j r => x' y h2 j r)
theorem bo_or {x y : Expr} {es : List Expr} {pos : Pos} {a b : Bool} (e : Ev (model prog w) A env h x (Rd (.bool a)) X)
    (e2 : a = false → EvT (model prog w) A h (boolOp pos .Or (evalEach (y :: es) env)) (Rd (.bool b)) X) :
    EvT (model prog w) A h (boolOp pos .Or (evalEach (x :: y :: es) env)) (Rd (.bool (a || b))) X := by
  refine ⟨fun s Q E k q x' => ?_⟩
  show wpAny (model prog w) A (do
    let v ← eval x env
    standAt pos
    let t ← holding [v] (truthy v)
    match BoolOp.Or, t with
    | .And, false | .Or, true => pure v
    | _, _ => boolOp pos .Or (evalEach (y :: es) env)) Q E s
  refine wpAny_bind (e.go s _ E k (fun v h1 i k1 r1 => ?_) x')
  cases rd_bool r1
  refine wpAny_bind (wpAny_standAt (wpAny_bind (wpAny_holding (wpAny_truthy_bool ?_))))
  cases a with
  | true => exact wpAny_pure (q _ _ _ k1 ⟨_, .bool _⟩)
  | false => exact ((e2 rfl).up (k.trans k1)).seq (s := { s with heap := h1, toks := i }) Keep.rfl (fun c h2 j k2 r2 => q c h2 j (Keep.trans k1 k2) (by simpa using r2)) (fun y h2 j r => x' y h2 j r)
theorem ev_bop {op : BoolOp} {es : List Expr} {pos : Pos} {R : Value → Heap → Prop} (e : EvT (model prog w) A h (boolOp pos op (evalEach es env)) R X) : Ev (model prog w) A env h (.BoolOp op es pos) R X := by
  refine ⟨fun s Q E k q x => ?_⟩
  rw [arm_eval_BoolOp]; exact e.go s Q E k q x
/-- argument lists, displays -/
abbrev EvL (M : Model) (A : Around) (env : Env) (h : Heap) (pos : Pos) (es : List Expr) (ds : List PyData) (X : Value → Heap → Prop) : Prop := EvT M A h (spliced (backTo pos (starEach es env))) (RdL ds) X
theorem evl_nil {pos : Pos} : EvL (model prog w) A env h pos [] [] X := EvT.ofS fun s _ _ _ q => PyProof.Rows.args_nil (q _ s.toks RdL.nil)
theorem evl_cons {pos : Pos} {x : Expr} {es : List Expr} {d : PyData} {ds : List PyData} (e : Ev (model prog w) A env h x (Rd d) X) (e2 : EvL (model prog w) A env h pos es ds X)
    (he : pl x = true := by rfl) : EvL (model prog w) A env h pos (x :: es) (d :: ds) X := by
  refine ⟨fun s Q E k q x => ?_⟩
  refine PyProof.Rows.args_cons (e.go s _ E k (fun v h1 i k1 r1 => ?_) x) (pl_star he)
  exact (e2.up (k.trans k1)).seq (s := { s with heap := h1, toks := i }) Keep.rfl (fun c h2 j k2 r2 => q _ h2 j (Keep.trans k1 k2) (RdL.cons (r1.keep k2) r2)) (fun y h2 j r => x y h2 j r)

theorem ev_tup {es : List Expr} {n : Nat} {pos : Pos} {ds : List PyData} (e : EvL (model prog w) A env h pos es ds X) (hn : ds.length ≤ sizeLine := by simp only [List.length_cons, List.length_nil]; decide) : Ev (model prog w) A env h (.Tuple es n pos) (Rd (.tuple ds)) X := by
  refine ⟨fun s Q E k q x => ?_⟩
  refine wpAny_Tuple (e.go s _ E k (fun vs h1 i k1 r1 => ⟨by rw [r1.len]; exact hn, ?_⟩) x)
  obtain ⟨as, y⟩ := r1.keep (Keep.push Keep.rfl { cls := .type "tuple", data := .seq vs.toArray })
  exact q _ _ _ (Keep.push k1 _) ⟨_, .tuple (Heap.get?_push_size _ rfl) rfl rfl (by simpa using y)⟩
theorem ev_list {es : List Expr} {pos : Pos} {ds : List PyData} (e : EvL (model prog w) A env h pos es ds X) (hn : ds.length ≤ sizeLine := by simp only [List.length_cons, List.length_nil]; decide) : Ev (model prog w) A env h (.List es pos) (Rl h ds) X := by
  refine ⟨fun s Q E k q x => ?_⟩
  refine wpAny_List (e.go s _ E k (fun vs h1 i k1 r1 => ⟨by rw [r1.len]; exact hn, ?_⟩) x)
  refine q _ _ _ (Keep.push k1 _) ⟨_, _, rfl, ⟨_, Heap.get?_push_size _ rfl⟩, by simpa using r1.keep (Keep.push Keep.rfl _), ?_⟩
  cases hq : h.get? h1.objs.size with
  | none => rfl
  | some o => exact absurd (Heap.lt_size (k1 _ _ (k _ _ hq))) (Nat.lt_irrefl _)
end
end Mine

namespace Mine
open PySem PySem.Spec PySem.Calls PyProof.Rows

/-- an object that no datum is read from -/
def Odd (a : Addr) (h : Heap) : Prop := ∀ o, h.get? a = some o → (∀ vs n, o.data ≠ .seq vs n) ∧ (∀ es n, o.data ≠ .dict es n)
/-- an object that is no tuple -/
def NoTup (a : Addr) (h : Heap) : Prop := ∀ o, h.get? a = some o → o.cls = .type "tuple" → ∀ vs n, o.data ≠ .seq vs n
mutual
theorem reads_kp {W : List Addr} {h h' : Heap} (k : Kp W h h') : ∀ {v : Value} {d : PyData} {as : List Addr}, (∀ a ∈ W, Odd a h ∨ (a ∉ as ∧ NoTup a h)) → Reads h v d as → Reads h' v d as
  | _, _, _, _, .none => .none
  | _, _, _, _, .bool _ => .bool _
  | _, _, _, _, .int _ _ => .int _ _
  | _, _, _, _, .str _ _ => .str _ _
  | _, _, _, hw, .list h1 h2 h3 y => by
    refine .list (k _ _ (fun ha => ?_) h1) h2 h3 (readsAll_kp k (fun b hb => (hw b hb).imp id fun q => ⟨fun e => q.1 (.tail _ e), q.2⟩) y)
    rcases hw _ ha with q | q
    · exact (q _ h1).1 _ _ h3
    · exact q.1 (.head _)
  | _, _, _, hw, .tuple h1 h2 h3 y => by
    refine .tuple (k _ _ (fun ha => ?_) h1) h2 h3 (readsAll_kp k hw y)
    rcases hw _ ha with q | q
    · exact (q _ h1).1 _ _ h3
    · exact q.2 _ h1 h2 _ _ h3
  | _, _, _, hw, .dict h1 h2 h3 y z => by
    refine .dict (k _ _ (fun ha => ?_) h1) h2 h3 (readsAll_kp k (fun b hb => (hw b hb).imp id fun q => ⟨fun e => q.1 (.tail _ (List.mem_append_left _ e)), q.2⟩) y)
      (readsAll_kp k (fun b hb => (hw b hb).imp id fun q => ⟨fun e => q.1 (.tail _ (List.mem_append_right _ e)), q.2⟩) z)
    rcases hw _ ha with q | q
    · exact (q _ h1).2 _ _ h3
    · exact q.1 (.head _)
theorem readsAll_kp {W : List Addr} {h h' : Heap} (k : Kp W h h') : ∀ {vs : List Value} {ds : List PyData} {as : List Addr}, (∀ a ∈ W, Odd a h ∨ (a ∉ as ∧ NoTup a h)) → ReadsAll h vs ds as → ReadsAll h' vs ds as
  | _, _, _, _, .nil => .nil
  | _, _, _, hw, .cons x y => .cons (reads_kp k (fun b hb => (hw b hb).imp id fun q => ⟨fun e => q.1 (List.mem_append_left _ e), q.2⟩) x)
      (readsAll_kp k (fun b hb => (hw b hb).imp id fun q => ⟨fun e => q.1 (List.mem_append_right _ e), q.2⟩) y)
end

mutual
theorem reads_some {h : Heap} : ∀ {v : Value} {d : PyData} {as : List Addr}, Reads h v d as → ∀ a ∈ as, ∃ o, h.get? a = some o
  | _, _, _, .none, _, ha => nomatch ha
  | _, _, _, .bool _, _, ha => nomatch ha
  | _, _, _, .int _ _, _, ha => nomatch ha
  | _, _, _, .str _ _, _, ha => nomatch ha
  | _, _, _, .list h1 _ _ y, _, ha => by
    cases ha with
    | head => exact ⟨_, h1⟩
    | tail _ ha => exact readsAll_some y _ ha
  | _, _, _, .tuple _ _ _ y, _, ha => readsAll_some y _ ha
  | _, _, _, .dict h1 _ _ y z, _, ha => by
    cases ha with
    | head => exact ⟨_, h1⟩
    | tail _ ha => exact (List.mem_append.mp ha).elim (readsAll_some y _) (readsAll_some z _)
theorem readsAll_some {h : Heap} : ∀ {vs : List Value} {ds : List PyData} {as : List Addr}, ReadsAll h vs ds as → ∀ a ∈ as, ∃ o, h.get? a = some o
  | _, _, _, .nil, _, ha => nomatch ha
  | _, _, _, .cons x y, _, ha => (List.mem_append.mp ha).elim (reads_some x _) (readsAll_some y _)
end

abbrev Locs := List (Str × PyData)
abbrev Mut := Option (Str × Addr × List PyData)
/-- what is known of a frame: some of its names, and one list of its own that may be changed -/
structure St (g : Heap) (L : Addr) (h : Heap) (ρ : Locs) (μ : Mut) : Prop where
  ex : ∃ m, Fr g L h m ∧ (∀ x d, ρ.lookup x = some d → ∃ v as, m x = some v ∧ Reads h v d as ∧ L ∉ as ∧ ∀ q, μ = some q → q.2.1 ∉ as) ∧
    (∀ q, μ = some q → m q.1 = some (.ref q.2.1) ∧ g.get? q.2.1 = none ∧ flatL q.2.2 = true ∧ ∃ items, h.PlainList q.2.1 items ∧ RdL q.2.2 items.toList h)

theorem noTup_L {h₀ h : Heap} {L : Addr} {m} (F : Fr h₀ L h m) : NoTup L h := by
  obtain ⟨o, es, ep, ho, hd, _⟩ := F.ns
  intro o' ho' _ vs n e
  rw [ho] at ho'; cases ho'; rw [hd] at e; cases e
theorem noTup_list {h : Heap} {l : Addr} {items} (p : h.PlainList l items) : NoTup l h := by
  obtain ⟨n, p⟩ := p
  intro o ho hc
  rw [p] at ho; cases ho; simp at hc
theorem L_some {h₀ h : Heap} {L : Addr} {m} (F : Fr h₀ L h m) : ∃ o, h.get? L = some o := by
  obtain ⟨o, es, ep, ho, r⟩ := F.ns
  exact ⟨o, ho⟩
theorem L_ne_list {h₀ h : Heap} {L l : Addr} {m} {items} (F : Fr h₀ L h m) (p : h.PlainList l items) : l ≠ L := by
  obtain ⟨n, p⟩ := p
  obtain ⟨o, es, ep, ho, hd, _⟩ := F.ns
  intro e; subst e
  rw [p] at ho; cases ho; cases hd

theorem plain_kp {W : List Addr} {h h' : Heap} {l : Addr} {items} (k : Kp W h h') (n : l ∉ W) (p : h.PlainList l items) : h'.PlainList l items := let ⟨i, p⟩ := p; ⟨i, k _ _ n p⟩
theorem rdl_flat_kp {W : List Addr} {h h' : Heap} {ds vs} (k : Kp W h h') (hf : flatL ds = true) (hw : ∀ a ∈ W, NoTup a h) (r : RdL ds vs h) : RdL ds vs h' := by
  obtain ⟨as, x⟩ := r
  have e := flatL_nil hf x
  subst e
  exact ⟨_, readsAll_kp k (fun a ha => .inr ⟨List.not_mem_nil, hw a ha⟩) x⟩

section
variable {g h h' : Heap} {L : Addr} {ρ ρ' : Locs} {μ : Mut}
theorem St.keep (S : St g L h ρ μ) (k : Keep h h') : St g L h' ρ μ := by
  obtain ⟨m, F, hr, hm⟩ := S.ex
  refine ⟨m, F.after k, fun x d e => ?_, fun q e => ?_⟩
  · obtain ⟨v, as, a, b, c⟩ := hr x d e
    exact ⟨v, as, a, PyProof.Rows.Reads.keeps k b, c⟩
  · obtain ⟨a, b, c, items, ⟨n, p⟩, r⟩ := hm q e
    exact ⟨a, b, c, items, ⟨n, k _ _ p⟩, r.keep k⟩
theorem St.frK (S : St g L h ρ μ) : Keep g h := by obtain ⟨m, F, _⟩ := S.ex; exact F.keep
def Sub (ρ : Locs) : Locs → Prop
  | [] => True
  | p :: r => ρ.lookup p.1 = some p.2 ∧ Sub ρ r
theorem Sub.at {ρ : Locs} : ∀ {ρ' : Locs}, Sub ρ ρ' → ∀ x d, ρ'.lookup x = some d → ρ.lookup x = some d
  | [], _, _, _, e => nomatch e
  | (y, d') :: r, hs, x, d, e => by
    rw [List.lookup_cons] at e
    cases hb : x == y with
    | true => rw [hb] at e; cases e; rw [eq_of_beq hb]; exact hs.1
    | false => rw [hb] at e; exact hs.2.at x d e
theorem St.pick (S : St g L h ρ μ) (hs : Sub ρ ρ') : St g L h ρ' μ := by
  obtain ⟨m, F, hr, hm⟩ := S.ex
  exact ⟨m, F, fun x d e => hr x d (hs.at x d e), hm⟩
/-- the list is changed no more -/
theorem St.freeze {x : Str} {l : Addr} {ds : List PyData} (S : St g L h ρ (some (x, l, ds))) : St g L h ((x, .list ds) :: ρ) none := by
  obtain ⟨m, F, hr, hm⟩ := S.ex
  refine ⟨m, F, fun y d e => ?_, fun q e => nomatch e⟩
  rw [List.lookup_cons] at e
  cases hb : y == x with
  | true =>
    rw [hb] at e; cases e
    obtain ⟨a, b, c, items, p, ⟨as, r⟩⟩ := hm _ rfl
    have e := flatL_nil c r
    subst e
    obtain ⟨n, p'⟩ := id p
    refine ⟨_, _, by rw [eq_of_beq hb]; exact a, .list p' rfl rfl r, ?_, fun q e => nomatch e⟩
    intro hL
    cases hL with
    | head => exact L_ne_list F p rfl
    | tail _ e => cases e
  | false =>
    rw [hb] at e
    obtain ⟨v, as, a, b, c, _⟩ := hr y d e
    exact ⟨v, as, a, b, c, fun q e => nomatch e⟩
/-- changes at objects that bear nothing known -/
theorem St.odd {a : Addr} (S : St g L h ρ μ) (ho : Odd a h) (hs : ∃ o, h.get? a = some o) (hg : g.get? a = none) (k : Kp [a] h h') : St g L h' ρ μ := by
  obtain ⟨m, F, hr, hm⟩ := S.ex
  obtain ⟨o, hs⟩ := hs
  have hL : L ≠ a := by
    intro e; subst e
    obtain ⟨o', es, ep, ho', hd, _⟩ := F.ns
    exact (ho o' ho').2 _ _ hd
  refine ⟨m, ⟨?_, fun b o e => k b o ?_ (F.keep b o e), F.above⟩, fun x d e => ?_, fun q e => ?_⟩
  · obtain ⟨o', es, ep, ho', r⟩ := F.ns
    exact ⟨o', es, ep, k _ _ (by simp [hL]) ho', r⟩
  · intro hb
    rw [List.mem_singleton] at hb; subst hb; rw [hg] at e; cases e
  · obtain ⟨v, as, a, b, c⟩ := hr x d e
    exact ⟨v, as, a, reads_kp k (fun y hy => by rw [List.mem_singleton] at hy; subst hy; exact .inl ho) b, c⟩
  · obtain ⟨a', b, c, items, p, r⟩ := hm q e
    have hl : q.2.1 ≠ a := by
      intro e; obtain ⟨n, p⟩ := p
      rw [e] at p
      exact (ho _ p).1 _ _ rfl
    refine ⟨a', b, c, items, plain_kp k (by simp [hl]) p, ?_⟩
    obtain ⟨as, r⟩ := r
    exact ⟨as, readsAll_kp k (fun y hy => by rw [List.mem_singleton] at hy; subst hy; exact .inl ho) r⟩
end

/-- statements: whatever stands stays, but for the frame's names and the lists at Ws -/
structure Run (M : Model) (A : Around) (env : Env) (Ws : List Addr) (ss : List Stmt) (h : Heap) (P : Flow → Heap → Prop) (X : Value → Heap → Prop) : Prop where
  go : ∀ (s : Shared) (Q : Flow → Shared → Prop) (E : Value → Shared → Prop), s.heap = h → PassesOwn M A env E →
    (∀ fl h' k, Kp (env.locals :: Ws) h h' → P fl h' → Q fl { s with heap := h', toks := k }) →
    (∀ x h' k, X x h' → E x { s with heap := h', toks := k }) → wpAny M A (execs ss env) Q E s
abbrev NoX : Value → Heap → Prop := fun _ _ => False

section
variable {prog : Program} {w : World} {A : Around} {env : Env} {h : Heap} {X : Value → Heap → Prop} {Ws : List Addr} {P : Flow → Heap → Prop} {rest : List Stmt}
theorem run_nil (p : P .next h) : Run (model prog w) A env Ws [] h P X := by
  refine ⟨fun s Q E e po q x => ?_⟩; subst e
  exact wpAny_execs_nil (q _ s.heap s.toks Kp.rfl p)
theorem run_sub {Ws' : List Addr} {ss : List Stmt} (r : Run (model prog w) A env Ws ss h P X) (hs : ∀ b ∈ Ws, b ∈ Ws') : Run (model prog w) A env Ws' ss h P X := by
  refine ⟨fun s Q E e po q x => ?_⟩
  exact r.go s Q E e po (fun fl h' k kp p => q fl h' k (kp.mono fun b hb => by
    cases hb with
    | head => exact .head _
    | tail _ hb => exact .tail _ (hs b hb)) p) x
theorem run_ret {e : Expr} {pos : Pos} {R : Value → Heap → Prop} (ev : Ev (model prog w) A env h e R X) (k : ∀ v h', Keep h h' → R v h' → P (.ret v) h') : Run (model prog w) A env Ws (.Return (some e) pos :: rest) h P X := by
  refine ⟨fun s Q E e po q x => ?_⟩; subst e
  refine wpAny_execs_cons (wpAny_Return_some (ev.go s _ E Keep.rfl (fun v h' i k' r => ?_) x))
  exact q _ _ _ k'.kp (k v h' k' r)
theorem run_expr {e : Expr} {pos : Pos} {R : Value → Heap → Prop} (ev : Ev (model prog w) A env h e R X) (k : ∀ v h', Keep h h' → R v h' → Run (model prog w) A env Ws rest h' P X)
    (hi : interactive env = false := by rfl) (hs : pl e = true := by rfl) : Run (model prog w) A env Ws (.Expr e pos :: rest) h P X := by
  refine ⟨fun s Q E e po q x => ?_⟩; subst e
  refine wpAny_execs_cons (wpAny_Expr_any (ev.go s _ E Keep.rfl (fun v h' i k' r => ?_) x) hi (pl_swaps hs))
  exact (k v h' k' r).go _ Q E rfl po (fun fl h2 j kp p => q fl h2 j (k'.kp.trans kp) p) (fun y h2 j r => x y h2 j r)

theorem run_ifH {test : Expr} {body orelse : List Stmt} {pos : Pos} {c : Bool} (t : Tr (model prog w) A env h test c X)
    (k1 : c = true → ∀ h', Keep h h' → Run (model prog w) A env Ws body h' (fun fl h2 => match fl with | .next => Run (model prog w) A env Ws rest h2 P X | fl => P fl h2) X)
    (k2 : c = false → ∀ h', Keep h h' → Run (model prog w) A env Ws orelse h' (fun fl h2 => match fl with | .next => Run (model prog w) A env Ws rest h2 P X | fl => P fl h2) X) :
    Run (model prog w) A env Ws (.If test body orelse pos :: rest) h P X := by
  refine ⟨fun s Q E e po q x => ?_⟩; subst e
  refine wpAny_execs_cons (wpAny_If (t.go s _ E Keep.rfl (fun c' h1 i k' r => ?_) x))
  subst r
  have fin : ∀ (ss : List Stmt), Run (model prog w) A env Ws ss h1 (fun fl h2 => match fl with | .next => Run (model prog w) A env Ws rest h2 P X | fl => P fl h2) X →
      wpAny (model prog w) A (execs ss env) (fun f s' => match f with | .next => wpAny (model prog w) A (execs rest env) Q E s' | f => Q f s') E { s with heap := h1, toks := i } := by
    intro ss r
    refine r.go _ _ E rfl po (fun fl h2 j kp p => ?_) (fun y h2 j r => x y h2 j r)
    cases fl with
    | next => exact p.go _ Q E rfl po (fun fl h3 j kp' p' => q fl h3 j (k'.kp.trans (kp.trans kp')) p') (fun y h2 j r => x y h2 j r)
    | brk => exact q _ _ _ (k'.kp.trans kp) p
    | cont => exact q _ _ _ (k'.kp.trans kp) p
    | ret v => exact q _ _ _ (k'.kp.trans kp) p
  cases c' with
  | true => exact fin _ (k1 rfl h1 k')
  | false => exact fin _ (k2 rfl h1 k')
end

section
variable {prog : Program} {w : World} {A : Around} {nm : Str} {sc : Scope} {L fa : Addr} {cd : Value} {g h : Heap} {ρ : Locs} {μ : Mut} {X : Value → Heap → Prop} {Ws : List Addr} {P : Flow → Heap → Prop} {rest : List Stmt}

theorem ev_var {x : Str} {pos : Pos} {d : PyData} (S : St g L h ρ μ) (hv : ρ.lookup x = some d) (hk : sc.kind = .function := by rfl) (hl : (envOf nm sc L fa cd).kindOf x = some .local := by rfl)
    (hd : (x == ("__debug__" : Str)) = false := by decide) : Ev (model prog w) A (envOf nm sc L fa cd) h (.Name x pos) (Rd d) X :=
  EvT.ofS fun s Q E k q => by
    obtain ⟨m, F, hr, _⟩ := (S.keep k).ex
    obtain ⟨v, as, hm, r, _⟩ := hr x d hv
    exact ld F hm (q v s.toks ⟨as, r⟩) hk hl hd
theorem ev_mut {x : Str} {pos : Pos} {l : Addr} {ds : List PyData} (S : St g L h ρ (some (x, l, ds))) (hk : sc.kind = .function := by rfl) (hl : (envOf nm sc L fa cd).kindOf x = some .local := by rfl)
    (hd : (x == ("__debug__" : Str)) = false := by decide) : Ev (model prog w) A (envOf nm sc L fa cd) h (.Name x pos) (Rd (.list ds)) X :=
  EvT.ofS fun s Q E k q => by
    obtain ⟨m, F, _, hm⟩ := (S.keep k).ex
    obtain ⟨hv, _, _, items, ⟨n, p⟩, as, r⟩ := hm _ rfl
    exact ld F hv (q _ s.toks ⟨_, .list p rfl rfl r⟩) hk hl hd
theorem ev_mutL {x : Str} {pos : Pos} {l : Addr} {ds : List PyData} (S : St g L h ρ (some (x, l, ds))) (hk : sc.kind = .function := by rfl) (hl : (envOf nm sc L fa cd).kindOf x = some .local := by rfl)
    (hd : (x == ("__debug__" : Str)) = false := by decide) : Ev (model prog w) A (envOf nm sc L fa cd) h (.Name x pos) (fun v _ => v = .ref l) X :=
  EvT.ofS fun s Q E k q => by
    obtain ⟨m, F, _, hm⟩ := (S.keep k).ex
    obtain ⟨hv, _⟩ := hm _ rfl
    exact ld F hv (q _ s.toks rfl) hk hl hd

theorem fr_set {m : Str → Option Value} {h' : Heap} {x : Str} {v : Value} (F : Fr g L h m) (hn : h'.Ns L (fun y => if y = x then some v else m y)) (hs : Heap.SameBut L h h') : Fr g L h' (fun y => if y = x then some v else m y) := F.set hn hs
theorem kp_same {a : Addr} {h h' : Heap} (hs : Heap.SameBut a h h') : Kp [a] h h' := fun b o n e => by
  rw [hs.2 b (by simpa using n)]; exact e

/-- a name bound to a datum -/
theorem St.store {x : Str} {v : Value} {d : PyData} {as : List Addr} {h' : Heap} {m : Str → Option Value} (S : St g L h ρ μ) (hμ : ∀ q, μ = some q → q.1 ≠ x) (F₀ : Fr g L h m) (r : Reads h v d as) (nL : L ∉ as) (nl : ∀ q, μ = some q → q.2.1 ∉ as)
    (hn : h'.Ns L (fun y => if y = x then some v else m y)) (hs : Heap.SameBut L h h') : St g L h' ((x, d) :: ρ) μ := by
  obtain ⟨m', F, hr, hm⟩ := S.ex
  have em : m' = m := by
    obtain ⟨o, es, ep, h1, h2, _, h4⟩ := F.ns
    obtain ⟨o', es', ep', h1', h2', _, h4'⟩ := F₀.ns
    rw [h1] at h1'; cases h1'; rw [h2] at h2'; cases h2'
    funext y; rw [← h4, ← h4']
  subst em
  have k := kp_same hs
  have hW : ∀ (bs : List Addr), L ∉ bs → ∀ a ∈ [L], Odd a h ∨ (a ∉ bs ∧ NoTup a h) := fun bs hb a ha => by
    rw [List.mem_singleton] at ha; subst ha; exact .inr ⟨hb, noTup_L F⟩
  refine ⟨_, fr_set F hn hs, fun y d' e => ?_, fun q e => ?_⟩
  · rw [List.lookup_cons] at e
    by_cases hb : y = x
    · subst hb
      rw [beq_self_eq_true] at e; cases e
      exact ⟨v, as, by simp, reads_kp k (hW _ nL) r, nL, nl⟩
    · rw [beq_eq_false_iff_ne.mpr hb] at e
      obtain ⟨v', as', a, b, c, d⟩ := hr y d' e
      exact ⟨v', as', by simp [hb, a], reads_kp k (hW _ c) b, c, d⟩
  · obtain ⟨a, b, c, items, p, r'⟩ := hm q e
    refine ⟨by simp [hμ q e, a], b, c, items, plain_kp k (by simpa using L_ne_list F p) p, rdl_flat_kp k c (fun a ha => ?_) r'⟩
    rw [List.mem_singleton] at ha; subst ha; exact noTup_L F

theorem run_assign {x : Str} {px pos : Pos} {e : Expr} {d : PyData} (S : St g L h ρ μ) (ev : Ev (model prog w) A (envOf nm sc L fa cd) h e (Rf h d) X)
    (k : ∀ h', St g L h' ((x, d) :: ρ) μ → Run (model prog w) A (envOf nm sc L fa cd) Ws rest h' P X)
    (hμ : ∀ q, μ = some q → q.1 ≠ x := by intro q e; first | (cases e; done) | (cases e; dsimp only; decide)) (hk : sc.kind = .function := by rfl) (hl : (envOf nm sc L fa cd).kindOf x = some .local := by rfl)
    (hs : pl e = true := by rfl) : Run (model prog w) A (envOf nm sc L fa cd) Ws (.Assign [.Name x px] e pos :: rest) h P X := by
  refine ⟨fun s Q E e po q x' => ?_⟩; subst e
  refine wpAny_execs_cons (wpAny_Assign_Name (ev.go s _ E Keep.rfl (fun v h1 i k1 r => ?_) x') (pl_swaps hs))
  obtain ⟨m, F, hr, hm⟩ := (S.keep k1).ex
  obtain ⟨as, r, hf⟩ := r
  refine wpAny_storeName_local hl F.ns (fun h' hn hsb => ?_) (by show (sc.kind == .class || (sc.kind == .module && L != mainGlobals)) = false; rw [hk]; rfl)
  have S' : St g L h' ((x, d) :: ρ) μ := by
    refine (S.keep k1).store hμ F r (fun hL => ?_) (fun q e hl => ?_) hn hsb
    · obtain ⟨m0, F0, _⟩ := S.ex
      obtain ⟨o, ho⟩ := L_some F0
      rw [hf L hL] at ho; cases ho
    · obtain ⟨m0, F0, _, hm0⟩ := S.ex
      obtain ⟨_, _, _, items, ⟨n, p⟩, _⟩ := hm0 q e
      rw [hf _ hl] at p; cases p
  exact (k h' S').go _ Q E rfl po (fun fl h2 j kp p => q fl h2 j ((k1.kp.trans ((kp_same hsb).mono fun b hb => by rw [List.mem_singleton] at hb; subst hb; exact .head _)).trans kp) p) (fun y h2 j r => x' y h2 j r)
/-- ... a datum without lists in it -/
theorem run_set {x : Str} {px pos : Pos} {e : Expr} {d : PyData} (S : St g L h ρ μ) (ev : Ev (model prog w) A (envOf nm sc L fa cd) h e (Rd d) X)
    (k : ∀ h', St g L h' ((x, d) :: ρ) μ → Run (model prog w) A (envOf nm sc L fa cd) Ws rest h' P X) (hf : flat d = true := by rfl)
    (hμ : ∀ q, μ = some q → q.1 ≠ x := by intro q e; first | (cases e; done) | (cases e; dsimp only; decide)) (hk : sc.kind = .function := by rfl) (hl : (envOf nm sc L fa cd).kindOf x = some .local := by rfl)
    (hs : pl e = true := by rfl) : Run (model prog w) A (envOf nm sc L fa cd) Ws (.Assign [.Name x px] e pos :: rest) h P X :=
  run_assign S (ev.mono fun _ _ _ r => .of_flat hf r) k hμ hk hl hs
/-- ... a new list that is to be changed -/
theorem run_own {x : Str} {px pos : Pos} {e : Expr} {ds : List PyData} (S : St g L h ρ none) (ev : Ev (model prog w) A (envOf nm sc L fa cd) h e (Rl h ds) X)
    (k : ∀ l h', St g L h' ρ (some (x, l, ds)) → Run (model prog w) A (envOf nm sc L fa cd) (l :: Ws) rest h' P X) (hf : flatL ds = true := by rfl) (hx : ρ.lookup x = none := by rfl)
    (hk : sc.kind = .function := by rfl) (hl : (envOf nm sc L fa cd).kindOf x = some .local := by rfl)
    (hs : pl e = true := by rfl) : Run (model prog w) A (envOf nm sc L fa cd) Ws (.Assign [.Name x px] e pos :: rest) h P X := by
  refine ⟨fun s Q E e po q x' => ?_⟩; subst e
  refine wpAny_execs_cons (wpAny_Assign_Name (ev.go s _ E Keep.rfl (fun v h1 i k1 r => ?_) x') (pl_swaps hs))
  obtain ⟨m, F, hr, hm⟩ := (S.keep k1).ex
  obtain ⟨l, items, rfl, p, r, fresh⟩ := r
  refine wpAny_storeName_local hl F.ns (fun h' hn hsb => ?_) (by show (sc.kind == .class || (sc.kind == .module && L != mainGlobals)) = false; rw [hk]; rfl)
  have kp1 : Kp [L] h1 h' := kp_same hsb
  have S' : St g L h' ρ (some (x, l, ds)) := by
    refine ⟨_, fr_set F hn hsb, fun y d' e => ?_, fun q e => ?_⟩
    · have hy : y ≠ x := fun hb => by subst hb; rw [hx] at e; cases e
      obtain ⟨m0, F0, hr0, _⟩ := S.ex
      obtain ⟨v', as', a, b, c, _⟩ := hr0 y d' e
      have em : m0 = m := by
        obtain ⟨o, es, ep, h1, h2, _, h4⟩ := (F0.after k1).ns
        obtain ⟨o', es', ep', h1', h2', _, h4'⟩ := F.ns
        rw [h1] at h1'; cases h1'; rw [h2] at h2'; cases h2'
        funext y; rw [← h4, ← h4']
      subst em
      refine ⟨v', as', by simp [hy, a], reads_kp kp1 (fun a ha => ?_) (PyProof.Rows.Reads.keeps k1 b), c, fun q e hq => ?_⟩
      · rw [List.mem_singleton] at ha; subst ha; exact .inr ⟨c, noTup_L F⟩
      · cases e
        have : ∃ o, s.heap.get? l = some o := reads_some b l hq
        obtain ⟨o, ho⟩ := this
        rw [fresh] at ho; cases ho
    · cases e
      refine ⟨by simp, ?_, hf, items, plain_kp kp1 (by simpa using L_ne_list F p) p, rdl_flat_kp kp1 hf (fun a ha => ?_) r⟩
      · exact S.frK.none fresh
      · rw [List.mem_singleton] at ha; subst ha; exact noTup_L F
  refine (k l h' S').go _ Q E rfl po (fun fl h2 j kp p' => q fl h2 j ?_ p') (fun y h2 j r => x' y h2 j r)
  intro b o nb eb
  have hbl : b ≠ l := fun e => by subst e; rw [fresh] at eb; cases eb
  have hbL : b ≠ L := fun e => nb (by rw [e]; exact .head _)
  refine kp b o ?_ (kp1 b o (by simpa using hbL) (k1 b o eb))
  intro hb
  cases hb with
  | head => exact nb (.head _)
  | tail _ hb => cases hb with
    | head => exact hbl rfl
    | tail _ hb => exact nb (.tail _ hb)

theorem run_if {test : Expr} {body orelse : List Stmt} {pos : Pos} {c : Bool} (S : St g L h ρ μ) (t : Tr (model prog w) A (envOf nm sc L fa cd) h test c X)
    (k1 : c = true → ∀ h', St g L h' ρ μ → Run (model prog w) A (envOf nm sc L fa cd) Ws body h' (fun fl h2 => match fl with | .next => Run (model prog w) A (envOf nm sc L fa cd) Ws rest h2 P X | fl => P fl h2) X)
    (k2 : c = false → ∀ h', St g L h' ρ μ → Run (model prog w) A (envOf nm sc L fa cd) Ws orelse h' (fun fl h2 => match fl with | .next => Run (model prog w) A (envOf nm sc L fa cd) Ws rest h2 P X | fl => P fl h2) X) :
    Run (model prog w) A (envOf nm sc L fa cd) Ws (.If test body orelse pos :: rest) h P X :=
  run_ifH t (fun e h' kp => k1 e h' (S.keep kp)) (fun e h' kp => k2 e h' (S.keep kp))

theorem run_while {test : Expr} {body : List Stmt} {pos : Pos} (J : Nat → Locs → Mut → Prop) (n : Nat) (S : St g L h ρ μ) (j0 : J n ρ μ)
    (step : ∀ n ρ μ h, J n ρ μ → St g L h ρ μ → ∃ b, Tr (model prog w) A (envOf nm sc L fa cd) h test b X ∧
      (b = true → ∀ h', St g L h' ρ μ → Run (model prog w) A (envOf nm sc L fa cd) Ws body h' (fun fl h2 => match fl with
        | .next | .cont => ∃ m ρ' μ', m < n ∧ J m ρ' μ' ∧ St g L h2 ρ' μ'
        | .brk => Run (model prog w) A (envOf nm sc L fa cd) Ws rest h2 P X
        | .ret v => P (.ret v) h2) X) ∧
      (b = false → ∀ h', St g L h' ρ μ → Run (model prog w) A (envOf nm sc L fa cd) Ws rest h' P X)) :
    Run (model prog w) A (envOf nm sc L fa cd) Ws (.While test body [] pos :: rest) h P X := by
  refine ⟨fun s Q E e po q x => ?_⟩; subst e
  refine wpAny_execs_cons (wpAny_While ?_)
  refine codeAny_whileLoop (I := fun n s' => ∃ h' k ρ μ, s' = { s with heap := h', toks := k } ∧ Kp (L :: Ws) s.heap h' ∧ J n ρ μ ∧ St g L h' ρ μ) (fun n s' hI => ?_) n ⟨s.heap, s.toks, ρ, μ, rfl, Kp.rfl, j0, S⟩
  obtain ⟨h1, k1, ρ1, μ1, rfl, kp1, hJ, S1⟩ := hI
  obtain ⟨b, tr, yes, no⟩ := step n ρ1 μ1 h1 hJ S1
  refine wpAny_mono (tr.seq (s := { s with heap := h1, toks := k1 }) (Q := fun c s' => ∃ h2 k2, c = b ∧ s' = { s with heap := h2, toks := k2 } ∧ Keep h1 h2) (E := E) Keep.rfl (fun c h2 k2 kk r => ⟨h2, k2, r, rfl, kk⟩) (fun y h2 j r => x y h2 j r)) (fun c s' hc => ?_) po
  obtain ⟨h2, k2, r, rfl, kk⟩ := hc
  subst r
  have goOn : ∀ h3, Kp (L :: Ws) s.heap h3 → Run (model prog w) A (envOf nm sc L fa cd) Ws rest h3 P X → ∀ k3, wpAny (model prog w) A (execs rest (envOf nm sc L fa cd)) Q E { s with heap := h3, toks := k3 } := by
    intro h3 kp3 r k3
    exact r.go _ Q E rfl po (fun fl h4 k4 kp4 p => q fl h4 k4 (kp3.trans kp4) p) (fun y h4 k4 r => x y h4 k4 r)
  cases c with
  | true =>
    simp only [if_true]
    refine wpAny_passesOwn po ((yes rfl h2 (S1.keep kk)).go _ _ (E) rfl po (fun fl h3 k3 kp3 p => ?_) (fun y h2 j r => x y h2 j r))
    have kpAll : Kp (L :: Ws) s.heap h3 := (kp1.trans kk.kp).trans kp3
    cases fl with
    | next => obtain ⟨m, ρ', μ', hm, hJ', S'⟩ := p; exact ⟨m, hm, h3, k3, ρ', μ', rfl, kpAll, hJ', S'⟩
    | cont => obtain ⟨m, ρ', μ', hm, hJ', S'⟩ := p; exact ⟨m, hm, h3, k3, ρ', μ', rfl, kpAll, hJ', S'⟩
    | brk => exact goOn h3 kpAll p k3
    | ret v => exact q _ _ _ kpAll p
  | false =>
    simp only [Bool.false_eq_true, if_false]
    exact wpAny_execs_nil (goOn h2 (kp1.trans kk.kp) (no rfl h2 (S1.keep kk)) k2)
end
end Mine

namespace Mine
open PySem PySem.Spec PySem.Calls PyProof.Rows

structure Cx where
  prog : Program
  w : World
  p : Program
  loose : List Str
  mean : ExcName → Option Value
  mg : Str → Option Value
  mb : Str → Option Value
abbrev Cx.T (c : Cx) (h : Heap) : Prop := Top c.p c.loose c.mean c.mg c.mb h
abbrev Cx.M (c : Cx) : Model := model c.prog c.w

/-- room for n more frames -/
structure Rm (A : Around) (n : Nat) : Prop where
  hd : A.handled = none
  dep : A.depth + n < recursionLimit
  un : A.units + 3 * n + 100 < cLine
theorem Rm.deeper {A : Around} {n : Nat} {env : Env} (r : Rm A (n + 1)) : Rm (A.deeper env) n :=
  ⟨r.hd, by have := r.dep; show A.depth + 1 + n < _; (first | lia | omega), by have := r.un; show A.units + 3 + 3 * n + 100 < _; (first | lia | omega)⟩
theorem Rm.less {A : Around} {n m : Nat} (r : Rm A n) (h : m ≤ n) : Rm A m := ⟨r.hd, by have := r.dep; (first | lia | omega), by have := r.un; (first | lia | omega)⟩

def retv : Flow → Value
  | .ret v => v
  | _ => .none

/-- what a call of a def gives -/
structure Fn (c : Cx) (n : Nat) (f : Str) (ds : List PyData) (R : Heap → Value → Heap → Prop) : Prop where
  isDef : ∃ dr ∈ recsOf c.p, dr.name = f
  run : ∀ (A : Around) (h : Heap) (vs : List Value) (a : Addr), c.T h → Rm A n → c.mg f = some (.ref a) → RdL ds vs h → EvT c.M A h (call (.ref a) vs) (R h) NoX
abbrev FnD (c : Cx) (n : Nat) (f : Str) (ds : List PyData) (d : PyData) : Prop := Fn c n f ds fun h => Rf h d
theorem rf_old {d : PyData} : ∀ h0 h1 v h', Keep h0 h1 → Rf h1 d v h' → Rf h0 d v h' := fun _ _ _ _ k r => r.old k
theorem rl_old {ds : List PyData} : ∀ h0 h1 v h', Keep h0 h1 → Rl h1 ds v h' → Rl h0 ds v h' := fun _ _ _ _ k r => r.old k

def zipL : List Str → List PyData → Locs
  | x :: xs, d :: ds => (x, d) :: zipL xs ds
  | _, _ => []
theorem zip_reads {g : Heap} : ∀ {xs : List Str} {ds : List PyData} {vs : List Value}, RdL ds vs g → xs.Nodup → xs.length = ds.length →
    ∀ x d, (zipL xs ds).lookup x = some d → ∃ v as, (xs.zip vs).reverse.lookup x = some v ∧ Reads g v d as
  | [], _, _, _, _, _, x, d, e => by simp [zipL] at e
  | y :: xs, [], _, _, _, hl, x, d, e => by simp at hl
  | y :: xs, d' :: ds, vs, r, hn, hl, x, d, e => by
    obtain ⟨v, vs', rfl, r1, r2⟩ := r.uncons
    rw [List.nodup_cons] at hn
    rw [zipL, List.lookup_cons] at e
    rw [List.zip_cons_cons, List.reverse_cons, List.lookup_append]
    by_cases hb : x = y
    · subst hb
      rw [beq_self_eq_true] at e; cases e
      obtain ⟨as, r1⟩ := r1
      refine ⟨v, as, ?_, r1⟩
      have : (xs.zip vs').reverse.lookup x = none := by
        rw [List.lookup_eq_none_iff]
        intro p hp
        have hp' : p ∈ xs.zip vs' := by simpa using hp
        have := (List.of_mem_zip (a := p.1) (b := p.2) hp').1
        rw [bne_iff_ne]
        intro e; rw [e] at hn; exact hn.1 this
      rw [this]; simp [List.lookup]
    · rw [beq_eq_false_iff_ne.mpr hb] at e
      obtain ⟨v', as, q, r⟩ := zip_reads r2 hn.2 (by simpa using hl) x d e
      exact ⟨v', as, by rw [q]; rfl, r⟩

theorem recs_at {p : Program} {g : Stmt → Option DefRec} (hg : recsOf p = p.main.body.filterMap g) {i : Nat} {st : Stmt} {d : DefRec} (h1 : p.main.body[i]? = some st) (h2 : g st = some d) : d ∈ recsOf p := by
  rw [hg]; exact List.mem_filterMap.mpr ⟨st, List.mem_of_getElem? h1, h2⟩
/-- the def at a place of the top -/
theorem def_at {p q : Program} (hq : recsOf q = recsOf p) {g : Stmt → Option DefRec} (i : Nat) {dn : Str} {dp : Arguments} {db : List Stmt} {dd dr' dt bd ts} {dsc : Scope} {dps : Pos} {f : Str} (h1 : p.main.body[i]? = some (.FunctionDef dn dp db dd dr' dt dsc ts bd dps)) (hn : dn = f) (hg : recsOf p = p.main.body.filterMap g)
    (h2 : g (.FunctionDef dn dp db dd dr' dt dsc ts bd dps) = some ⟨dn, dp, db, dsc, dps⟩) : (⟨dn, dp, db, dsc, dps⟩ : DefRec) ∈ recsOf q ∧ dn = f := ⟨by rw [hq]; exact recs_at hg h1 h2, hn⟩

section
variable {c : Cx} {n : Nat} {f : Str} {ds : List PyData} {R : Heap → Value → Heap → Prop}
theorem fn_core {dn : Str} {dp : Arguments} {db : List Stmt} {dsc : Scope} {dps : Pos} {xs : List Str} (hd : (⟨dn, dp, db, dsc, dps⟩ : DefRec) ∈ recsOf c.p ∧ dn = f)
    (hb : ∀ pm cd doc (vs : List Value), vs.length = ds.length → bindArgs (docDef dn dp db dsc pm cd doc) ⟨vs, []⟩ = pure (xs.zip vs))
    (hlen : xs.length = ds.length) (hnd : xs.Nodup) (hloc : ∀ x ∈ xs, dsc.names.lookup x = some .local)
    (hco : dsc.isCoroutine = false) (hgen : dsc.isGenerator = false) (hk : dsc.kind = .function) (hcell : ∀ x ∈ dsc.names, x.2 ≠ .cell)
    (hR : ∀ h0 h1 v h', Keep h0 h1 → R h1 v h' → R h0 v h')
    (k : ∀ (A : Around) (g h : Heap) (L fa : Addr) (cd : Value), c.T g → Rm A n → St g L h (zipL xs ds) none → Run c.M A (envOf dn dsc L fa cd) [] db h (fun fl h' => R g (retv fl) h') NoX) : Fn c (n + 1) f ds R := by
  obtain ⟨hd, hn⟩ := hd
  refine ⟨⟨_, hd, hn⟩, ?_⟩
  intro A h vs a T rm ha r
  refine ⟨fun s Q E kp q x => ?_⟩
  obtain ⟨a', o, pm, cd, doc, h1, h2, h3, h4⟩ := T.fn ⟨dn, dp, db, dsc, dps⟩ hd
  dsimp only at h1 h3 h4
  rw [hn, ha] at h1; cases h1
  refine wpAny_call (call_plain (by have := rm.dep; (first | lia | omega)) (kp _ _ h2) h3 (T.nolimit.keeps kp) (h4.keeps kp) (hb pm cd doc vs (r.len)) (fun y hy => hloc _ (List.of_mem_zip (a := y.1) (b := y.2) hy).1) (fun h₁ F => ?_) hco hgen hk hcell)
  have S : St s.heap s.heap.objs.size h₁ (zipL xs ds) none := by
    refine ⟨_, F, fun x d e => ?_, fun q e => nomatch e⟩
    obtain ⟨v, as, e', r'⟩ := zip_reads (r.keep kp) hnd hlen x d e
    refine ⟨v, as, e', PyProof.Rows.Reads.keeps F.keep r', fun hL => ?_, fun q e => nomatch e⟩
    obtain ⟨o, ho⟩ := reads_some r' _ hL
    exact absurd (Heap.lt_size ho) (Nat.lt_irrefl _)
  refine (k (A.deeper (envOf dn dsc s.heap.objs.size a cd)) s.heap h₁ _ a cd (T.keeps kp) rm.deeper S).go _ _ _ rfl PassesOwn.leaving (fun fl h' i kp' p => ?_) (fun _ _ _ r => r.elim)
  have kk : Keep s.heap h' := fun b o e => kp' b o (by
    intro hb
    rw [List.mem_singleton] at hb
    rw [hb] at e
    exact absurd (Heap.lt_size e) (Nat.lt_irrefl _)) (F.keep b o e)
  have := q (retv fl) h' i kk (hR _ _ _ _ kp p)
  cases fl <;> exact this
end

theorem lens1 {α : Type} {vs : List α} (h : vs.length = 1) : ∃ a, vs = [a] := by
  match vs, h with
  | [a], _ => exact ⟨a, rfl⟩
theorem lens2 {α : Type} {vs : List α} (h : vs.length = 2) : ∃ a b, vs = [a, b] := by
  match vs, h with
  | [a, b], _ => exact ⟨a, b, rfl⟩
theorem lens3 {α : Type} {vs : List α} (h : vs.length = 3) : ∃ a b c, vs = [a, b, c] := by
  match vs, h with
  | [a, b, c], _ => exact ⟨a, b, c, rfl⟩
theorem lens4 {α : Type} {vs : List α} (h : vs.length = 4) : ∃ a b c d, vs = [a, b, c, d] := by
  match vs, h with
  | [a, b, c, d], _ => exact ⟨a, b, c, d, rfl⟩

section
variable {c : Cx} {n : Nat} {f : Str} {R : Heap → Value → Heap → Prop} {dn : Str} {dp : Arguments} {db : List Stmt} {dsc : Scope} {dps : Pos} {x1 x2 x3 x4 : Str} {d1 d2 d3 d4 : PyData}
theorem fn1 (hd : (⟨dn, dp, db, dsc, dps⟩ : DefRec) ∈ recsOf c.p ∧ dn = f) (hR : ∀ h0 h1 v h', Keep h0 h1 → R h1 v h' → R h0 v h')
    (hb : ∀ pm cd doc (v1 : Value), bindArgs (docDef dn dp db dsc pm cd doc) ⟨[v1], []⟩ = pure [(x1, v1)])
    (k : ∀ (A : Around) (g h : Heap) (L fa : Addr) (cd : Value), c.T g → Rm A n → St g L h [(x1, d1)] none → Run c.M A (envOf dn dsc L fa cd) [] db h (fun fl h' => R g (retv fl) h') NoX)
    (hnd : [x1].Nodup := by decide +kernel) (hloc : ∀ x ∈ [x1], dsc.names.lookup x = some .local := by decide +kernel)
    (hco : dsc.isCoroutine = false := by rfl) (hgen : dsc.isGenerator = false := by rfl) (hk : dsc.kind = .function := by rfl) (hcell : ∀ x ∈ dsc.names, x.2 ≠ .cell := by decide +kernel) : Fn c (n + 1) f [d1] R :=
  fn_core (xs := [x1]) hd (fun pm cd doc vs h => by obtain ⟨v1, rfl⟩ := lens1 h; exact hb pm cd doc v1) rfl hnd hloc hco hgen hk hcell hR k
theorem fn2 (hd : (⟨dn, dp, db, dsc, dps⟩ : DefRec) ∈ recsOf c.p ∧ dn = f) (hR : ∀ h0 h1 v h', Keep h0 h1 → R h1 v h' → R h0 v h')
    (hb : ∀ pm cd doc (v1 v2 : Value), bindArgs (docDef dn dp db dsc pm cd doc) ⟨[v1, v2], []⟩ = pure [(x1, v1), (x2, v2)])
    (k : ∀ (A : Around) (g h : Heap) (L fa : Addr) (cd : Value), c.T g → Rm A n → St g L h [(x1, d1), (x2, d2)] none → Run c.M A (envOf dn dsc L fa cd) [] db h (fun fl h' => R g (retv fl) h') NoX)
    (hnd : [x1, x2].Nodup := by decide +kernel) (hloc : ∀ x ∈ [x1, x2], dsc.names.lookup x = some .local := by decide +kernel)
    (hco : dsc.isCoroutine = false := by rfl) (hgen : dsc.isGenerator = false := by rfl) (hk : dsc.kind = .function := by rfl) (hcell : ∀ x ∈ dsc.names, x.2 ≠ .cell := by decide +kernel) : Fn c (n + 1) f [d1, d2] R :=
  fn_core (xs := [x1, x2]) hd (fun pm cd doc vs h => by obtain ⟨v1, v2, rfl⟩ := lens2 h; exact hb pm cd doc v1 v2) rfl hnd hloc hco hgen hk hcell hR k
theorem fn3 (hd : (⟨dn, dp, db, dsc, dps⟩ : DefRec) ∈ recsOf c.p ∧ dn = f) (hR : ∀ h0 h1 v h', Keep h0 h1 → R h1 v h' → R h0 v h')
    (hb : ∀ pm cd doc (v1 v2 v3 : Value), bindArgs (docDef dn dp db dsc pm cd doc) ⟨[v1, v2, v3], []⟩ = pure [(x1, v1), (x2, v2), (x3, v3)])
    (k : ∀ (A : Around) (g h : Heap) (L fa : Addr) (cd : Value), c.T g → Rm A n → St g L h [(x1, d1), (x2, d2), (x3, d3)] none → Run c.M A (envOf dn dsc L fa cd) [] db h (fun fl h' => R g (retv fl) h') NoX)
    (hnd : [x1, x2, x3].Nodup := by decide +kernel) (hloc : ∀ x ∈ [x1, x2, x3], dsc.names.lookup x = some .local := by decide +kernel)
    (hco : dsc.isCoroutine = false := by rfl) (hgen : dsc.isGenerator = false := by rfl) (hk : dsc.kind = .function := by rfl) (hcell : ∀ x ∈ dsc.names, x.2 ≠ .cell := by decide +kernel) : Fn c (n + 1) f [d1, d2, d3] R :=
  fn_core (xs := [x1, x2, x3]) hd (fun pm cd doc vs h => by obtain ⟨v1, v2, v3, rfl⟩ := lens3 h; exact hb pm cd doc v1 v2 v3) rfl hnd hloc hco hgen hk hcell hR k
theorem fn4 (hd : (⟨dn, dp, db, dsc, dps⟩ : DefRec) ∈ recsOf c.p ∧ dn = f) (hR : ∀ h0 h1 v h', Keep h0 h1 → R h1 v h' → R h0 v h')
    (hb : ∀ pm cd doc (v1 v2 v3 v4 : Value), bindArgs (docDef dn dp db dsc pm cd doc) ⟨[v1, v2, v3, v4], []⟩ = pure [(x1, v1), (x2, v2), (x3, v3), (x4, v4)])
    (k : ∀ (A : Around) (g h : Heap) (L fa : Addr) (cd : Value), c.T g → Rm A n → St g L h [(x1, d1), (x2, d2), (x3, d3), (x4, d4)] none → Run c.M A (envOf dn dsc L fa cd) [] db h (fun fl h' => R g (retv fl) h') NoX)
    (hnd : [x1, x2, x3, x4].Nodup := by decide +kernel) (hloc : ∀ x ∈ [x1, x2, x3, x4], dsc.names.lookup x = some .local := by decide +kernel)
    (hco : dsc.isCoroutine = false := by rfl) (hgen : dsc.isGenerator = false := by rfl) (hk : dsc.kind = .function := by rfl) (hcell : ∀ x ∈ dsc.names, x.2 ≠ .cell := by decide +kernel) : Fn c (n + 1) f [d1, d2, d3, d4] R :=
  fn_core (xs := [x1, x2, x3, x4]) hd (fun pm cd doc vs h => by obtain ⟨v1, v2, v3, v4, rfl⟩ := lens4 h; exact hb pm cd doc v1 v2 v3 v4) rfl hnd hloc hco hgen hk hcell hR k
end

section
variable {c : Cx} {n : Nat} {A : Around} {nm : Str} {sc : Scope} {L fa : Addr} {cd : Value} {g h : Heap} {ρ : Locs} {μ : Mut} {X : Value → Heap → Prop}
/-- a call of a def by its name -/
theorem ev_call {k : Nat} {f : Str} {p pos : Pos} {e : Expr} {es : List Expr} {ds : List PyData} {R : Heap → Value → Heap → Prop} (S : St g L h ρ μ) (T : c.T g) (rm : Rm A n) (F : Fn c k f ds R) (a : EvL c.M A (envOf nm sc L fa cd) h pos (e :: es) ds X)
    (hkn : k ≤ n := by decide) (hR : ∀ h0 h1 v h', Keep h0 h1 → R h1 v h' → R h0 v h' := by first | exact rf_old | exact rl_old)
    (hk : sc.kind = .function := by rfl) (hx : (envOf nm sc L fa cd).kindOf f = some .globalImplicit := by rfl) (hd : (f == ("__debug__" : Str)) = false := by decide)
    (he : pl e = true := by rfl) :
    Ev c.M A (envOf nm sc L fa cd) h (.Call (.Name f p) (e :: es) [] pos) (R h) X := by
  refine ⟨fun s Q E k q x => ?_⟩
  obtain ⟨m, F0, _⟩ := (S.keep k).ex
  obtain ⟨dr, hdr, hn⟩ := F.isDef
  obtain ⟨a', o, pm, cd', doc, h1, h2, h3, h4⟩ := T.fn dr hdr
  rw [hn] at h1
  refine wpAny_Call_NameR (ld_global_at F0 T.g h1 ?_ hk hx hd)
  refine callWith_def h3 (a.seq k (fun vs h' i k' r => ?_) x) (pl_star he)
  refine ⟨k' _ _ (F0.keep _ _ h2), ?_⟩
  have T' : c.T h' := T.keeps fun b o e => k' _ _ (F0.keep b o e)
  exact (F.run A h' vs a' T' (rm.less hkn) h1 r).seq (s := { s with heap := h', toks := i }) Keep.rfl (fun v h2 j k2 r2 => q v h2 j (Keep.trans k' k2) (hR _ _ _ _ (k.trans k') r2)) (fun _ _ _ r => r.elim)
/-- ... a datum comes back -/
theorem ev_calld {k : Nat} {f : Str} {p pos : Pos} {e : Expr} {es : List Expr} {ds : List PyData} {d : PyData} (S : St g L h ρ μ) (T : c.T g) (rm : Rm A n) (F : FnD c k f ds d) (a : EvL c.M A (envOf nm sc L fa cd) h pos (e :: es) ds X)
    (hkn : k ≤ n := by decide)
    (hk : sc.kind = .function := by rfl) (hx : (envOf nm sc L fa cd).kindOf f = some .globalImplicit := by rfl) (hd : (f == ("__debug__" : Str)) = false := by decide)
    (he : pl e = true := by rfl) :
    Ev c.M A (envOf nm sc L fa cd) h (.Call (.Name f p) (e :: es) [] pos) (Rd d) X := (ev_call S T rm F a hkn rf_old hk hx hd he).mono fun _ _ _ r => r.rd
end
end Mine

namespace Mine
open PySem PySem.Spec PySem.Calls PyProof.Rows

theorem pl_plain {pos : Pos} {env : Env} : ∀ {es : List Expr}, es.all pl = true → (backTo pos (starEach es env)).any (·.1) = false
  | [], _ => rfl
  | x :: es, h => by
    simp only [List.all_cons, Bool.and_eq_true] at h
    rw [pl_star h.1]
    show (false || (backTo pos (starEach es env)).any (·.1)) = false
    rw [pl_plain h.2]; rfl
/-- the names that the text does not bind -/
def bnames : List Str := ["isinstance", "int", "bool", "tuple", "list", "str", "len", "abs", "min", "max", "range", "reversed", "ValueError"]
def Bn (c : Cx) : Prop := ∀ x ∈ bnames, c.mg x = none

section
variable {c : Cx} {A : Around} {nm : Str} {sc : Scope} {L fa : Addr} {cd : Value} {g h : Heap} {ρ : Locs} {μ : Mut} {X : Value → Heap → Prop}
theorem ev_bname {x : Str} {pos : Pos} {v : Value} (S : St g L h ρ μ) (T : c.T g) (B : Bn c) (hx : x ∈ bnames) (hv : bootBuiltins x = some v) (hn : x ≠ "__name__" := by decide)
    (hk : sc.kind = .function := by rfl) (hg : (envOf nm sc L fa cd).kindOf x = some .globalImplicit := by rfl) (hd : (x == ("__debug__" : Str)) = false := by decide) :
    Ev c.M A (envOf nm sc L fa cd) h (.Name x pos) (fun v' _ => v' = v) X :=
  EvT.ofS fun s Q E k q => by
    obtain ⟨m, F, _⟩ := (S.keep k).ex
    exact ld_builtin_at F T.g (B x hx) T.b ((T.builtins x hn).trans hv) (q v s.toks rfl) hk hg hd
theorem ev_gname {x : Str} {pos : Pos} {v : Value} (S : St g L h ρ μ) (T : c.T g) (hv : c.mg x = some v)
    (hk : sc.kind = .function := by rfl) (hg : (envOf nm sc L fa cd).kindOf x = some .globalImplicit := by rfl) (hd : (x == ("__debug__" : Str)) = false := by decide) :
    Ev c.M A (envOf nm sc L fa cd) h (.Name x pos) (fun v' _ => v' = v) X :=
  EvT.ofS fun s Q E k q => by
    obtain ⟨m, F, _⟩ := (S.keep k).ex
    exact ld_global_at F T.g hv (q v s.toks rfl) hk hg hd

/-- a built-in function by its name -/
theorem ev_bcall {x : Str} {id : String} {p pos : Pos} {e : Expr} {es : List Expr} {ds : List PyData} {R : Value → Heap → Prop} (S : St g L h ρ μ) (T : c.T g) (B : Bn c) (hx : x ∈ bnames) (hv : bootBuiltins x = some (.builtin id))
    (a : EvL c.M A (envOf nm sc L fa cd) h pos (e :: es) ds X) (o : ∀ vs h', Keep h h' → RdL ds vs h' → EvT c.M A h' (call (.builtin id) vs) R X) (hn : x ≠ "__name__" := by decide)
    (hk : sc.kind = .function := by rfl) (hg : (envOf nm sc L fa cd).kindOf x = some .globalImplicit := by rfl) (hd : (x == ("__debug__" : Str)) = false := by decide)
    (he : pl e = true := by rfl) (hpl : es.all pl = true := by rfl) :
    Ev c.M A (envOf nm sc L fa cd) h (.Call (.Name x p) (e :: es) [] pos) R X := by
  refine ⟨fun s Q E k q x' => ?_⟩
  refine wpAny_Call_NameR ((ev_bname S T B hx hv hn hk hg hd).seq k (fun v h1 i k1 r => ?_) x')
  subst r
  refine callWith_builtin1 ((a.up (k.trans k1)).seq (s := { s with heap := h1, toks := i }) Keep.rfl (fun vs h2 j k2 r2 => ?_) (fun y h2 j r => x' y h2 j r)) (pl_star he) (pl_plain hpl)
  exact (o vs h2 (k.trans (Keep.trans k1 k2)) r2).seq (s := { s with heap := h2, toks := j }) Keep.rfl (fun v h3 j k3 r3 => q v h3 j (Keep.trans k1 (Keep.trans k2 k3)) r3) (fun y h3 j r => x' y h3 j r)
/-- a built-in class by its name -/
theorem ev_tcall {x : Str} {id : String} {p pos : Pos} {e : Expr} {es : List Expr} {ds : List PyData} {R : Value → Heap → Prop} (S : St g L h ρ μ) (T : c.T g) (B : Bn c) (hx : x ∈ bnames) (hv : bootBuiltins x = some (.type id))
    (a : EvL c.M A (envOf nm sc L fa cd) h pos (e :: es) ds X) (o : ∀ vs h', Keep h h' → RdL ds vs h' → EvT c.M A h' (call (.type id) vs) R X) (hn : x ≠ "__name__" := by decide)
    (hk : sc.kind = .function := by rfl) (hg : (envOf nm sc L fa cd).kindOf x = some .globalImplicit := by rfl) (hd : (x == ("__debug__" : Str)) = false := by decide)
    (he : pl e = true := by rfl) (hpl : es.all pl = true := by rfl) :
    Ev c.M A (envOf nm sc L fa cd) h (.Call (.Name x p) (e :: es) [] pos) R X := by
  refine ⟨fun s Q E k q x' => ?_⟩
  refine wpAny_Call_NameR ((ev_bname S T B hx hv hn hk hg hd).seq k (fun v h1 i k1 r => ?_) x')
  subst r
  refine PyProof.Rows.callWith_type1 ((a.up (k.trans k1)).seq (s := { s with heap := h1, toks := i }) Keep.rfl (fun vs h2 j k2 r2 => ?_) (fun y h2 j r => x' y h2 j r)) (pl_star he) (pl_plain hpl)
  exact (o vs h2 (k.trans (Keep.trans k1 k2)) r2).seq (s := { s with heap := h2, toks := j }) Keep.rfl (fun v h3 j k3 r3 => q v h3 j (Keep.trans k1 (Keep.trans k2 k3)) r3) (fun y h3 j r => x' y h3 j r)
end

section
variable {prog : Program} {w : World} {A : Around} {h : Heap} {X : Value → Heap → Prop}
def isiB : PyData → String → Bool
  | .int _, T => T == "int"
  | .bool _, T => T == "bool" || T == "int"
  | .str _, T => T == "str"
  | .none, _ => false
  | .list _, T => T == "list"
  | .tuple _, T => T == "tuple"
  | .dict _, T => T == "dict"
def isiTs : List String := ["int", "bool", "tuple", "list", "str"]
theorem op_isi {d : PyData} {T : String} {v : Value} (hT : T ∈ isiTs) (r : Rd d v h) : EvT (model prog w) A h (call (.builtin "isinstance") [v, .type T]) (Rd (.bool (isiB d T))) X := by
  refine EvT.of fun s Q E k q => ?_
  have qt : ∀ b, Rd (.bool b) (.bool b) s.heap := fun b => ⟨_, .bool _⟩
  obtain ⟨as, r⟩ := r
  simp only [isiTs, List.mem_cons, List.not_mem_nil, or_false] at hT
  cases r with
  | int i t =>
    rcases hT with rfl | rfl | rfl | rfl | rfl
    · exact IsiPair.int_int (q _ s.heap s.toks Keep.rfl (qt _))
    · exact IsiPair.int_bool (q _ s.heap _ Keep.rfl (qt _))
    · exact IsiPair.int_tuple (q _ s.heap _ Keep.rfl (qt _))
    · exact IsiPair.int_list (q _ s.heap _ Keep.rfl (qt _))
    · exact IsiPair.int_str (q _ s.heap _ Keep.rfl (qt _))
  | bool b =>
    rcases hT with rfl | rfl | rfl | rfl | rfl
    · exact IsiPair.bool_int (q _ s.heap s.toks Keep.rfl (qt _))
    · exact IsiPair.bool_bool (q _ s.heap s.toks Keep.rfl (qt _))
    · exact IsiPair.bool_tuple (q _ s.heap _ Keep.rfl (qt _))
    · exact IsiPair.bool_list (q _ s.heap _ Keep.rfl (qt _))
    · exact IsiPair.bool_str (q _ s.heap _ Keep.rfl (qt _))
  | str x t =>
    rcases hT with rfl | rfl | rfl | rfl | rfl
    · exact IsiPair.str_int (q _ s.heap _ Keep.rfl (qt _))
    · exact IsiPair.str_bool (q _ s.heap _ Keep.rfl (qt _))
    · exact IsiPair.str_tuple (q _ s.heap _ Keep.rfl (qt _))
    · exact IsiPair.str_list (q _ s.heap _ Keep.rfl (qt _))
    · exact IsiPair.str_str (q _ s.heap s.toks Keep.rfl (qt _))
  | none =>
    rcases hT with rfl | rfl | rfl | rfl | rfl
    · exact call_isinstance (isinstance_false_none (by decide +kernel) F.isi_meta_int (by kernel_rfl)) (q _ s.heap _ Keep.rfl (qt _))
    · exact call_isinstance (isinstance_false_none (by decide +kernel) F.isi_meta_bool (by kernel_rfl)) (q _ s.heap _ Keep.rfl (qt _))
    · exact call_isinstance (isinstance_false_none (by decide +kernel) F.isi_meta_tuple (by kernel_rfl)) (q _ s.heap _ Keep.rfl (qt _))
    · exact call_isinstance (isinstance_false_none (by decide +kernel) F.isi_meta_list (by kernel_rfl)) (q _ s.heap _ Keep.rfl (qt _))
    · exact call_isinstance (isinstance_false_none (by decide +kernel) F.isi_meta_str (by kernel_rfl)) (q _ s.heap _ Keep.rfl (qt _))
  | list h1 h2 h3 y =>
    rcases hT with rfl | rfl | rfl | rfl | rfl
    · exact IsiPair.list_int (k _ _ h1) h2 (q _ s.heap _ Keep.rfl (qt _))
    · exact IsiPair.list_bool (k _ _ h1) h2 (q _ s.heap _ Keep.rfl (qt _))
    · exact IsiPair.list_tuple (k _ _ h1) h2 (q _ s.heap _ Keep.rfl (qt _))
    · exact IsiPair.list_list (k _ _ h1) h2 (q _ s.heap s.toks Keep.rfl (qt _))
    · exact IsiPair.list_str (k _ _ h1) h2 (q _ s.heap _ Keep.rfl (qt _))
  | tuple h1 h2 h3 y =>
    rcases hT with rfl | rfl | rfl | rfl | rfl
    · exact IsiPair.tuple_int (k _ _ h1) h2 (q _ s.heap _ Keep.rfl (qt _))
    · exact IsiPair.tuple_bool (k _ _ h1) h2 (q _ s.heap _ Keep.rfl (qt _))
    · exact IsiPair.tuple_tuple (k _ _ h1) h2 (q _ s.heap s.toks Keep.rfl (qt _))
    · exact IsiPair.tuple_list (k _ _ h1) h2 (q _ s.heap _ Keep.rfl (qt _))
    · exact IsiPair.tuple_str (k _ _ h1) h2 (q _ s.heap _ Keep.rfl (qt _))
  | dict h1 h2 h3 y z =>
    rcases hT with rfl | rfl | rfl | rfl | rfl
    · exact IsiPair.dict_int (k _ _ h1) h2 (q _ s.heap _ Keep.rfl (qt _))
    · exact IsiPair.dict_bool (k _ _ h1) h2 (q _ s.heap _ Keep.rfl (qt _))
    · exact IsiPair.dict_tuple (k _ _ h1) h2 (q _ s.heap _ Keep.rfl (qt _))
    · exact IsiPair.dict_list (k _ _ h1) h2 (q _ s.heap _ Keep.rfl (qt _))
    · exact IsiPair.dict_str (k _ _ h1) h2 (q _ s.heap _ Keep.rfl (qt _))
theorem op_len {ds : List PyData} {v : Value} (hn : ds.length < 2 ^ 62) (r : Rd (.list ds) v h ∨ Rd (.tuple ds) v h) : EvT (model prog w) A h (call (.builtin "len") [v]) (Rd (.int ds.length)) X := by
  refine EvT.ofS fun s Q E k q => ?_
  rcases r with r | r
  · obtain ⟨a, items, rfl, il, r⟩ := rd_list r
    have e : items.size = ds.length := by have := r.len; simpa using this
    obtain ⟨o, ho, il⟩ := il
    refine PyProof.Rows.len_list (items := items) ⟨o, k _ _ ho, il⟩ (by rw [e]; (first | lia | omega)) ?_
    rw [e]; exact q _ _ ⟨_, .int _ _⟩
  · obtain ⟨a, items, rfl, il, r⟩ := rd_tup r
    have e : items.size = ds.length := by have := r.len; simpa using this
    obtain ⟨o, ho, il⟩ := il
    refine PyProof.Rows.len_tuple (items := items) ⟨o, k _ _ ho, il⟩ (by rw [e]; (first | lia | omega)) ?_
    rw [e]; exact q _ _ ⟨_, .int _ _⟩
theorem op_min {a b : Int} {v1 v2 : Value} (hh : A.handled = none) (r1 : Rd (.int a) v1 h) (r2 : Rd (.int b) v2 h) : EvT (model prog w) A h (call (.builtin "min") [v1, v2]) (Rd (.int (min a b))) X := by
  obtain ⟨t, rfl⟩ := rd_int r1; obtain ⟨u, rfl⟩ := rd_int r2
  refine EvT.of fun s Q E k q => min_two_ints hh fun h' tk kk => ?_
  by_cases e : b < a
  · rw [if_pos e]; have e' : min a b = b := by (first | lia | omega)
    rw [e'] at q; exact q _ _ _ kk ⟨_, .int _ _⟩
  · rw [if_neg e]; have e' : min a b = a := by (first | lia | omega)
    rw [e'] at q; exact q _ _ _ kk ⟨_, .int _ _⟩
end
end Mine

namespace Mine
open PySem PySem.Spec PySem.Calls PyProof.Rows

section
variable {prog : Program} {w : World} {A : Around} {env : Env} {h : Heap} {X : Value → Heap → Prop}
/-- an item of a tuple, of a list -/
theorem ev_idx {v i : Expr} {pos : Pos} {ds : List PyData} {k : Int} {d : PyData} (ty : Bool) (e1 : Ev (model prog w) A env h v (Rd (if ty then .tuple ds else .list ds)) X) (e2 : Ev (model prog w) A env h i (Rd (.int k)) X)
    (h0 : 0 ≤ k) (hfit : k < 2 ^ 63) (hx : ds[k.toNat]? = some d)
    (hs : pl i = true := by rfl) :
    Ev (model prog w) A env h (.Subscript v i pos) (Rd d) X := by
  refine ⟨fun s Q E k' q x => ?_⟩
  refine Subscript_ (EvT.two e1 e2 rd_mono (v := fun a b => subscriptTail v i a b) (R' := Rd d) (fun v1 v2 h' kk r1 r2 => ?_) k' q x)
  obtain ⟨u, rfl⟩ := rd_int r2
  cases ty with
  | true =>
    obtain ⟨a, items, rfl, ht, r⟩ := rd_tup r1
    obtain ⟨y, hy, ry⟩ := r.at hx
    obtain ⟨o, ho, ht'⟩ := id ht
    refine EvT.ofS fun s' Q' E' k1 q1 => tail_any (T := "tuple") ⟨o, k1 _ _ ho, ht'.1⟩ slot_tuple_getitem.lookup ?_ (pl_sub hs)
    have hj : seqIndex? k items.size = some k.toNat := by
      have : k.toNat < items.size := by
        have := List.getElem?_eq_some_iff.mp hy
        obtain ⟨h1, _⟩ := this
        simpa using h1
      have h1 : ¬ k < 0 := by (first | lia | omega)
      have h2 : k < (items.size : Int) := by (first | lia | omega)
      simp [seqIndex?, h1, h0, h2]
    exact getItem_tuple (items := items) (j := k.toNat) ⟨o, k1 _ _ ho, ht'⟩ (by (first | lia | omega)) hfit hj (by simpa using hy) (q1 _ s'.toks (ry.keep k1))
  | false =>
    obtain ⟨a, items, rfl, ht, r⟩ := rd_list r1
    obtain ⟨y, hy, ry⟩ := r.at hx
    obtain ⟨o, ho, ht'⟩ := id ht
    refine EvT.ofS fun s' Q' E' k1 q1 => tail_any (T := "list") ⟨o, k1 _ _ ho, ht'.1⟩ slot_list_getitem.lookup ?_ (pl_sub hs)
    exact wpAny_getItem_list (items := items) ⟨o, k1 _ _ ho, ht'⟩ h0 hfit (by simpa using hy) (q1 _ s'.toks (ry.keep k1))
theorem ev_tidx {v i : Expr} {pos : Pos} {ds : List PyData} {k : Int} {d : PyData} (e1 : Ev (model prog w) A env h v (Rd (.tuple ds)) X) (e2 : Ev (model prog w) A env h i (Rd (.int k)) X)
    (hx : ds[k.toNat]? = some d := by rfl) (h0 : 0 ≤ k := by decide) (hfit : k < 2 ^ 63 := by decide)
    (hs : pl i = true := by rfl) :
    Ev (model prog w) A env h (.Subscript v i pos) (Rd d) X := ev_idx true e1 e2 h0 hfit hx hs
theorem ev_lidx {v i : Expr} {pos : Pos} {ds : List PyData} {k : Int} {d : PyData} (e1 : Ev (model prog w) A env h v (Rd (.list ds)) X) (e2 : Ev (model prog w) A env h i (Rd (.int k)) X)
    (hx : ds[k.toNat]? = some d) (h0 : 0 ≤ k) (hfit : k < 2 ^ 63)
    (hs : pl i = true := by rfl) :
    Ev (model prog w) A env h (.Subscript v i pos) (Rd d) X := ev_idx false e1 e2 h0 hfit hx hs

theorem ev_div {l r : Expr} {pos : Pos} {a b : Int} (e1 : Ev (model prog w) A env h l (Rd (.int a)) X) (e2 : Ev (model prog w) A env h r (Rd (.int b)) X) (hb : 0 < b) (hs : b < 10 ^ 250) :
    Ev (model prog w) A env h (.BinOp l .FloorDiv r pos) (Rd (.int (a / b))) X := ev_bin e1 e2 fun v1 v2 h' k r1 r2 => by
  obtain ⟨t, rfl⟩ := rd_int r1; obtain ⟨u, rfl⟩ := rd_int r2
  refine EvT.ofS fun _ _ _ _ q => PyProof.Rows.floordiv_int (by (first | lia | omega)) ?_ (.inl (PyProof.noPylong_of_log2 ?_))
  · rw [Int.fdiv_eq_ediv_of_nonneg _ (by (first | lia | omega))]
    exact q _ _ ⟨_, .int _ _⟩
  · have h1 : b.natAbs < 10 ^ 250 := by (first | lia | omega)
    have h2 : (10 : Nat) ^ 250 ≤ 2 ^ 9000 := by decide +kernel
    have h3 : b.natAbs ≠ 0 := by (first | lia | omega)
    exact (Nat.log2_lt h3).mpr (Nat.lt_of_lt_of_le h1 h2)
theorem ev_pow {l r : Expr} {pos : Pos} {a n : Int} (e1 : Ev (model prog w) A env h l (Rd (.int a)) X) (e2 : Ev (model prog w) A env h r (Rd (.int n)) X) (hn : 0 ≤ n) (hn2 : n ≤ 1000000) (ha : a.natAbs < 2 ^ 64) :
    Ev (model prog w) A env h (.BinOp l .Pow r pos) (Rd (.int (a ^ n.toNat))) X := ev_bin e1 e2 fun v1 v2 h' k r1 r2 => by
  obtain ⟨t, rfl⟩ := rd_int r1; obtain ⟨u, rfl⟩ := rd_int r2
  exact EvT.ofS fun _ _ _ _ q => PyProof.Rows.pow_int_small hn hn2 ha (q _ _ ⟨_, .int _ _⟩)

theorem tr_ne {l r : Expr} {pos : Pos} {d1 d2 : PyData} {n : Nat} (rm : Rm A n) (e1 : Ev (model prog w) A env h l (Rd d1) X) (e2 : Ev (model prog w) A env h r (Rd d2) X) (h1 : SeqAt.shaped d1 = true) (h2 : SeqAt.shaped d2 = true)
    (hm : pl r = true := by rfl) : Tr (model prog w) A env h (.Compare l [.NotEq] [r] pos) (!PyData.eqv d1 d2) X :=
  tr_cmp e1 e2 (fun v1 v2 h' _ r1 r2 => by
    obtain ⟨as, x⟩ := r1; obtain ⟨bs, y⟩ := r2
    exact EvT.ofS fun s _ _ k q => ne_dataH (PyProof.Rows.Reads.keeps k x) (PyProof.Rows.Reads.keeps k y) h1 h2 (by have := rm.un; (first | lia | omega)) (q _ s.toks ⟨_, .bool _⟩)) hm
end

section
variable {c : Cx} {n : Nat} {A : Around} {nm : Str} {sc : Scope} {L fa : Addr} {cd : Value} {g h : Heap} {ρ : Locs} {μ : Mut} {X : Value → Heap → Prop}
theorem ev_isi {T : String} {e : Expr} {p p2 pos : Pos} {d : PyData} (S : St g L h ρ μ) (Tp : c.T g) (B : Bn c) (e1 : Ev c.M A (envOf nm sc L fa cd) h e (Rd d) X) (hx : Str.ofString T ∈ bnames := by decide) (hv : bootBuiltins (Str.ofString T) = some (.type T) := by decide +kernel) (hT : T ∈ isiTs := by decide)
    (hk : sc.kind = .function := by rfl) (hg : (envOf nm sc L fa cd).kindOf (Str.ofString T) = some .globalImplicit := by rfl) (hgi : (envOf nm sc L fa cd).kindOf (Str.ofString "isinstance") = some .globalImplicit := by rfl) (hn : Str.ofString T ≠ "__name__" := by decide) (hd : (Str.ofString T == ("__debug__" : Str)) = false := by decide)
    (he : pl e = true := by rfl) :
    Ev c.M A (envOf nm sc L fa cd) h (.Call (.Name (Str.ofString "isinstance") p) [e, .Name (Str.ofString T) p2] [] pos) (Rd (.bool (isiB d T))) X := by
  refine ⟨fun s Q E k q x' => ?_⟩
  refine wpAny_Call_NameR ((ev_bname (v := .builtin "isinstance") S Tp B (by decide) (by decide +kernel) (by decide) hk hgi (by decide)).seq k (fun v h1 i k1 r => ?_) x')
  subst r
  refine callWith_builtin1 ?_ (pl_star he) rfl
  refine args_cons ((e1.up (k.trans k1)).seq (s := { s with heap := h1, toks := i }) Keep.rfl (fun v h2 j k2 r2 => ?_) (fun y h2 j r => x' y h2 j r)) (pl_star he)
  refine args_cons (((ev_bname (pos := p2) S Tp B hx hv hn hk hg hd).up (k.trans (Keep.trans k1 k2))).seq (s := { s with heap := h2, toks := j }) Keep.rfl (fun v3 h3 j3 k3 r3 => ?_) (fun y h2 j r => x' y h2 j r)) rfl
  subst r3
  refine args_nil ?_
  exact (op_isi hT (r2.keep k3)).seq (s := { s with heap := h3, toks := j3 }) Keep.rfl (fun c h4 j4 k4 r4 => q c h4 j4 (Keep.trans k1 (Keep.trans k2 (Keep.trans k3 k4))) r4) (fun y h3 j r => x' y h3 j r)
end
end Mine

namespace Mine
open PySem PySem.Spec PySem.Calls PyProof.Rows

section
variable {prog : Program} {w : World} {A : Around} {nm : Str} {sc : Scope} {L fa : Addr} {cd : Value} {g h : Heap} {ρ : Locs} {μ : Mut} {X : Value → Heap → Prop} {Ws : List Addr} {P : Flow → Heap → Prop} {rest : List Stmt}

theorem keep_fresh {h h' : Heap} (e : Heap.ExtBut h.objs.size h h') : Keep h h' := fun b o hb => e b o (Nat.ne_of_lt (Heap.lt_size hb)) hb
theorem kp_ext {a : Addr} {h h' : Heap} (e : Heap.ExtBut a h h') : Kp [a] h h' := fun b o n hb => e b o (by simpa using n) hb

theorem st_name {x : Str} {v : Value} {d : PyData} {s : Shared} {Q : Unit → Shared → Prop} {E : Value → Shared → Prop} (S : St g L s.heap ρ μ) (r : Rd d v s.heap) (hf : flat d = true) (hμ : ∀ q, μ = some q → q.1 ≠ x)
    (q : ∀ h' k, Kp [L] s.heap h' → St g L h' ((x, d) :: ρ) μ → Q () { s with heap := h', toks := k })
    (hk : sc.kind = .function) (hl : (envOf nm sc L fa cd).kindOf x = some .local) : wpAny (model prog w) A (storeName (envOf nm sc L fa cd) x v) Q E s := by
  obtain ⟨m, F, hr, hm⟩ := S.ex
  obtain ⟨as, r⟩ := r
  have e := flat_nil hf r
  subst e
  refine wpAny_storeName_local hl F.ns (fun h' hn hsb => ?_) (by show (sc.kind == .class || (sc.kind == .module && L != mainGlobals)) = false; rw [hk]; rfl)
  exact q h' _ (kp_same hsb) (S.store hμ F r List.not_mem_nil (fun _ _ => List.not_mem_nil) hn hsb)

/-- x, y = e1, e2: the stores go from behind -/
theorem run_swap2 {x y : Str} {px py tp pos vp : Pos} {n n' : Nat} {es : List Expr} {d1 d2 : PyData} (hh : A.handled = none) (S : St g L h ρ μ) (ev : EvL (model prog w) A (envOf nm sc L fa cd) h vp es [d1, d2] X)
    (k : ∀ h', St g L h' ((x, d1) :: (y, d2) :: ρ) μ → Run (model prog w) A (envOf nm sc L fa cd) Ws rest h' P X) (h1 : flat d1 = true := by rfl) (h2 : flat d2 = true := by rfl)
    (hx : ∀ q, μ = some q → q.1 ≠ x := by intro q e; first | (cases e; done) | (cases e; dsimp only; decide)) (hy : ∀ q, μ = some q → q.1 ≠ y := by intro q e; first | (cases e; done) | (cases e; dsimp only; decide))
    (hk : sc.kind = .function := by rfl) (hlx : (envOf nm sc L fa cd).kindOf x = some .local := by rfl) (hly : (envOf nm sc L fa cd).kindOf y = some .local := by rfl)
    (hs : swapsWithSole [.Tuple [.Name x px, .Name y py] n tp] (.Tuple es n' vp) pos.line (envOf nm sc L fa cd) = pure false := by rfl) (hw : swappedStores [.Tuple [.Name x px, .Name y py] n tp] (.Tuple es n' vp) (envOf nm sc L fa cd) = pure (some [x, y]) := by rfl) :
    Run (model prog w) A (envOf nm sc L fa cd) Ws (.Assign [.Tuple [.Name x px, .Name y py] n tp] (.Tuple es n' vp) pos :: rest) h P X := by
  refine ⟨fun s Q E e po q x' => ?_⟩; subst e
  refine wpAny_execs_cons (Assign_Tuple_swapped (names := [x, y]) ((ev_tup ev).go s _ E Keep.rfl (fun v h1' i k1 r => ?_) x') hs hw)
  obtain ⟨a, items, rfl, ht, r⟩ := rd_tup r
  obtain ⟨v1, r', e1, r1, r'⟩ := r.uncons
  obtain ⟨v2, r'', e2, r2, r''⟩ := r'.uncons
  have e3 := r''.unnil
  subst e3; subst e2
  have hsz : ([x, y] : List Str).length = items.size := by rw [← Array.length_toList, e1]; rfl
  rw [hsz]
  refine wpAny_unpackItems_tuple (s := { s with heap := h1', toks := i }) hh ht (fun h' he => ?_)
  have kk := keep_fresh he
  rw [e1]
  refine wpAny_assignInOrder_more (wpAny_bindName (st_name (s := { s with heap := h', toks := i }) ((S.keep k1).keep kk) (r2.keep kk) h2 hy (fun h2' k2 kp2 S2 => ?_) hk hly))
  have r1' : Rd d1 v1 h2' := by
    obtain ⟨as, z⟩ := r1.keep kk
    have e := flat_nil h1 z
    subst e
    obtain ⟨m, F, _⟩ := ((S.keep k1).keep kk).ex
    exact ⟨_, reads_kp kp2 (fun a ha => by rw [List.mem_singleton] at ha; subst ha; exact .inr ⟨List.not_mem_nil, noTup_L F⟩) z⟩
  refine wpAny_assignInOrder_more (wpAny_bindName (st_name (s := { s with heap := h2', toks := k2 }) S2 r1' h1 hx (fun h3 k3 kp3 S3 => ?_) hk hlx))
  refine wpAny_assignInOrder_none ?_
  have kpA : Kp (L :: Ws) s.heap h3 := (k1.kp.trans ((kk.kp.trans kp2).trans kp3 |>.mono fun b hb => by rw [List.mem_singleton] at hb; subst hb; exact .head _))
  exact (k h3 S3).go _ Q E rfl po (fun fl h2 j kp' p => q fl h2 j (kpA.trans kp') p) (fun y h2 j r => x' y h2 j r)
end

/-- an iterator that is at its i-th thing -/
structure Itr (prog : Program) (w : World) (A : Around) (W : List Addr) (it : Addr) (ds : List PyData) (I : Nat → Heap → Prop) : Prop where
  item : ∀ {i d} {s : Shared} {Q : Option Value → Shared → Prop} {E : Value → Shared → Prop}, ds[i]? = some d → I i s.heap →
    (∀ v h' k, I (i + 1) h' → Kp [it] s.heap h' → Rd d v h' → Q (some v) { s with heap := h', toks := k }) → wpAny (model prog w) A (pyNext (.ref it)) Q E s
  stop : ∀ {s : Shared} {Q : Option Value → Shared → Prop} {E : Value → Shared → Prop}, I ds.length s.heap →
    (∀ h' k, Kp [it] s.heap h' → Q none { s with heap := h', toks := k }) → wpAny (model prog w) A (pyNext (.ref it)) Q E s
  stay : ∀ {i h h'}, I i h → Kp W h h' → I i h'
  odd : ∀ {i h}, I i h → Odd it h ∧ ∃ o, h.get? it = some o
  go : ∀ {i} {s : Shared} {elts x1 pos T} {Q : Unit → Shared → Prop} {E : Value → Shared → Prop}, I i s.heap → Q () s → wpAny (model prog w) A (letOwnedTupleGo (.Tuple elts x1 pos) (.ref it) (.ref T)) Q E s
/-- what a for goes over -/
def Iter (prog : Program) (w : World) (A : Around) (env : Env) (W : List Addr) (h : Heap) (e : Expr) (ds : List PyData) (X : Value → Heap → Prop) : Prop :=
  ∀ (s : Shared) (Q : Value → Shared → Prop) (E : Value → Shared → Prop), Keep h s.heap →
    (∀ it I h' k, Keep s.heap h' → Itr prog w A W it ds I → I 0 h' → s.heap.get? it = none → Q (.ref it) { s with heap := h', toks := k }) →
    (∀ x h' k, X x h' → E x { s with heap := h', toks := k }) →
    wpAny (model prog w) A (eval e env) (fun x s₁ => wpAny (model prog w) A (pyIter x) Q E s₁) E s

section
variable {prog : Program} {w : World} {A : Around} {nm : Str} {sc : Scope} {L fa : Addr} {cd : Value} {g h : Heap} {ρ : Locs} {μ : Mut} {X : Value → Heap → Prop} {Ws : List Addr} {P : Flow → Heap → Prop} {rest : List Stmt}

/-- the loop, whatever the target -/
theorem run_forG {target : Expr} {iter : Expr} {body : List Stmt} {pos : Pos} {ds : List PyData} (J : Nat → Locs → Mut → Prop) (S : St g L h ρ μ) (it : Iter prog w A (envOf nm sc L fa cd) (L :: Ws) h iter ds X) (j0 : J 0 ρ μ)
    (hold : ∀ b ∈ L :: Ws, ∃ o, h.get? b = some o)
    (asg : ∀ {i d ρ μ} {s : Shared} {Q : Unit → Shared → Prop} {E : Value → Shared → Prop} {it' : Addr} {I : Nat → Heap → Prop} {v : Value}, ds[i]? = some d → J i ρ μ → St g L s.heap ρ μ → Rd d v s.heap → Itr prog w A (L :: Ws) it' ds I → I (i + 1) s.heap →
      (∀ h' k, Kp [L] s.heap h' → (Run (model prog w) A (envOf nm sc L fa cd) Ws body h' (fun fl h2 => match fl with
        | .next | .cont => ∃ ρ' μ', J (i + 1) ρ' μ' ∧ St g L h2 ρ' μ'
        | .brk => Run (model prog w) A (envOf nm sc L fa cd) Ws rest h2 P X
        | .ret v => P (.ret v) h2) X) → Q () { s with heap := h', toks := k }) →
      wpAny (model prog w) A (letOwnedTupleGo target (.ref it') v) (fun _ s' => wpAny (model prog w) A (assign target (envOf nm sc L fa cd) v) Q E s') E s)
    (fin : ∀ ρ μ h, J ds.length ρ μ → St g L h ρ μ → Run (model prog w) A (envOf nm sc L fa cd) Ws rest h P X)
    (hs : pl iter = true := by rfl) :
    Run (model prog w) A (envOf nm sc L fa cd) Ws (.For target iter body [] pos :: rest) h P X := by
  refine ⟨fun s Q E e po q x => ?_⟩; subst e
  refine wpAny_execs_cons (wpAny_For (it s _ E Keep.rfl (fun it' I h1 k1 kk hit hI hnew => ?_) x) (pl_fold hs))
  have hitW : ∀ b ∈ L :: Ws, b ≠ it' := fun b hb e => by
    obtain ⟨o, ho⟩ := hold b hb
    subst e; rw [hnew] at ho; cases ho
  have hg : g.get? it' = none := S.frK.none hnew
  -- what changes at the iterator alone was not there before
  have goOn : ∀ h3, Kp (it' :: L :: Ws) s.heap h3 → Run (model prog w) A (envOf nm sc L fa cd) Ws rest h3 P X → ∀ k3, wpAny (model prog w) A (execs rest (envOf nm sc L fa cd)) Q E { s with heap := h3, toks := k3 } := by
    intro h3 kp3 r k3
    refine r.go _ Q E rfl po (fun fl h4 k4 kp4 p => q fl h4 k4 ?_ p) (fun y h4 k4 r => x y h4 k4 r)
    intro b o nb eb
    refine kp4 b o nb (kp3 b o (fun hb => ?_) eb)
    cases hb with
    | head => rw [hnew] at eb; cases eb
    | tail _ hb => exact nb hb
  refine codeAny_forLoop_any (I := fun n s' => ∃ i h' k ρ μ, n = ds.length - i ∧ i ≤ ds.length ∧ s' = { s with heap := h', toks := k } ∧ Kp (it' :: L :: Ws) s.heap h' ∧ I i h' ∧ J i ρ μ ∧ St g L h' ρ μ) (fun n s' hI' => ?_) ds.length
    ⟨0, h1, k1, ρ, μ, rfl, Nat.zero_le _, rfl, kk.kp, hI, j0, S.keep kk⟩
  obtain ⟨i, h2, k2, ρ2, μ2, rfl, hi, rfl, kp2, hI2, hJ2, S2⟩ := hI'
  have kpIt : ∀ {ha hb : Heap}, Kp (it' :: L :: Ws) s.heap ha → Kp [it'] ha hb → Kp (it' :: L :: Ws) s.heap hb := fun k1 k2 => k1.trans (k2.mono fun b hb => by rw [List.mem_singleton] at hb; subst hb; exact .head _)
  by_cases hlt : i < ds.length
  · have hd : ds[i]? = some ds[i] := List.getElem?_eq_getElem hlt
    refine hit.item (s := { s with heap := h2, toks := k2 }) hd hI2 (fun v h3 k3 hI3 kp3 r3 => ?_)
    have S3 : St g L h3 ρ2 μ2 := S2.odd (hit.odd hI2).1 (hit.odd hI2).2 hg kp3
    refine wpAny_mono (asg (s := { s with heap := h3, toks := k3 }) hd hJ2 S3 r3 hit hI3 (Q := fun _ s' => ∃ h4 k4, s' = { s with heap := h4, toks := k4 } ∧ Kp [L] h3 h4 ∧ Run (model prog w) A (envOf nm sc L fa cd) Ws body h4 (fun fl h2 => match fl with
        | .next | .cont => ∃ ρ' μ', J (i + 1) ρ' μ' ∧ St g L h2 ρ' μ'
        | .brk => Run (model prog w) A (envOf nm sc L fa cd) Ws rest h2 P X
        | .ret v => P (.ret v) h2) X) (E := E) (fun h4 k4 kp4 R4 => ⟨h4, k4, rfl, kp4, R4⟩)) (fun _ s' hs' => wpAny_mono hs' (fun _ s'' hq => ?_) po) po
    obtain ⟨h4, k4, rfl, kp4, R4⟩ := hq
    have hI4 : I (i + 1) h4 := hit.stay hI3 (kp4.mono fun b hb => by rw [List.mem_singleton] at hb; subst hb; exact .head _)
    have kpA : Kp (it' :: L :: Ws) s.heap h4 := (kpIt kp2 kp3).trans (kp4.mono fun b hb => by rw [List.mem_singleton] at hb; subst hb; exact .tail _ (.head _))
    refine wpAny_passesOwn po (R4.go _ _ (E) rfl po (fun fl h5 k5 kp5 p => ?_) (fun y h2 j r => x y h2 j r))
    have kpB : Kp (it' :: L :: Ws) s.heap h5 := kpA.trans (kp5.mono fun b hb => .tail _ hb)
    have kpC : Kp (L :: Ws) s.heap h5 := fun b o nb eb => kpB b o (fun hb => by
      cases hb with
      | head => rw [hnew] at eb; cases eb
      | tail _ hb => exact nb hb) eb
    cases fl with
    | next => obtain ⟨ρ', μ', hJ', S'⟩ := p; exact ⟨ds.length - (i + 1), by (first | lia | omega), i + 1, h5, k5, ρ', μ', rfl, by (first | lia | omega), rfl, kpB, hit.stay hI4 kp5, hJ', S'⟩
    | cont => obtain ⟨ρ', μ', hJ', S'⟩ := p; exact ⟨ds.length - (i + 1), by (first | lia | omega), i + 1, h5, k5, ρ', μ', rfl, by (first | lia | omega), rfl, kpB, hit.stay hI4 kp5, hJ', S'⟩
    | brk => exact goOn h5 kpB p k5
    | ret v => exact q _ _ _ kpC p
  · have e : i = ds.length := by (first | lia | omega)
    subst e
    refine hit.stop (s := { s with heap := h2, toks := k2 }) hI2 (fun h3 k3 kp3 => ?_)
    have S3 : St g L h3 ρ2 μ2 := S2.odd (hit.odd hI2).1 (hit.odd hI2).2 hg kp3
    exact wpAny_execs_nil (goOn h3 (kpIt kp2 kp3) (fin ρ2 μ2 h3 hJ2 S3) k3)

/-- for x in .. -/
theorem run_for {x : Str} {px : Pos} {iter : Expr} {body : List Stmt} {pos : Pos} {ds : List PyData} (J : Nat → Locs → Mut → Prop) (S : St g L h ρ μ) (it : Iter prog w A (envOf nm sc L fa cd) (L :: Ws) h iter ds X) (j0 : J 0 ρ μ)
    (hold : ∀ b ∈ L :: Ws, ∃ o, h.get? b = some o)
    (step : ∀ i d ρ μ h, ds[i]? = some d → J i ρ μ → St g L h ((x, d) :: ρ) μ → Run (model prog w) A (envOf nm sc L fa cd) Ws body h (fun fl h2 => match fl with
        | .next | .cont => ∃ ρ' μ', J (i + 1) ρ' μ' ∧ St g L h2 ρ' μ'
        | .brk => Run (model prog w) A (envOf nm sc L fa cd) Ws rest h2 P X
        | .ret v => P (.ret v) h2) X)
    (fin : ∀ ρ μ h, J ds.length ρ μ → St g L h ρ μ → Run (model prog w) A (envOf nm sc L fa cd) Ws rest h P X)
    (hf : ∀ d ∈ ds, flat d = true) (hμ : ∀ i ρ μ, J i ρ μ → ∀ q, μ = some q → q.1 ≠ x)
    (hs : pl iter = true := by rfl) (hk : sc.kind = .function := by rfl) (hl : (envOf nm sc L fa cd).kindOf x = some .local := by rfl) :
    Run (model prog w) A (envOf nm sc L fa cd) Ws (.For (.Name x px) iter body [] pos :: rest) h P X := by
  refine run_forG J S it j0 hold ?_ fin hs
  intro i d ρ μ s Q E it' I v hd hJ S r hit hI q
  refine wpAny_of_eq (a := ()) rfl ?_
  refine PyProof.Rows.assign_Name (st_name S r (hf d (List.mem_of_getElem? hd)) (hμ i ρ μ hJ) (fun h' k kp S' => q h' k kp (step i d ρ μ h' hd hJ S')) hk hl)
end
end Mine

namespace Mine
open PySem PySem.Spec PySem.Calls PyProof.Rows

theorem flatL_append {ds es : List PyData} (h : flatL ds = true) (h' : flatL es = true) : flatL (ds ++ es) = true := by
  induction ds with
  | nil => exact h'
  | cons a r ih =>
    simp only [flatL, Bool.and_eq_true] at h
    simp only [List.cons_append, flatL, Bool.and_eq_true]
    exact ⟨h.1, ih h.2⟩
theorem flatL_snoc {ds : List PyData} {d : PyData} (h : flatL ds = true) (h' : flat d = true) : flatL (ds ++ [d]) = true := flatL_append h (by simp [flatL, h'])
section
variable {g h : Heap} {L : Addr} {ρ : Locs} {μ : Mut} {Ws : List Addr}
/-- the places that may be written are the frame and its own list -/
def Wok (μ : Mut) (Ws : List Addr) : Prop := ∀ a ∈ Ws, ∃ q, μ = some q ∧ q.2.1 = a
theorem wok_nil : Wok μ [] := fun _ h => nomatch h
theorem w_noTup (S : St g L h ρ μ) (hW : Wok μ Ws) : ∀ a ∈ L :: Ws, NoTup a h ∧ ∃ o, h.get? a = some o := by
  obtain ⟨m, F, _, hm⟩ := S.ex
  intro a ha
  cases ha with
  | head => exact ⟨noTup_L F, L_some F⟩
  | tail _ ha =>
    obtain ⟨q, e, rfl⟩ := hW a ha
    obtain ⟨_, _, _, items, p, _⟩ := hm q e
    exact ⟨noTup_list p, let ⟨_, p⟩ := p; ⟨_, p⟩⟩
theorem w_hold (S : St g L h ρ μ) (hW : Wok μ Ws) : ∀ b ∈ L :: Ws, ∃ o, h.get? b = some o := fun b hb => (w_noTup S hW b hb).2
end

theorem isList_kp {W : List Addr} {h h' : Heap} {l : Addr} {items} (k : Kp W h h') (n : l ∉ W) (x : h.IsList l items) : h'.IsList l items := let ⟨o, ho, r⟩ := x; ⟨o, k _ _ n ho, r⟩
theorem size_none (h : Heap) : h.get? h.objs.size = none := by
  cases hq : h.get? h.objs.size with
  | none => rfl
  | some o => exact absurd (Heap.lt_size hq) (Nat.lt_irrefl _)
section
variable {prog : Program} {w : World} {A : Around} {env : Env} {W : List Addr} {h : Heap} {X : Value → Heap → Prop}

theorem odd_fields {h : Heap} {a : Addr} {o : Obj} {fs : Array Value} (ho : h.get? a = some o) (hd : o.data = .fields fs) : Odd a h ∧ ∃ o, h.get? a = some o :=
  ⟨fun o' e => by rw [ho] at e; cases e; rw [hd]; exact ⟨(fun _ _ e => by cases e), (fun _ _ e => by cases e)⟩, o, ho⟩

def rangeD (a : Int) (n : Nat) : List PyData := (List.range n).map fun (i : Nat) => PyData.int (a + i)
theorem rangeD_len (a : Int) (n : Nat) : (rangeD a n).length = n := by simp [rangeD]
theorem rangeD_at (a : Int) (n i : Nat) : (rangeD a n)[i]? = if i < n then some (.int (a + i)) else none := by
  unfold rangeD
  by_cases h : i < n
  · simp [h]
  · simp [h]
theorem rangeD_flat (a : Int) (n : Nat) : ∀ d ∈ rangeD a n, flat d = true := by
  intro d hd
  simp only [rangeD, List.mem_map] at hd
  obtain ⟨i, _, rfl⟩ := hd
  rfl
/-- a range by ones, from its iterator on -/
theorem iter_rangeC {e : Expr} {a b : Int} (hh : A.handled = none) (ha : -(2 ^ 61) ≤ a ∧ a ≤ 2 ^ 61) (hb : -(2 ^ 61) ≤ b ∧ b ≤ 2 ^ 61)
    (ev : Ev (model prog w) A env h e (fun v h' => ∃ r t u y, v = .ref r ∧ IsRange h' r a b 1 t u y) X) (hold : ∀ b ∈ W, ∃ o, h.get? b = some o) : Iter prog w A env W h e (rangeD a (b - a).toNat) X := by
  intro s Q E k q x
  refine ev.go s _ E k (fun v h1 i k1 r => ?_) x
  obtain ⟨r, t, u, y, rfl, hr⟩ := r
  have hsz : Builtin.Range.rangeSize a b 1 = ((b - a).toNat : Int) := by
    unfold Builtin.Range.rangeSize
    simp only [show (1 : Int) > 0 from by decide, if_true]
    split
    · rw [Int.ediv_one]; (first | lia | omega)
    · (first | lia | omega)
  have hsm : Builtin.Range.small a b 1 = true := by
    unfold Builtin.Range.small
    rw [hsz]
    simp only [Builtin.Range.rangeFitsLong, Bool.and_eq_true, Bool.or_eq_true, decide_eq_true_eq, beq_iff_eq]
    refine ⟨⟨⟨⟨⟨by (first | lia | omega), by (first | lia | omega)⟩, by (first | lia | omega), by (first | lia | omega)⟩, by decide, by decide⟩, by (first | lia | omega), by (first | lia | omega)⟩, ?_⟩
    right
    simp only [show (1 : Int) > 0 from by decide, if_true, Bool.and_eq_true, decide_eq_true_eq]
    (first | lia | omega)
  refine wpAny_pyIter_range (s := { s with heap := h1, toks := i }) hr hsm ?_
  rw [hsz]
  have hitW : h1.objs.size ∉ W := fun hm => by
    obtain ⟨o, ho⟩ := hold _ hm
    have := k1 _ _ (k _ _ ho)
    rw [size_none] at this; cases this
  refine q h1.objs.size (fun i h' => IsRangeIter h' h1.objs.size (a + i) (((b - a).toNat : Int) - i) 1) _ _ (Keep.push k1 _) ?_ ?_ ?_
  · refine ⟨?_, ?_, ?_, ?_, ?_⟩
    · intro i d s' Q' E' hd hI q'
      rw [rangeD_at] at hd
      by_cases hi : i < (b - a).toNat
      · rw [if_pos hi] at hd; cases hd
        refine wpAny_pyNext_range_item hI (by (first | lia | omega)) (fun h'' hit'' hsb => ?_)
        refine q' _ h'' _ ?_ (kp_same hsb) ⟨_, .int _ _⟩
        have e1 : a + ((i + 1 : Nat) : Int) = a + i + 1 := by (first | lia | omega)
        have e2 : ((b - a).toNat : Int) - ((i + 1 : Nat) : Int) = ((b - a).toNat : Int) - i - 1 := by (first | lia | omega)
        rw [e1, e2]; exact hit''
      · rw [if_neg hi] at hd; cases hd
    · intro s' Q' E' hI q'
      rw [rangeD_len] at hI
      refine wpAny_pyNext_range_end hh hI (by (first | lia | omega)) (fun h'' he => q' h'' s'.toks (kp_ext he))
    · intro i ha hb hI kp
      exact kp _ _ hitW hI
    · intro i ha hI
      exact odd_fields hI rfl
    · intro i s' elts x1 pos T Q' E' hI q'
      unfold letOwnedTupleGo
      refine wpAny_bind (wpAny_load hI ?_)
      refine wpAny_ite_false ?_ (wpAny_pure q')
      simp
  · show IsRangeIter _ _ (a + ((0 : Nat) : Int)) (((b - a).toNat : Int) - ((0 : Nat) : Int)) 1
    simp only [Int.natCast_zero, Int.add_zero, Int.sub_zero]
    exact Heap.get?_push_size _ rfl
  · exact k1.none (size_none h1)
end

section
variable {prog : Program} {w : World} {A : Around} {nm : Str} {sc : Scope} {L fa : Addr} {cd : Value} {g h : Heap} {ρ : Locs} {μ : Mut} {X : Value → Heap → Prop} {Ws : List Addr} {P : Flow → Heap → Prop} {rest : List Stmt}
/-- a list of g's, handed on by an argument's name or not: any list that is read and not among W -/
theorem run_append {x : Str} {l : Addr} {ds : List PyData} {d : PyData} {e : Expr} {px ap pos ep : Pos} (S : St g L h ρ (some (x, l, ds))) (ev : Ev (model prog w) A (envOf nm sc L fa cd) h e (Rd d) X) (hf : flat d = true) (hl : l ∈ Ws) (hsz : ds.length ≤ 2 ^ 20)
    (k : ∀ h', St g L h' ρ (some (x, l, ds ++ [d])) → Run (model prog w) A (envOf nm sc L fa cd) Ws rest h' P X)
    (hbase : attributeBase (.Name x px) "append" (envOf nm sc L fa cd) (eval (.Name x px) (envOf nm sc L fa cd)) = eval (.Name x px) (envOf nm sc L fa cd) := by rfl) (hline : (ap.endLine == pos.line) = true := by rfl)
    (hk : sc.kind = .function := by rfl) (hloc : (envOf nm sc L fa cd).kindOf x = some .local := by rfl) (hd : (x == ("__debug__" : Str)) = false := by decide)
    (htr0 : pl e = true := by rfl)
    (hi : interactive (envOf nm sc L fa cd) = false := by rfl) (hs : True := trivial) :
    Run (model prog w) A (envOf nm sc L fa cd) Ws (.Expr (.Call (.Attribute (.Name x px) "append" ap) [e] [] pos) ep :: rest) h P X := by
  refine ⟨fun s Q E e' po q x' => ?_⟩; subst e'
  have htr : backTo pos (starEach [e] (envOf nm sc L fa cd)) = [(false, eval e (envOf nm sc L fa cd))] := by rw [pl_star htr0]; rfl
  refine wpAny_execs_cons (wpAny_Expr_any ?_ hi (pl_swaps rfl))
  refine wpAny_Call_append hbase (by rw [htr]; rfl) hline htr ?_
  refine (ev_mutL S hk hloc hd).seq Keep.rfl (fun v h1 i k1 r => ?_) x'
  subst r
  have S1 := S.keep k1
  obtain ⟨m, F, _, hm⟩ := S1.ex
  obtain ⟨_, _, _, items, ⟨n, p⟩, _⟩ := hm _ rfl
  refine ⟨l, items, rfl, ⟨_, n, p, rfl, rfl, rfl⟩, ?_⟩
  refine (ev.up k1).seq (s := { s with heap := h1, toks := i }) Keep.rfl (fun y h2 j k2 r2 => ?_) (fun y h2 j r => x' y h2 j r)
  have S2 := S1.keep k2
  obtain ⟨m2, F2, hr2, hm2⟩ := S2.ex
  obtain ⟨hx2, hg2, hf2, items2, p2, rr2⟩ := hm2 _ rfl
  have hlen : items2.size = ds.length := by have := rr2.len; simpa using this
  refine wpAny_list_append_plain (s := { s with heap := h2, toks := j }) (hsz := by rw [hlen]; have e : sizeLine = 2 ^ 24 := rfl; (first | lia | omega)) p2 (fun h3 p3 hsb => ?_)
  have kp := kp_same hsb
  have hlL : l ≠ L := L_ne_list F2 p2
  have wok : ∀ (bs : List Addr), l ∉ bs → ∀ a ∈ [l], Odd a h2 ∨ (a ∉ bs ∧ NoTup a h2) := fun bs hb a ha => by
    rw [List.mem_singleton] at ha; subst ha; exact .inr ⟨hb, noTup_list p2⟩
  have S3 : St g L h3 ρ (some (x, l, ds ++ [d])) := by
    refine ⟨m2, ⟨?_, fun b o e => kp b o (fun hb => ?_) (F2.keep b o e), F2.above⟩, fun y d' e => ?_, fun q e => ?_⟩
    · obtain ⟨o, es, ep, ho, r⟩ := F2.ns
      exact ⟨o, es, ep, kp _ _ (by simpa using hlL.symm) ho, r⟩
    · rw [List.mem_singleton] at hb; subst hb; rw [hg2] at e; cases e
    · obtain ⟨v, as, a, b, c, dd⟩ := hr2 y d' e
      exact ⟨v, as, a, reads_kp kp (wok _ (dd _ rfl)) b, c, fun q e => by cases e; exact dd (x, l, ds) rfl⟩
    · cases e
      refine ⟨hx2, hg2, ?_, _, p3, ?_⟩
      · show flatL (ds ++ [d]) = true
        exact flatL_snoc hf2 hf
      · rw [Array.toList_push]
        have ra : RdL ds items2.toList h3 := rdl_flat_kp kp hf2 (fun a ha => by rw [List.mem_singleton] at ha; subst ha; exact noTup_list p2) rr2
        have rb : Rd d y h3 := by
          obtain ⟨as, z⟩ := r2
          have e := flat_nil hf z
          subst e
          exact ⟨_, reads_kp kp (wok _ List.not_mem_nil) z⟩
        exact ra.append (RdL.cons rb RdL.nil)
  refine (k h3 S3).go _ Q E rfl po (fun fl h4 j4 kp4 p4 => q fl h4 j4 (((Keep.trans k1 k2).kp.trans (kp.mono fun b hb => ?_)).trans kp4) p4) (fun y h2 j r => x' y h2 j r)
  rw [List.mem_singleton] at hb; subst hb; exact .tail _ hl
/-- a statement by what holds behind it -/
theorem run_cut {st : Stmt} (J : Heap → Prop) (a : Run (model prog w) A (envOf nm sc L fa cd) Ws [st] h (fun fl h2 => fl = .next ∧ J h2) X) (k : ∀ h', J h' → Run (model prog w) A (envOf nm sc L fa cd) Ws rest h' P X) :
    Run (model prog w) A (envOf nm sc L fa cd) Ws (st :: rest) h P X := by
  refine ⟨fun s Q E e po q x => ?_⟩; subst e
  have h1 := a.go s (fun f s' => ∃ h' j, f = .next ∧ s' = { s with heap := h', toks := j } ∧ Kp (L :: Ws) s.heap h' ∧ J h') E rfl po (fun fl h' j kp p => ⟨h', j, p.1, rfl, kp, p.2⟩) x
  have h2 : wpAny (model prog w) A (exec st (envOf nm sc L fa cd)) (fun f s' => ∃ h' j, f = .next ∧ s' = { s with heap := h', toks := j } ∧ Kp (L :: Ws) s.heap h' ∧ J h') E s := by
    intro Γ p hΓ
    have := h1 Γ p hΓ
    rw [execs_cons, Sem.wp_bind'] at this
    refine Sem.wp_mono _ Γ _ (fun f p' s' h' => ?_) (fun _ _ _ h' => h') _ _ this
    cases f <;> exact h'
  refine wpAny_execs_cons (wpAny_mono h2 (fun f s' hq => ?_) fun _ _ y => y)
  obtain ⟨h', j, rfl, rfl, kp, hJ⟩ := hq
  exact (k h' hJ).go _ Q E rfl po (fun fl h2 j2 kp2 p => q fl h2 j2 (kp.trans kp2) p) (fun y h2 j2 r => x y h2 j2 r)
end
end Mine

namespace Mine
open PySem PySem.Spec PySem.Calls PyProof.Rows PySem.W

/-- sizes -/
def Sz (n : Nat) (a : Int) : Prop := -(10 ^ n : Int) < a ∧ a < (10 ^ n : Int)
theorem pow_pos10 (n : Nat) : (0 : Int) < 10 ^ n := Int.pow_pos (by decide)
theorem pow_mono10 {n m : Nat} (h : n ≤ m) : (10 : Int) ^ n ≤ 10 ^ m := by
  have : (10 : Nat) ^ n ≤ 10 ^ m := Nat.pow_le_pow_right (by decide) h
  exact_mod_cast this
theorem Sz.mono {n m : Nat} {a : Int} (h : Sz n a) (hm : n ≤ m) : Sz m a := by
  have := pow_mono10 hm
  obtain ⟨h1, h2⟩ := h
  exact ⟨by (first | lia | omega), by (first | lia | omega)⟩
theorem Sz.natAbs {n : Nat} {a : Int} (h : Sz n a) : a.natAbs < 10 ^ n := by
  obtain ⟨h1, h2⟩ := h
  have e : ((10 ^ n : Nat) : Int) = (10 : Int) ^ n := by simp
  (first | lia | omega)
theorem Sz.of_natAbs {n : Nat} {a : Int} (h : a.natAbs < 10 ^ n) : Sz n a := by
  have e : ((10 ^ n : Nat) : Int) = (10 : Int) ^ n := by simp
  exact ⟨by (first | lia | omega), by (first | lia | omega)⟩
theorem Sz.mul {n m : Nat} {a b : Int} (ha : Sz n a) (hb : Sz m b) : Sz (n + m) (a * b) := by
  refine Sz.of_natAbs ?_
  rw [Int.natAbs_mul, Nat.pow_add]
  exact Nat.mul_lt_mul'' ha.natAbs hb.natAbs
theorem Sz.add {n m : Nat} {a b : Int} (ha : Sz n a) (hb : Sz m b) : Sz (max n m + 1) (a + b) := by
  refine Sz.of_natAbs ?_
  have h1 := (ha.mono (Nat.le_max_left n m)).natAbs
  have h2 := (hb.mono (Nat.le_max_right n m)).natAbs
  have h3 := Int.natAbs_add_le a b
  rw [Nat.pow_succ]; (first | lia | omega)
theorem Sz.neg {n : Nat} {a : Int} (ha : Sz n a) : Sz n (-a) := ⟨by have := ha.2; (first | lia | omega), by have := ha.1; (first | lia | omega)⟩
theorem Sz.sub {n m : Nat} {a b : Int} (ha : Sz n a) (hb : Sz m b) : Sz (max n m + 1) (a - b) := by rw [Int.sub_eq_add_neg]; exact ha.add hb.neg
theorem Sz.le {n : Nat} {a b : Int} (hb : Sz n b) (h0 : 0 ≤ a) (h : a ≤ b) : Sz n a := ⟨by have := pow_pos10 n; (first | lia | omega), by have := hb.2; (first | lia | omega)⟩
theorem Sz.abs {n : Nat} {a : Int} (ha : Sz n a) : Sz n a.natAbs := Sz.of_natAbs (by simpa using ha.natAbs)
theorem intBits_le {n : Nat} {a : Int} (h : Sz n a) (hn : n ≤ 1000) : Builtin.Int.intBits a ≤ 2 ^ 20 := by
  unfold Builtin.Int.intBits
  split
  · exact Nat.zero_le _
  · rename_i h0
    have ha : a.natAbs ≠ 0 := by
      intro e; apply h0; simp; (first | lia | omega)
    have h1 := h.natAbs
    have h2 : (10 : Nat) ^ n ≤ 2 ^ (4 * n) := by
      rw [Nat.pow_mul]; exact Nat.pow_le_pow_left (by decide) n
    have h3 : a.natAbs.log2 < 4 * n := (Nat.log2_lt ha).mpr (Nat.lt_of_lt_of_le h1 h2)
    (first | lia | omega)
theorem mul_ok {n m : Nat} {a b : Int} (ha : Sz n a) (hb : Sz m b) (hn : n ≤ 1000 := by decide) (hm : m ≤ 1000 := by decide) : IntMulOk a b := IntMulOk.of_bits (intBits_le ha hn) (intBits_le hb hm)
theorem div_ok {n : Nat} {b : Int} (hb : Sz n b) (hn : n ≤ 250 := by decide) : b < 10 ^ 250 := by have := (hb.mono hn).2; exact this

theorem rm_caller {n : Nat} (h : n ≤ 600 := by decide) : Rm callerA n := ⟨rfl, by show 1 + claimMargin + n < recursionLimit; simp only [claimMargin, recursionLimit]; (first | lia | omega), by show 4 + 3 * n + 100 < cLine; simp only [cLine]; (first | lia | omega)⟩

section
variable {c : Cx} {n : Nat} {A : Around} {nm : Str} {sc : Scope} {L fa : Addr} {cd : Value} {g h : Heap} {ρ : Locs} {μ : Mut} {X : Value → Heap → Prop} {p pos : Pos}
theorem ev_lenl {e : Expr} {ds : List PyData} (S : St g L h ρ μ) (T : c.T g) (B : Bn c) (e1 : Ev c.M A (envOf nm sc L fa cd) h e (Rd (.list ds)) X) (hn : ds.length < 2 ^ 62) (hk : sc.kind = .function := by rfl) (hg : (envOf nm sc L fa cd).kindOf (Str.ofString "len") = some .globalImplicit := by rfl)
    (he : pl e = true := by rfl) : Ev c.M A (envOf nm sc L fa cd) h (.Call (.Name (Str.ofString "len") p) [e] [] pos) (Rd (.int ds.length)) X :=
  ev_bcall (id := "len") S T B (by decide) (by decide +kernel) (evl_cons e1 evl_nil he) (fun vs h' k r => by
    obtain ⟨v, r', rfl, r1, r2⟩ := r.uncons
    cases r2.unnil
    exact op_len hn (.inl r1)) (by decide) hk hg (by decide) he rfl
theorem ev_lent {e : Expr} {ds : List PyData} (S : St g L h ρ μ) (T : c.T g) (B : Bn c) (e1 : Ev c.M A (envOf nm sc L fa cd) h e (Rd (.tuple ds)) X) (hn : ds.length < 2 ^ 62) (hk : sc.kind = .function := by rfl) (hg : (envOf nm sc L fa cd).kindOf (Str.ofString "len") = some .globalImplicit := by rfl)
    (he : pl e = true := by rfl) : Ev c.M A (envOf nm sc L fa cd) h (.Call (.Name (Str.ofString "len") p) [e] [] pos) (Rd (.int ds.length)) X :=
  ev_bcall (id := "len") S T B (by decide) (by decide +kernel) (evl_cons e1 evl_nil he) (fun vs h' k r => by
    obtain ⟨v, r', rfl, r1, r2⟩ := r.uncons
    cases r2.unnil
    exact op_len hn (.inr r1)) (by decide) hk hg (by decide) he rfl
theorem ev_min {e e' : Expr} {a b : Int} (S : St g L h ρ μ) (T : c.T g) (B : Bn c) (hh : A.handled = none) (e1 : Ev c.M A (envOf nm sc L fa cd) h e (Rd (.int a)) X) (e2 : Ev c.M A (envOf nm sc L fa cd) h e' (Rd (.int b)) X) (hk : sc.kind = .function := by rfl) (hg : (envOf nm sc L fa cd).kindOf (Str.ofString "min") = some .globalImplicit := by rfl)
    (he : pl e = true := by rfl) (he2 : pl e' = true := by rfl) :
    Ev c.M A (envOf nm sc L fa cd) h (.Call (.Name (Str.ofString "min") p) [e, e'] [] pos) (Rd (.int (min a b))) X :=
  ev_bcall (id := "min") S T B (by decide) (by decide +kernel) (evl_cons e1 (evl_cons e2 evl_nil he2) he) (fun vs h' k r => by
    obtain ⟨v, r', rfl, r1, r2⟩ := r.uncons
    obtain ⟨v2, r3, rfl, r4, r5⟩ := r2.uncons
    cases r5.unnil
    exact op_min hh r1 r4) (by decide) hk hg (by decide) he (by simp [he2])
end
theorem sz_lit {a : Int} (h : decide (-(10 ^ 10 : Int) < a ∧ a < 10 ^ 10) = true) : Sz 10 a := by have := of_decide_eq_true h; exact this
end Mine

namespace Mine
open PySem PySem.Spec PySem.Calls PyProof.Rows PySem.W
def bnOk (p : Program) (loose : List Str) : Bool := bnames.all fun x => !(startupNames.contains x || loose.contains x || ((recsOf p).map (·.name)).contains x || ((litsOf p).map (·.1)).contains x || ((clssOf p loose).map (·.name)).contains x)
theorem bn_of {prog p : Program} {w : World} {loose : List Str} {mean : ExcName → Option Value} {mg mb : Str → Option Value} {h : Heap} (T : Top p loose mean mg mb h) (hb : bnOk p loose = true) : Bn ⟨prog, w, p, loose, mean, mg, mb⟩ := by
  intro x hx
  have := List.all_eq_true.mp hb x hx
  simp only [Bool.not_eq_true', Bool.or_eq_false_iff] at this
  obtain ⟨⟨⟨⟨h1, h2⟩, h3⟩, h4⟩, h5⟩ := this
  have no : ∀ {l : List Str}, l.contains x = false → x ∉ l := fun e hm => by rw [List.contains_iff_mem.mpr hm] at e; cases e
  exact T.free x (no h1) (no h2) (no h3) (no h4) (no h5)
end Mine

namespace Mine
open PySem PySem.Spec PySem.Calls PyProof.Rows PySem.W PySem.Builtin PySem.Builtin.ObjectAttr PySem.Builtin.Getset_descriptor

/-- an object of the class C -/
def Ex (h : Heap) (x C : Addr) : Prop := ∃ o, h.get? x = some o ∧ o.cls = .ref C
theorem Ex.keep {h h' : Heap} {x C : Addr} (i : Ex h x C) (k : Keep h h') : Ex h' x C := let ⟨o, a, b⟩ := i; ⟨o, k _ _ a, b⟩
theorem Ex.type {M : Model} {h : Heap} {x C : Addr} (i : Ex h x C) : Looks M h (typeOf (.ref x)) (.ref C) := by
  obtain ⟨o, a, b⟩ := i
  exact b ▸ (Looks.ld a).andThen .now

section
variable {prog : Program} {w : World} {A : Around} {E : Value → Shared → Prop} {s : Shared} {K : Frag} {x C : Addr} {name : Str}

theorem looks_bind {M : Model} {h : Heap} {a g : Value} (X : K.In h) (ha : findIn K (.ref C) name = some (some a)) (hg : specialIn K a "__get__" = some (some g)) (ht : takesIn K a = some true) : Looks M h (find (.ref x) (.ref C) name) (.bind g a) := by
  refine (looks_findIn X ha).andThen ?_
  have L2 : Looks M h (getOf (some a)) (some g) := looks_specialIn X hg
  refine L2.andThen ?_
  exact (show Looks M h (dataDescriptor? (some a) (some g)) (some (g, a)) from (looks_takesIn X ht).andThen .now).andThen (Looks.tag .now)

/-- what is asked of a class for its objects' «__class__» -/
structure ClsAttr (K : Frag) (C : Addr) : Prop where
  ga : findIn K (.ref C) "__getattribute__" = some (some (.builtin "BaseException.__getattribute__"))
  gk : findIn K (.ref C) "__getattr__" = some none
  at_ : findIn K (.ref C) "__class__" = some (some (.builtin "object.__class__"))
  get : specialIn K (.builtin "object.__class__") "__get__" = some (some (.builtin "getset_descriptor.__get__"))
  data : takesIn K (.builtin "object.__class__") = some true
  obj : mroIn K C (.type "object") = some true
  be : mroIn K C (.type "BaseException") = some true
  cls : (clsIn K C).isSome = true

theorem the_class_get {tp : Value} {R : Except Value Flow → Shared → Prop} (X : K.In s.heap) (I : Ex s.heap x C) (hm : mroIn K C (.type "object") = some true)
    (h : R (.ok (.ret (.ref C))) s) : codeAny (model prog w) A (.call (.builtin "getset_descriptor.__get__") ⟨[.builtin "object.__class__", .ref x, tp], []⟩) R s := by
  obtain ⟨hh, g, dr, t, os⟩ := s
  have L0 := I.type (M := model prog w)
  have L1 := looks_mroIn (M := model prog w) X hm
  refine codeAny_call_builtin KF.slot_gs.plain KF.entry_gs (KF.slot_gs.check _ _ _ _ _ _ _ _ KF.type_class (KF.args_gs _ _ _) ?_)
  unfold Builtin.«getset_descriptor.__get__» descrGet
  rw [dga_obj]
  refine wpAny_bind (wpAny_pure ?_)
  unfold descrGetter descrCheckInstance descrNameAndClass isInstance
  simp only [KF.owner_class]
  repeat lk
  refine ⟨Code.quiet_builtin _ (by decide +kernel), codeAny_builtin KF.entry_class ?_⟩
  unfold Builtin.«object.__class__» shownTypeOf
  repeat lk
  exact h

theorem bexc_class {tk : Tok} {R : Except Value Flow → Shared → Prop} (X : K.In s.heap) (I : Ex s.heap x C) (H : ClsAttr K C)
    (h : R (.ok (.ret (.ref C))) s) : codeAny (model prog w) A (.call (.builtin "BaseException.__getattribute__") ⟨[.ref x, .str "__class__" tk], []⟩) R s := by
  obtain ⟨hh, g, d, t, os⟩ := s
  have L0 := I.type (M := model prog w)
  have L1 := looks_mroIn (M := model prog w) X H.be
  have L3 := looks_bind (M := model prog w) (x := x) X H.at_ H.get H.data
  have hk : builtinKind "BaseException.__getattribute__" = some .slot := by decide +kernel
  have hsplit : splitId "BaseException.__getattribute__" = some ("BaseException", "__getattribute__") := by decide +kernel
  have ha := PySem.F.args_bexc_ga (.ref x) (.str "__class__" tk)
  refine codeAny_call_builtin PySem.F.excAttr_ValueError.ga.plain PySem.F.entry_bexc_ga ?_
  simp only [checkBuiltinCall, hk, hsplit]
  unfold isInstance
  repeat (first | with_reducible refine wpAny_call ?_ | lk)
  refine the_class_get X I H.obj ?_
  exact wpAny_pure h

theorem the_class {Q : Option Value → Shared → Prop} (X : K.In s.heap) (I : Ex s.heap x C) (H : ClsAttr K C) (h : Q (some (.ref C)) { s with toks := s.toks + 1 }) : wpAny (model prog w) A (getAttr? (.ref x) "__class__") Q E s := by
  obtain ⟨hh, g, d, t, os⟩ := s
  have L0 := I.type (M := model prog w)
  have L1 := looks_findIn (M := model prog w) X H.ga
  have L2 := looks_findIn (M := model prog w) X H.gk
  have f3 := PySem.F.excAttr_ValueError.ga.bind (.ref x)
  have hx2 : (Value.builtin "BaseException.__getattribute__" == Value.builtin "object.__getattribute__") = false := by decide +kernel
  have hx1 : (onTheHeap (Value.ref C) && Value.builtin "BaseException.__getattribute__" == Value.builtin "object.__getattribute__") = false := by rw [hx2]; rfl
  have hx0 : (false && onTheHeap (Value.builtin "BaseException.__getattribute__")) = false := rfl
  unfold getAttr? getAttrBy? getAttrBy
  refine wpAny_bind (wpAny_mkText (wpAny_bind (wpAny_attempt (wpAny_holding (wpAny_bind (L0.at (wpAny_bind (L1.at ?_))))))))
  simp only [hx1, Bool.false_eq_true, if_false]
  unfold getAttrByItsOwn hookBefore callGetattribute boundAndCalled
  repeat (first | with_reducible refine wpAny_attempt ?_ | with_reducible refine wpAny_call ?_ | lk)
  refine bexc_class (s := ⟨hh, g, d, t + 1, os⟩) X I H ?_
  exact handed_on rfl (wpAny_pure h)

theorem looks_isType {M : Model} {h : Heap} (X : K.In h) (e : (clsIn K C).isSome = true) : Looks M h (isType (.ref C)) true := by
  unfold clsIn at e
  split at e
  · rename_i ho
    intro A' Q' E' s' k q
    unfold isType loadHead
    exact wpAny_bind (wpAny_loadPart (k _ _ (X _ _ ho)) (wpAny_pure q))
  · cases e

theorem isx_nested {c : Value} {b : Bool} {dep : Int} {tk : Tok} {Q : Fin → Shared → Prop} (X : K.In s.heap) (I : Ex s.heap x C) (H : ClsAttr K C) (hty : Looks (model prog w) s.heap (typeOf c) (.type "type")) (his : Looks (model prog w) s.heap (isType c) true)
    (hself : (Value.ref C == c) = true → b = true) (hsub : Looks (model prog w) s.heap (isSubtype (.ref C) c) b) (h : ∀ k, Q (.done (.ret (.bool b))) { s with toks := k }) :
    wpAny (model prog w) A (Builtin.«isinstance.nested» ⟨[.ref x, c, .int dep tk], []⟩) Q E s := by
  have hisD := looks_isType (M := model prog w) X H.cls
  obtain ⟨h0, g, d, tt, os⟩ := s
  have L0 := I.type (M := model prog w)
  have LI : Looks (model prog w) h0 (isInstance (.ref x) c) b := L0.andThen hsub
  unfold Builtin.«isinstance.nested»
  refine wpAny_bind (L0.at ?_)
  by_cases q : (Value.ref C == c) = true
  · rw [if_pos q]
    have hb := hself q
    subst hb
    exact wpAny_bind (wpAny_rule (wpAny_bind (wpAny_pure (wpAny_pure (h tt)))))
  · rw [if_neg q]
    refine wpAny_bind (hty.at ?_)
    rw [if_pos (by decide)]
    k_delta "plainIsInstance"
    refine wpAny_bind (wpAny_bind (his.at ?_))
    simp only [Bool.not_true, Bool.false_eq_true, if_false]
    refine wpAny_bind (LI.at ?_)
    cases b with
    | true =>
      simp only [if_true]
      exact wpAny_pure (wpAny_pure (h tt))
    | false =>
      simp only [Bool.false_eq_true, if_false]
      refine wpAny_bind (the_class X I H ?_)
      refine wpAny_bind (hisD.at ?_)
      simp only [Bool.not_true, Bool.false_eq_true, if_false]
      refine wpAny_bind (wpAny_rule ?_)
      refine hsub.at ?_
      first
        | exact wpAny_pure (h _)
        | exact wpAny_pure (wpAny_pure (h _))
        | exact wpAny_bind (wpAny_pure (wpAny_pure (h _)))

theorem isx_call {c : Value} {b : Bool} {Q : Value → Shared → Prop} (X : K.In s.heap) (I : Ex s.heap x C) (H : ClsAttr K C) (hty : ∀ (M : Model) h', K.In h' → Looks M h' (typeOf c) (.type "type")) (his : ∀ (M : Model) h', K.In h' → Looks M h' (isType c) true)
    (hself : (Value.ref C == c) = true → b = true) (hsub : mroIn K C c = some b) (h : ∀ k, Q (.bool b) { s with toks := k }) : wpAny (model prog w) A (call (.builtin "isinstance") [.ref x, c]) Q E s :=
  call_isinstance (S := fun _ R s => (K.In s.heap ∧ Ex s.heap x C) ∧ ∀ k, R (.ok (.ret (.bool b))) { s with toks := k })
    (fun _ _ _ _ _ hs => isinstance_outer (isx_nested hs.1.1 hs.1.2 H (hty _ _ hs.1.1) (his _ _ hs.1.1) hself (looks_mroIn hs.1.1 hsub) hs.2) (by intro q; cases q)) ⟨⟨X, I⟩, h⟩
end

/-- where the frames lie below -/
structure Pt (c : Cx) (K : Frag) (A : Around) (base : Heap) (outer : List Env) (g : Heap) : Prop where
  bel : Below A base outer g
  kin : K.In base
  top : c.T base

/-- an exception that has left the frames ahead of l -/
def Rz (base : Heap) (l : List Env) (G : Heap) (C e : Addr) (h' : Heap) : Prop := ∃ t vs, RaisedS base G l e (.ref C) t vs [] h' ∧ G.UpToSlots h'
/-- an exception on its way out of a frame -/
def Xb (base : Heap) (outer : List Env) (env : Env) (g : Heap) (L C : Addr) (x : Value) (h' : Heap) : Prop :=
  ∃ e, x = .ref e ∧ ((∃ h m vs, Heap.MadeExcOf h h' e (.ref C) vs ∧ Fr g L h m) ∨ (∃ G m, Rz base (env :: outer) G C e h' ∧ Fr g L G m))

/-- a call that raises an exception of the class C -/
structure FnR (c : Cx) (K : Frag) (n : Nat) (f : Str) (ds : List PyData) (C : Addr) : Prop where
  isDef : ∃ dr ∈ recsOf c.p, dr.name = f
  run : ∀ (A : Around) (base : Heap) (outer : List Env) (h : Heap) (vs : List Value) (a : Addr), Pt c K A base outer h → Rm A n → c.mg f = some (.ref a) → RdL ds vs h → ∀ (s : Shared) (Q : Value → Shared → Prop) (E : Value → Shared → Prop), s.heap = h →
    (∀ e h' k, Rz base outer h C e h' → E (.ref e) { s with heap := h', toks := k }) → wpAny c.M A (call (.ref a) vs) Q E s

section
variable {c : Cx} {K : Frag} {n : Nat} {f : Str} {ds : List PyData} {C : Addr}
theorem fnr_core {dn : Str} {dp : Arguments} {db : List Stmt} {dsc : Scope} {dps : Pos} {xs : List Str} (hd : (⟨dn, dp, db, dsc, dps⟩ : DefRec) ∈ recsOf c.p ∧ dn = f)
    (hb : ∀ pm cd doc (vs : List Value), vs.length = ds.length → bindArgs (docDef dn dp db dsc pm cd doc) ⟨vs, []⟩ = pure (xs.zip vs))
    (hlen : xs.length = ds.length) (hnd : xs.Nodup) (hloc : ∀ x ∈ xs, dsc.names.lookup x = some .local)
    (hco : dsc.isCoroutine = false) (hgen : dsc.isGenerator = false) (hk : dsc.kind = .function) (hcell : ∀ x ∈ dsc.names, x.2 ≠ .cell)
    (k : ∀ (A : Around) (base : Heap) (outer : List Env) (g h : Heap) (L fa : Addr) (cd : Value), Pt c K A base outer g → Rm (A.deeper (envOf dn dsc L fa cd)) n → St g L h (zipL xs ds) none →
      Run c.M (A.deeper (envOf dn dsc L fa cd)) (envOf dn dsc L fa cd) [] db h (fun _ _ => False) (Xb base outer (envOf dn dsc L fa cd) g L C)) : FnR c K (n + 1) f ds C := by
  obtain ⟨hd, hn⟩ := hd
  refine ⟨⟨_, hd, hn⟩, ?_⟩
  intro A base outer h vs a PT rm ha r s Q E es x
  subst es
  have T : c.T s.heap := PT.top.keeps PT.bel.stays
  obtain ⟨a', o, pm, cd, doc, h1, h2, h3, h4⟩ := T.fn ⟨dn, dp, db, dsc, dps⟩ hd
  dsimp only at h1 h3 h4
  rw [hn, ha] at h1; cases h1
  refine wpAny_call (call_plain (by have := rm.dep; (first | lia | omega)) h2 h3 T.nolimit h4 (hb pm cd doc vs (r.len)) (fun y hy => hloc _ (List.of_mem_zip (a := y.1) (b := y.2) hy).1) (fun h₁ F => ?_) hco hgen hk hcell)
  have S : St s.heap s.heap.objs.size h₁ (zipL xs ds) none := by
    refine ⟨_, F, fun x d e => ?_, fun q e => nomatch e⟩
    obtain ⟨v, as, e', r'⟩ := zip_reads r hnd hlen x d e
    refine ⟨v, as, e', PyProof.Rows.Reads.keeps F.keep r', fun hL => ?_, fun q e => nomatch e⟩
    obtain ⟨o, ho⟩ := reads_some r' _ hL
    exact absurd (Heap.lt_size ho) (Nat.lt_irrefl _)
  refine (k A base outer s.heap h₁ _ a cd PT rm.deeper S).go _ _ _ rfl PassesOwn.leaving (fun fl h' i kp' p => p.elim) (fun y h' i xb => ?_)
  obtain ⟨e, rfl, ⟨h₂, m, ws, hm, F₂⟩ | ⟨G, m, ⟨t, ws, R, U⟩, F₂⟩⟩ := xb
  · exact leave_raiseS (s' := { s with heap := h', toks := i }) PT.bel hm F₂ News.nil (fun h'' t R _ U => x e h'' i ⟨t, ws, R, U⟩) hk
  · exact leave_onS (s' := { s with heap := h', toks := i }) PT.bel F₂ R U (fun h'' R _ U => x e h'' i ⟨t, ws, R, U⟩)
end
end Mine

namespace Mine
open PySem PySem.Spec PySem.Calls PyProof.Rows PySem.W

section
variable {M : Model} {A : Around} {E : Value → Shared → Prop} {K : Frag} {e C D : Addr} {h : Heap} {g : Array GenState} {d : Drawn} {t : Nat} {os : OsState}
theorem exc_matches {Q : Bool → Shared → Prop} (X : K.In h) (I : Ex h e C) (hD : typeIn K (.ref D) = some (.type "type")) (hc : (clsIn K D).isSome = true) (hB : mroIn K D (.type "BaseException") = some true) (hs : mroIn K C (.ref D) = some true)
    (hq : Q true ⟨h, g, d, t, os⟩) : wpAny M A (excMatches (.ref e) (.ref D)) Q E ⟨h, g, d, t, os⟩ := by
  have LY := I.type (M := M)
  have LS := looks_mroIn (M := M) X hs
  have L0 : Looks M h (isSubtype (.type "type") (.type "tuple")) false := Looks.of_pure (by rw [isSubtype_type]; kernel_rfl)
  have LT : Looks M h (isInstance (.ref D) (.type "tuple")) false := (looks_typeIn (M := M) X hD).andThen L0
  have LE : Looks M h (isExcClass (.ref D)) true := by
    unfold isExcClass
    exact (looks_isType (M := M) X hc).andThen (looks_mroIn (M := M) X hB)
  unfold excMatches
  repeat (first | with_reducible refine Looks.at (by assumption) ?_ | wp_step)
  exact hq
end

abbrev bmV : List Value := [.type "ValueError", .type "Exception", .type "BaseException", .type "object"]
/-- an exception class of the text, under ValueError -/
structure EC (K : Frag) (x : Str) (C : Addr) : Prop where
  ns : nsIn K mainGlobals x = some (some (.ref C))
  attr : ClsAttr K C
  ty : typeIn K (.ref C) = some (.type "type")
  be : mroIn K C (.type "BaseException") = some true
  ve : mroIn K C (.type "ValueError") = some true
  exc : excIn K C bmV "ValueError.__new__" = true
theorem EC.mg {c : Cx} {K : Frag} {x : Str} {C : Addr} {h : Heap} (X : K.In h) (T : c.T h) (e : EC K x C) : c.mg x = some (.ref C) := mg_of X T.g e.ns
theorem EC.own {c : Cx} {K : Frag} {x : Str} {C : Addr} {h : Heap} (X : K.In h) (T : c.T h) (e : EC K x C) : OwnCls x C bmV "ValueError.__new__" c.mg h := own_of_in X (topRead_of T) e.ns e.exc

/-- ... that comes from a call -/
def Xp (base : Heap) (outer : List Env) (env : Env) (g : Heap) (L C : Addr) (x : Value) (h' : Heap) : Prop := ∃ e, x = .ref e ∧ ∃ G m, Rz base (env :: outer) G C e h' ∧ Fr g L G m
theorem Xp.b {base : Heap} {outer : List Env} {env : Env} {g : Heap} {L C : Addr} {x : Value} {h' : Heap} (r : Xp base outer env g L C x h') : Xb base outer env g L C x h' := let ⟨e, a, b⟩ := r; ⟨e, a, .inr b⟩
theorem Pt.t {c : Cx} {K : Frag} {A : Around} {base : Heap} {outer : List Env} {g : Heap} (P : Pt c K A base outer g) : c.T g := P.top.keeps P.bel.stays
theorem Pt.k {c : Cx} {K : Frag} {A : Around} {base : Heap} {outer : List Env} {g : Heap} (P : Pt c K A base outer g) : K.In g := P.kin.keeps P.bel.stays

section
variable {c : Cx} {K : Frag} {n : Nat} {f : Str} {C : Addr} {dn : Str} {dp : Arguments} {db : List Stmt} {dsc : Scope} {dps : Pos} {x1 x2 x3 x4 : Str} {d1 d2 d3 d4 : PyData}
theorem fnr2 (hd : (⟨dn, dp, db, dsc, dps⟩ : DefRec) ∈ recsOf c.p ∧ dn = f)
    (hb : ∀ pm cd doc (v1 v2 : Value), bindArgs (docDef dn dp db dsc pm cd doc) ⟨[v1, v2], []⟩ = pure [(x1, v1), (x2, v2)])
    (k : ∀ (A : Around) (base : Heap) (outer : List Env) (g h : Heap) (L fa : Addr) (cd : Value), Pt c K A base outer g → Rm (A.deeper (envOf dn dsc L fa cd)) n → St g L h [(x1, d1), (x2, d2)] none →
      Run c.M (A.deeper (envOf dn dsc L fa cd)) (envOf dn dsc L fa cd) [] db h (fun _ _ => False) (Xb base outer (envOf dn dsc L fa cd) g L C))
    (hnd : [x1, x2].Nodup := by decide +kernel) (hloc : ∀ x ∈ [x1, x2], dsc.names.lookup x = some .local := by decide +kernel)
    (hco : dsc.isCoroutine = false := by rfl) (hgen : dsc.isGenerator = false := by rfl) (hk : dsc.kind = .function := by rfl) (hcell : ∀ x ∈ dsc.names, x.2 ≠ .cell := by decide +kernel) : FnR c K (n + 1) f [d1, d2] C :=
  fnr_core (xs := [x1, x2]) hd (fun pm cd doc vs h => by obtain ⟨v1, v2, rfl⟩ := lens2 h; exact hb pm cd doc v1 v2) rfl hnd hloc hco hgen hk hcell k
end

section
variable {c : Cx} {K : Frag} {n : Nat} {A : Around} {nm : Str} {sc : Scope} {L fa : Addr} {cd : Value} {g h base : Heap} {outer : List Env} {ρ : Locs} {μ : Mut} {C : Addr} {X : Value → Heap → Prop}
/-- a call that raises -/
theorem ev_callr {k : Nat} {f : Str} {p pos : Pos} {e : Expr} {es : List Expr} {ds : List PyData} {R : Value → Heap → Prop} (S : St g L h ρ μ) (PT : Pt c K A base outer g) (rm : Rm (A.deeper (envOf nm sc L fa cd)) n) (F : FnR c K k f ds C)
    (a : EvL c.M (A.deeper (envOf nm sc L fa cd)) (envOf nm sc L fa cd) h pos (e :: es) ds X)
    (hkn : k ≤ n := by decide) (hX : ∀ y h', Xp base outer (envOf nm sc L fa cd) g L C y h' → X y h' := by first | exact fun _ _ r => r | exact fun _ _ r => Xp.b r)
    (hk : sc.kind = .function := by rfl) (hx : (envOf nm sc L fa cd).kindOf f = some .globalImplicit := by rfl) (hd : (f == ("__debug__" : Str)) = false := by decide)
    (he : pl e = true := by rfl) :
    Ev c.M (A.deeper (envOf nm sc L fa cd)) (envOf nm sc L fa cd) h (.Call (.Name f p) (e :: es) [] pos) R X := by
  refine ⟨fun s Q E k q x => ?_⟩
  obtain ⟨m, F0, _⟩ := (S.keep k).ex
  obtain ⟨dr, hdr, hn⟩ := F.isDef
  obtain ⟨a', o, pm, cd', doc, h1, h2, h3, h4⟩ := PT.t.fn dr hdr
  rw [hn] at h1
  refine wpAny_Call_NameR (ld_global_at F0 PT.t.g h1 ?_ hk hx hd)
  refine callWith_def h3 (a.seq k (fun vs h' i k' r => ?_) x) (pl_star he)
  refine ⟨k' _ _ (F0.keep _ _ h2), ?_⟩
  have F1 := F0.after k'
  exact F.run (A.deeper (envOf nm sc L fa cd)) base (envOf nm sc L fa cd :: outer) h' vs a' ⟨PT.bel.push F1 hk, PT.kin, PT.top⟩ (rm.less hkn) h1 r { s with heap := h', toks := i } Q E rfl (fun e h2 j rz => x (.ref e) h2 j (hX _ _ ⟨e, rfl, h', m, rz, F1⟩))
variable {Ws : List Addr} {P : Flow → Heap → Prop} {rest : List Stmt}
theorem run_exprx {pos : Pos} {e : Expr} (ev : Ev c.M A (envOf nm sc L fa cd) h e (fun _ _ => False) X) (hi : interactive (envOf nm sc L fa cd) = false := by rfl) (hs : pl e = true := by rfl) : Run c.M A (envOf nm sc L fa cd) Ws (.Expr e pos :: rest) h P X := run_expr ev (fun _ _ _ r => r.elim) hi hs

/-- raise -/
theorem run_raise {x : Str} {np cpos pos : Pos} {e : Expr} {d : PyData} (S : St g L h ρ μ) (T : c.T g) (X : K.In g) (O : EC K x C) (hh : A.handled = none) (ev : Ev c.M A (envOf nm sc L fa cd) h e (Rd d) (Xb base outer (envOf nm sc L fa cd) g L C))
    (hk : sc.kind = .function := by rfl) (hx : (envOf nm sc L fa cd).kindOf x = some .globalImplicit := by rfl) (hd : (x == ("__debug__" : Str)) = false := by decide) (he : pl e = true := by rfl) :
    Run c.M A (envOf nm sc L fa cd) Ws (.Raise (some (.Call (.Name x np) [e] [] cpos)) none pos :: rest) h P (Xb base outer (envOf nm sc L fa cd) g L C) := by
  refine ⟨fun s Q E es po q x' => ?_⟩; subst es
  obtain ⟨m, F, _⟩ := S.ex
  refine wpAny_execs_cons (Raise_own F T.g (O.own X T) PySem.F.excBase_ValueError hh ?_ (pl_star he) rfl hk hx hd)
  refine (evl_cons ev evl_nil he).go s _ E Keep.rfl (fun vs h' i k r => ⟨?_, ?_, fun h2 e' hm => ?_⟩) x'
  · rw [r.len]; show 1 ≤ sizeLine; decide
  · exact fun b o hb => k b o (F.keep b o hb)
  · exact x' (.ref e') h2 i ⟨e', rfl, .inl ⟨h', m, vs, hm, F.after k⟩⟩
end
end Mine

namespace Mine
open PySem PySem.Spec PySem.Calls PyProof.Rows PySem.W

/-- all stands as it stood, but for the slots of the frames -/
def Tn (fs : List Addr) (h h' : Heap) : Prop := (∀ b o, h.get? b = some o → b ∉ fs → h'.get? b = some o) ∧ (∀ b o, h.get? b = some o → b ∈ fs → ∃ sl, h'.get? b = some { o with slots := sl })
theorem Keep.tn {fs : List Addr} {h h' : Heap} (k : Keep h h') : Tn fs h h' := ⟨fun b o e _ => k b o e, fun b o e _ => ⟨o.slots, k b o e⟩⟩
abbrev frs (l : List Env) : List Addr := l.filterMap (·.frame)

/-- a frame's name that holds an object -/
def Sv (g : Heap) (L : Addr) (h : Heap) (x : Str) (v : Value) : Prop := ∃ m, Fr g L h m ∧ m x = some v
theorem Sv.keep {g : Heap} {L : Addr} {h h' : Heap} {x : Str} {v : Value} (S : Sv g L h x v) (k : Keep h h') : Sv g L h' x v := let ⟨m, F, e⟩ := S; ⟨m, F.after k, e⟩
theorem Sv.st {g : Heap} {L : Addr} {h : Heap} {x : Str} {v : Value} (S : Sv g L h x v) : St g L h [] none := let ⟨m, F, _⟩ := S; ⟨m, F, fun _ _ e => (nomatch e), fun _ e => (nomatch e)⟩

/-- a call that catches what is raised within -/
structure FnC (c : Cx) (K : Frag) (n : Nat) (f : Str) (ds : List PyData) (d : PyData) : Prop where
  isDef : ∃ dr ∈ recsOf c.p, dr.name = f
  run : ∀ (A : Around) (base : Heap) (outer : List Env) (h : Heap) (vs : List Value) (a : Addr), Pt c K A base outer h → Rm A n → c.mg f = some (.ref a) → RdL ds vs h → ∀ (s : Shared) (Q : Value → Shared → Prop) (E : Value → Shared → Prop), s.heap = h →
    (∀ v h' k, Tn (frs outer) h h' → Rd d v h' → Q v { s with heap := h', toks := k }) → wpAny c.M A (call (.ref a) vs) Q E s
/-- statements that catch -/
structure RunC (M : Model) (A : Around) (env : Env) (fs : List Addr) (g : Heap) (ss : List Stmt) (h : Heap) (d : PyData) : Prop where
  go : ∀ (s : Shared) (Q : Flow → Shared → Prop) (E : Value → Shared → Prop), s.heap = h → (∀ v h' k, Tn fs g h' → Rd d v h' → Q (.ret v) { s with heap := h', toks := k }) → wpAny M A (execs ss env) Q E s

section
variable {c : Cx} {K : Frag} {n : Nat} {f : Str} {ds : List PyData} {d : PyData}
theorem fnc_core {dn : Str} {dp : Arguments} {db : List Stmt} {dsc : Scope} {dps : Pos} {xs : List Str} (hd : (⟨dn, dp, db, dsc, dps⟩ : DefRec) ∈ recsOf c.p ∧ dn = f)
    (hb : ∀ pm cd doc (vs : List Value), vs.length = ds.length → bindArgs (docDef dn dp db dsc pm cd doc) ⟨vs, []⟩ = pure (xs.zip vs))
    (hlen : xs.length = ds.length) (hnd : xs.Nodup) (hloc : ∀ x ∈ xs, dsc.names.lookup x = some .local)
    (hco : dsc.isCoroutine = false) (hgen : dsc.isGenerator = false) (hk : dsc.kind = .function) (hcell : ∀ x ∈ dsc.names, x.2 ≠ .cell)
    (k : ∀ (A : Around) (base : Heap) (outer : List Env) (g h : Heap) (L fa : Addr) (cd : Value), Pt c K A base outer g → Rm (A.deeper (envOf dn dsc L fa cd)) n → St g L h (zipL xs ds) none →
      RunC c.M (A.deeper (envOf dn dsc L fa cd)) (envOf dn dsc L fa cd) (frs outer) g db h d) : FnC c K (n + 1) f ds d := by
  obtain ⟨hd, hn⟩ := hd
  refine ⟨⟨_, hd, hn⟩, ?_⟩
  intro A base outer h vs a PT rm ha r s Q E es x
  subst es
  have T : c.T s.heap := PT.t
  obtain ⟨a', o, pm, cd, doc, h1, h2, h3, h4⟩ := T.fn ⟨dn, dp, db, dsc, dps⟩ hd
  dsimp only at h1 h3 h4
  rw [hn, ha] at h1; cases h1
  refine wpAny_call (call_plain (by have := rm.dep; (first | lia | omega)) h2 h3 T.nolimit h4 (hb pm cd doc vs (r.len)) (fun y hy => hloc _ (List.of_mem_zip (a := y.1) (b := y.2) hy).1) (fun h₁ F => ?_) hco hgen hk hcell)
  have S : St s.heap s.heap.objs.size h₁ (zipL xs ds) none := by
    refine ⟨_, F, fun x d e => ?_, fun q e => nomatch e⟩
    obtain ⟨v, as, e', r'⟩ := zip_reads r hnd hlen x d e
    refine ⟨v, as, e', PyProof.Rows.Reads.keeps F.keep r', fun hL => ?_, fun q e => nomatch e⟩
    obtain ⟨o, ho⟩ := reads_some r' _ hL
    exact absurd (Heap.lt_size ho) (Nat.lt_irrefl _)
  exact (k A base outer s.heap h₁ _ a cd PT rm.deeper S).go _ _ _ rfl (fun v h' i tn rd => x v h' i tn rd)
end

section
variable {c : Cx} {K : Frag} {n : Nat} {A : Around} {nm : Str} {sc : Scope} {L fa : Addr} {cd : Value} {g h base : Heap} {outer : List Env} {ρ : Locs} {μ : Mut} {C D : Addr} {d : PyData}
theorem rc_try {e : Expr} {x : Str} {np ep hp pos : Pos} {rest suite : List Stmt} {s₀ : Stmt} (S : St g L h ρ μ) (PT : Pt c K A base outer g) (OD : EC K x D) (hsub : mroIn K C (.ref D) = some true)
    (ev : Ev c.M (A.deeper (envOf nm sc L fa cd)) (envOf nm sc L fa cd) h e (fun _ _ => False) (Xp base outer (envOf nm sc L fa cd) g L C))
    {v : Str} (k : ∀ x' g' h', Pt c K A base outer g' → Sv g' L h' v (.ref x') → Ex h' x' C →
      Run c.M ((A.deeper (envOf nm sc L fa cd)).mark (some (.ref x'))) (envOf nm sc L fa cd) [] (s₀ :: suite) h' (fun fl h2 => ∃ u, fl = .ret u ∧ Rd d u h2 ∧ St g' L h2 [] none) NoX)
    (hf : flat d = true := by rfl) (hk : sc.kind = .function := by rfl) (hlo : (envOf nm sc L fa cd).kindOf v = some .local := by rfl) (hx : (envOf nm sc L fa cd).kindOf x = some .globalImplicit := by rfl) (hd : (x == ("__debug__" : Str)) = false := by decide)
    (hi : interactive (envOf nm sc L fa cd) = false := by rfl) (hs : pl e = true := by rfl) :
    RunC c.M (A.deeper (envOf nm sc L fa cd)) (envOf nm sc L fa cd) (frs outer) g (.Try [.Expr e ep] [.ExceptHandler (some (.Name x np)) (some v) (s₀ :: suite) hp] [] [] pos :: rest) h d := by
  refine ⟨fun s Q E es q => ?_⟩
  subst es
  refine wpAny_execs_cons (wpAny_Try_except (wpAny_execs_cons (wpAny_Expr_any (ev.go s _ _ Keep.rfl (fun _ _ _ _ r => r.elim) (fun z h' i r => ?_)) hi (pl_swaps hs))))
  obtain ⟨ex, rfl, G, m, ⟨t, ws, ⟨⟨B, hB, hBG, hl, hfl, hnew⟩, htup⟩, hsm⟩, F⟩ := r
  refine wpAny_looks_onW (Around.frames_deeper PT.bel.stack) rfl hfl fun h₄ hheld₄ hsm₄ => ?_
  refine wpAny_landsW hheld₄ fun h₅ hheld hsm₅' => ?_
  have hsm₅ := hsm₄.trans hsm₅'
  obtain ⟨g₅, T₅, F₅, K₅⟩ := kts_ground PT.bel F hBG hheld.1 (hsm.trans hsm₅)
  have X₅ : K.In g₅ := PT.kin.keeps K₅.stays
  have P₅ : c.T g₅ := PT.top.keeps K₅.stays
  obtain ⟨ob, hob, hobc⟩ := hheld.there
  refine wpAny_handleBy_cons (codeAny_handlers_test (name_K F₅ X₅ (topRead_of P₅) OD.ns ?_ hk hx hd)) (by intro q; cases q)
  refine exc_matches (X₅.keeps F₅.keep) ⟨ob, hob, hobc⟩ OD.ty OD.attr.cls OD.be hsub (codeAny_handlers_suite_as ?_)
  refine lands_againW hheld fun h₆ hfl₆ hsm₆ => ?_
  obtain ⟨g₆, T₆, F₆, K₆⟩ := kts_ground PT.bel F hBG hfl₆.1 ((hsm.trans hsm₅).trans hsm₆)
  obtain ⟨oe, hoe, hoec⟩ := hfl₆.there
  have hne : ∀ h7, Heap.SameBut L h₆ h7 → Ex h7 ex C := fun h7 sb => by
    refine ⟨oe, ?_, hoec⟩
    rw [sb.2 ex ?_]; exact hoe
    intro eL
    obtain ⟨oe', ws', T', oT, ts, a1, a2, a3, _⟩ := hfl₆.2.2.2
    obtain ⟨o, es', ep', ho, hdt, _⟩ := F₆.ns
    rw [← eL, a1] at ho; cases ho
    rw [a3] at hdt; cases hdt
  refine wpAny_storeName_local hlo F₆.ns (fun h₇ hn₇ hs₇ => ?_) (by show (sc.kind == .class || (sc.kind == .module && L != mainGlobals)) = false; rw [hk]; rfl)
  have F₇ := F₆.set hn₇ hs₇
  refine wpAny_noRaise ((k ex g₆ h₇ ⟨K₆, PT.kin, PT.top⟩ ⟨_, F₇, by simp⟩ (hne _ hs₇)).go _ _ _ rfl PassesOwn.never (fun fl h₈ i₈ kp₈ p => ?_) (fun _ _ _ r => r))
  obtain ⟨u, rfl, ⟨as, ru⟩, S₈⟩ := p
  have eas := flat_nil hf ru
  subst eas
  obtain ⟨m₈, F₈, _⟩ := S₈.ex
  refine wpAny_nameGoes hlo F₈.ns (by show (sc.kind == .class || (sc.kind == .module && L != mainGlobals)) = false; rw [hk]; rfl) (fun h₉ m₉ hn₉ hs₉ => ?_)
  have kp₉ : Kp [L] h₈ h₉ := kp_same hs₉
  have k₉ : Keep g₆ h₉ := fun b o e => kp₉ b o (by
    intro hb
    rw [List.mem_singleton] at hb
    rw [hb, kts_self F₈] at e; cases e) (F₈.keep b o e)
  refine q u h₉ _ ⟨fun b o e nb => k₉ b o (T₆.other b o e nb), fun b o e hb => ?_⟩ ⟨[], reads_kp kp₉ (fun a ha => ?_) ru⟩
  · obtain ⟨sl, hsl⟩ := T₆.frame b o e hb
    exact ⟨sl, k₉ _ _ hsl⟩
  · rw [List.mem_singleton] at ha; subst ha
    exact .inr ⟨List.not_mem_nil, noTup_L F₈⟩
/-- the name of the object that was caught -/
theorem ev_exv {x : Str} {pos : Pos} {v : Value} {A' : Around} {X : Value → Heap → Prop} (S : Sv g L h x v) (hk : sc.kind = .function := by rfl) (hl : (envOf nm sc L fa cd).kindOf x = some .local := by rfl)
    (hd : (x == ("__debug__" : Str)) = false := by decide) : Ev c.M A' (envOf nm sc L fa cd) h (.Name x pos) (fun u _ => u = v) X :=
  EvT.ofS fun s Q E k q => by
    obtain ⟨m, F, hm⟩ := S.keep k
    exact ld F hm (q v s.toks rfl) hk hl hd
end

section
variable {c : Cx} {K : Frag} {n : Nat} {f : Str} {d : PyData} {dn : Str} {dp : Arguments} {db : List Stmt} {dsc : Scope} {dps : Pos} {x1 x2 x3 x4 : Str} {d1 d2 d3 d4 : PyData}
theorem fnc2 (hd : (⟨dn, dp, db, dsc, dps⟩ : DefRec) ∈ recsOf c.p ∧ dn = f)
    (hb : ∀ pm cd doc (v1 v2 : Value), bindArgs (docDef dn dp db dsc pm cd doc) ⟨[v1, v2], []⟩ = pure [(x1, v1), (x2, v2)])
    (k : ∀ (A : Around) (base : Heap) (outer : List Env) (g h : Heap) (L fa : Addr) (cd : Value), Pt c K A base outer g → Rm (A.deeper (envOf dn dsc L fa cd)) n → St g L h [(x1, d1), (x2, d2)] none →
      RunC c.M (A.deeper (envOf dn dsc L fa cd)) (envOf dn dsc L fa cd) (frs outer) g db h d)
    (hnd : [x1, x2].Nodup := by decide +kernel) (hloc : ∀ x ∈ [x1, x2], dsc.names.lookup x = some .local := by decide +kernel)
    (hco : dsc.isCoroutine = false := by rfl) (hgen : dsc.isGenerator = false := by rfl) (hk : dsc.kind = .function := by rfl) (hcell : ∀ x ∈ dsc.names, x.2 ≠ .cell := by decide +kernel) : FnC c K (n + 1) f [d1, d2] d :=
  fnc_core (xs := [x1, x2]) hd (fun pm cd doc vs h => by obtain ⟨v1, v2, rfl⟩ := lens2 h; exact hb pm cd doc v1 v2) rfl hnd hloc hco hgen hk hcell k
end

section
variable {c : Cx} {K : Frag} {A : Around} {nm : Str} {sc : Scope} {L fa : Addr} {cd : Value} {g h : Heap} {ρ : Locs} {μ : Mut} {X : Value → Heap → Prop} {C D : Addr}
/-- isinstance of what was caught, by a class of the text -/
theorem ev_isx {v x y : Str} {fp vp xp pos : Pos} {e : Addr} {b : Bool} (T : c.T g) (B : Bn c) (KX : K.In g) (S : Sv g L h v (.ref e)) (I : Ex h e C) (OC : EC K y C) (OD : EC K x D) (hsub : mroIn K C (.ref D) = some b) (hself : C = D → b = true)
    (hk : sc.kind = .function := by rfl) (hg : (envOf nm sc L fa cd).kindOf (Str.ofString "isinstance") = some .globalImplicit := by rfl) (hl : (envOf nm sc L fa cd).kindOf v = some .local := by rfl)
    (hx : (envOf nm sc L fa cd).kindOf x = some .globalImplicit := by rfl) (hdv : (v == ("__debug__" : Str)) = false := by decide) (hdx : (x == ("__debug__" : Str)) = false := by decide) :
    Ev c.M A (envOf nm sc L fa cd) h (.Call (.Name (Str.ofString "isinstance") fp) [.Name v vp, .Name x xp] [] pos) (Rd (.bool b)) X := by
  refine ⟨fun s Q E k q x' => ?_⟩
  have S' := S.keep k
  refine wpAny_Call_NameR ((ev_bname (x := "isinstance") S'.st T B (by decide) (v := .builtin "isinstance") (by decide +kernel) (by decide) hk hg (by decide)).seq (E := E) Keep.rfl (fun u h1 i k1 r => ?_) x')
  subst r
  refine callWith_builtin1 ?_ rfl rfl
  refine PyProof.Rows.args_cons ((ev_exv (c := c) (S'.keep k1) hk hl hdv (X := X)).go _ _ E Keep.rfl (fun u h2 j k2 r => ?_) (fun y h' i r => x' y h' i r)) rfl
  subst r
  refine PyProof.Rows.args_cons ((ev_gname ((S'.keep k1).keep k2).st T (OD.mg KX T) hk hx hdx (X := X)).go _ _ E Keep.rfl (fun u h3 j k3 r => ?_) (fun y h' i r => x' y h' i r)) rfl
  subst r
  refine PyProof.Rows.args_nil ?_
  have k123 := k1.trans (k2.trans k3)
  have kk := k.trans k123
  obtain ⟨m, F, _⟩ := S'.keep k123
  have KX3 : K.In h3 := KX.keeps F.keep
  refine isx_call (s := { s with heap := h3, toks := j }) KX3 (I.keep kk) OC.attr (fun _ _ X' => looks_typeIn X' OD.ty) (fun _ _ X' => looks_isType X' OD.attr.cls) (fun e => hself ?_) hsub (fun i' => q _ h3 i' k123 ⟨_, .bool b⟩)
  have := beq_iff_eq.mp e
  cases this; rfl
/-- ... by ValueError -/
theorem ev_isv {v y : Str} {fp vp xp pos : Pos} {e : Addr} (T : c.T g) (B : Bn c) (KX : K.In g) (S : Sv g L h v (.ref e)) (I : Ex h e C) (OC : EC K y C)
    (hk : sc.kind = .function := by rfl) (hg : (envOf nm sc L fa cd).kindOf (Str.ofString "isinstance") = some .globalImplicit := by rfl) (hl : (envOf nm sc L fa cd).kindOf v = some .local := by rfl)
    (hx : (envOf nm sc L fa cd).kindOf (Str.ofString "ValueError") = some .globalImplicit := by rfl) (hdv : (v == ("__debug__" : Str)) = false := by decide) :
    Ev c.M A (envOf nm sc L fa cd) h (.Call (.Name (Str.ofString "isinstance") fp) [.Name v vp, .Name (Str.ofString "ValueError") xp] [] pos) (Rd (.bool true)) X := by
  refine ⟨fun s Q E k q x' => ?_⟩
  have S' := S.keep k
  refine wpAny_Call_NameR ((ev_bname (x := "isinstance") S'.st T B (by decide) (v := .builtin "isinstance") (by decide +kernel) (by decide) hk hg (by decide)).seq (E := E) Keep.rfl (fun u h1 i k1 r => ?_) x')
  subst r
  refine callWith_builtin1 ?_ rfl rfl
  refine PyProof.Rows.args_cons ((ev_exv (c := c) (S'.keep k1) hk hl hdv (X := X)).go _ _ E Keep.rfl (fun u h2 j k2 r => ?_) (fun y h' i r => x' y h' i r)) rfl
  subst r
  refine PyProof.Rows.args_cons ((ev_bname (x := "ValueError") ((S'.keep k1).keep k2).st T B (by decide) (v := .type "ValueError") (by decide +kernel) (by decide) hk hx (by decide) (X := X)).go _ _ E Keep.rfl (fun u h3 j k3 r => ?_) (fun y h' i r => x' y h' i r)) rfl
  subst r
  refine PyProof.Rows.args_nil ?_
  have k123 := k1.trans (k2.trans k3)
  have kk := k.trans k123
  obtain ⟨m, F, _⟩ := S'.keep k123
  have KX3 : K.In h3 := KX.keeps F.keep
  exact isx_call (s := { s with heap := h3, toks := j }) KX3 (I.keep kk) OC.attr (fun _ _ _ => Looks.of_pure (by kernel_rfl)) (fun _ _ _ => Looks.of_pure rfl) (fun _ => rfl) OC.ve (fun i' => q _ h3 i' k123 ⟨_, .bool true⟩)
end

/-- the law's own statements: in the end a True, and what stood stands -/
structure RunW (M : Model) (A : Around) (env : Env) (g : Heap) (ss : List Stmt) (h : Heap) : Prop where
  go : ∀ (s : Shared) (Q : Flow → Shared → Prop) (E : Value → Shared → Prop), s.heap = h → PassesOwn M A env E → (∀ h' k, Keep g h' → Q (.ret (.bool true)) { s with heap := h', toks := k }) → wpAny M A (execs ss env) Q E s
structure FnW (c : Cx) (K : Frag) (f : Str) (ds : List PyData) : Prop where
  run : ∀ (h : Heap) (vs : List Value) (a : Addr), c.T h → K.In h → c.mg f = some (.ref a) → RdL ds vs h → ∀ (s : Shared) (Q : Value → Shared → Prop) (E : Value → Shared → Prop), s.heap = h →
    (∀ h' k, Keep h h' → Q (.bool true) { s with heap := h', toks := k }) → wpAny c.M callerA (call (.ref a) vs) Q E s

section
variable {c : Cx} {K : Frag} {n : Nat} {f : Str} {dn : Str} {dp : Arguments} {db : List Stmt} {dsc : Scope} {dps : Pos} {x1 : Str} {d1 : PyData}
theorem fnw1 (hd : (⟨dn, dp, db, dsc, dps⟩ : DefRec) ∈ recsOf c.p ∧ dn = f)
    (hb : ∀ pm cd doc (v1 : Value), bindArgs (docDef dn dp db dsc pm cd doc) ⟨[v1], []⟩ = pure [(x1, v1)])
    (k : ∀ (g h : Heap) (L fa : Addr) (cd : Value), Pt c K callerA g [] g → Rm (callerA.deeper (envOf dn dsc L fa cd)) n → St g L h [(x1, d1)] none →
      RunW c.M (callerA.deeper (envOf dn dsc L fa cd)) (envOf dn dsc L fa cd) g db h)
    (hr : n + 1 ≤ 600 := by decide)
    (hnd : [x1].Nodup := by decide +kernel) (hloc : ∀ x ∈ [x1], dsc.names.lookup x = some .local := by decide +kernel)
    (hco : dsc.isCoroutine = false := by rfl) (hgen : dsc.isGenerator = false := by rfl) (hk : dsc.kind = .function := by rfl) (hcell : ∀ x ∈ dsc.names, x.2 ≠ .cell := by decide +kernel) : FnW c K f [d1] := by
  obtain ⟨hd, hn⟩ := hd
  refine ⟨fun h vs a T KX ha r s Q E es q => ?_⟩
  subst es
  have rm : Rm callerA (n + 1) := rm_caller hr
  obtain ⟨a', o, pm, cd, doc, h1, h2, h3, h4⟩ := T.fn ⟨dn, dp, db, dsc, dps⟩ hd
  dsimp only at h1 h3 h4
  rw [hn, ha] at h1; cases h1
  refine wpAny_call (call_plain (binds := [x1].zip vs) (by have := rm.dep; (first | lia | omega)) h2 h3 T.nolimit h4 (by obtain ⟨v1, rfl⟩ := lens1 r.len; exact hb pm cd doc v1) (fun y hy => hloc _ (List.of_mem_zip (a := y.1) (b := y.2) hy).1) (fun h₁ F => ?_) hco hgen hk hcell)
  have S : St s.heap s.heap.objs.size h₁ [(x1, d1)] none := by
    refine ⟨_, F, fun x d e => ?_, fun q e => nomatch e⟩
    obtain ⟨v, as, e', r'⟩ := zip_reads (xs := [x1]) (ds := [d1]) r hnd rfl x d e
    refine ⟨v, as, e', PyProof.Rows.Reads.keeps F.keep r', fun hL => ?_, fun q e => nomatch e⟩
    obtain ⟨o, ho⟩ := reads_some r' _ hL
    exact absurd (Heap.lt_size ho) (Nat.lt_irrefl _)
  exact (k s.heap h₁ _ a cd ⟨below_caller _, KX, T⟩ rm.deeper S).go _ _ _ rfl PassesOwn.leaving (fun h' i kp => q h' i kp)
theorem law_endW {s₁ : Shared} {fa l : Addr} {d : PyData} {as : List Addr} {cl : Str → Option Addr} {mean : ExcName → Option Value} {args : List WData} {cm : ClaimW} {nm : Str} (F : FnW c K nm [d]) (T : c.T s₁.heap) (KX : K.In s₁.heap) (hmg : c.mg nm = some (.ref fa))
    (r0 : Reads s₁.heap (.ref l) d as) (hg : s₁.gens = #[]) (hn : ∀ cls, cm.raises args cls = false) (hp : cm.post args (.bool true) args = true) :
    wpAny c.M callerA (call (.ref fa) [.ref l]) (fun v s' => GoodWG cm cl mean args s₁ (.ok (.ret v)) s') (fun e s' => GoodWG cm cl mean args s₁ (.error e) s') s₁ := by
  refine F.run s₁.heap [.ref l] fa T KX hmg ⟨_, .cons r0 .nil⟩ s₁ _ _ rfl (fun h' k kk => ?_)
  exact GoodW.toG ⟨.inl ⟨_, .bool true, [], rfl, hn, .bool true, hp, fun _ => ⟨.nil, fun _ ha => nomatch ha⟩⟩, kk, rfl, hg⟩
end

section
variable {c : Cx} {K : Frag} {n : Nat} {A : Around} {nm : Str} {sc : Scope} {L fa : Addr} {cd : Value} {g h : Heap} {ρ : Locs} {μ : Mut} {rest : List Stmt}
/-- ... the usual end -/
theorem rw_run {ss : List Stmt} (S : St g L h ρ μ) (r : Run c.M A (envOf nm sc L fa cd) [] ss h (fun fl h' => Rd (.bool true) (retv fl) h') NoX) : RunW c.M A (envOf nm sc L fa cd) g ss h := by
  refine ⟨fun s Q E es po q => r.go s Q E es po (fun fl h' k kp p => ?_) (fun _ _ _ x => x.elim)⟩
  have hv := rd_bool p
  obtain ⟨m, F, _⟩ := S.ex
  have kk : Keep g h' := fun b o e => kp b o (by
    intro hb
    rw [List.mem_singleton] at hb
    have hb' : b = L := hb
    rw [hb', kts_self F] at e; cases e) (F.keep b o e)
  cases fl with
  | ret v => cases hv; exact q h' k kk
  | next => cases hv
  | brk => cases hv
  | cont => cases hv
/-- ... by a call that catches -/
theorem rw_retc {k : Nat} {f : Str} {p pos rp : Pos} {e : Expr} {es : List Expr} {ds : List PyData} (S : St g L h ρ μ) (PT : Pt c K callerA g [] g) (rm : Rm (callerA.deeper (envOf nm sc L fa cd)) n) (F : FnC c K k f ds (.bool true))
    (a : EvL c.M (callerA.deeper (envOf nm sc L fa cd)) (envOf nm sc L fa cd) h pos (e :: es) ds NoX)
    (hkn : k ≤ n := by decide)
    (hk : sc.kind = .function := by rfl) (hx : (envOf nm sc L fa cd).kindOf f = some .globalImplicit := by rfl) (hd : (f == ("__debug__" : Str)) = false := by decide)
    (he : pl e = true := by rfl) :
    RunW c.M (callerA.deeper (envOf nm sc L fa cd)) (envOf nm sc L fa cd) g (.Return (some (.Call (.Name f p) (e :: es) [] pos)) rp :: rest) h := by
  refine ⟨fun s Q E es po q => ?_⟩; subst es
  refine wpAny_execs_cons (wpAny_Return_some ?_)
  obtain ⟨m, F0, _⟩ := S.ex
  obtain ⟨dr, hdr, hn⟩ := F.isDef
  obtain ⟨a', o, pm, cd', doc, h1, h2, h3, h4⟩ := PT.t.fn dr hdr
  rw [hn] at h1
  refine wpAny_Call_NameR (ld_global_at F0 PT.t.g h1 ?_ hk hx hd)
  refine callWith_def h3 (a.seq Keep.rfl (fun vs h' i k' r => ?_) (fun _ _ _ x => x.elim)) (pl_star he)
  refine ⟨k' _ _ (F0.keep _ _ h2), ?_⟩
  have F1 := F0.after k'
  refine F.run (callerA.deeper (envOf nm sc L fa cd)) g [envOf nm sc L fa cd] h' vs a' ⟨PT.bel.push F1 hk, PT.kin, PT.top⟩ (rm.less hkn) h1 r { s with heap := h', toks := i } _ _ rfl (fun v h2 j tn rd => ?_)
  cases rd_bool rd
  refine q h2 j (fun b o e => tn.1 b o (F1.keep b o e) fun hb => ?_)
  have hb' : b ∈ [L] := hb
  rw [List.mem_singleton] at hb'
  rw [hb', kts_self F1] at e; cases e
/-- ... a name -/
theorem rw_assign {x : Str} {px pos : Pos} {e : Expr} {d : PyData} (S : St g L h ρ μ) (ev : Ev c.M A (envOf nm sc L fa cd) h e (Rf h d) NoX)
    (k : ∀ h', St g L h' ((x, d) :: ρ) μ → RunW c.M A (envOf nm sc L fa cd) g rest h')
    (hμ : ∀ q, μ = some q → q.1 ≠ x := by intro q e; first | (cases e; done) | (cases e; dsimp only; decide)) (hk : sc.kind = .function := by rfl) (hl : (envOf nm sc L fa cd).kindOf x = some .local := by rfl)
    (hs : pl e = true := by rfl) : RunW c.M A (envOf nm sc L fa cd) g (.Assign [.Name x px] e pos :: rest) h := by
  refine ⟨fun s Q E es po q => ?_⟩; subst es
  refine wpAny_execs_cons (wpAny_Assign_Name (ev.go s _ E Keep.rfl (fun v h1 i k1 r => ?_) (fun _ _ _ x => x.elim)) (pl_swaps hs))
  obtain ⟨m, F, hr, hm⟩ := (S.keep k1).ex
  obtain ⟨as, r, hf⟩ := r
  refine wpAny_storeName_local hl F.ns (fun h' hn hsb => ?_) (by show (sc.kind == .class || (sc.kind == .module && L != mainGlobals)) = false; rw [hk]; rfl)
  have S' : St g L h' ((x, d) :: ρ) μ := by
    refine (S.keep k1).store hμ F r (fun hL => ?_) (fun q e hl => ?_) hn hsb
    · obtain ⟨m0, F0, _⟩ := S.ex
      obtain ⟨o, ho⟩ := L_some F0
      rw [hf L hL] at ho; cases ho
    · obtain ⟨m0, F0, _, hm0⟩ := S.ex
      obtain ⟨_, _, _, items, ⟨n, p⟩, _⟩ := hm0 q e
      rw [hf _ hl] at p; cases p
  exact (k h' S').go _ Q E rfl po (fun h2 j kp => q h2 j kp)
theorem rw_set {x : Str} {px pos : Pos} {e : Expr} {d : PyData} (S : St g L h ρ μ) (ev : Ev c.M A (envOf nm sc L fa cd) h e (Rd d) NoX)
    (k : ∀ h', St g L h' ((x, d) :: ρ) μ → RunW c.M A (envOf nm sc L fa cd) g rest h') (hf : flat d = true := by rfl)
    (hμ : ∀ q, μ = some q → q.1 ≠ x := by intro q e; first | (cases e; done) | (cases e; dsimp only; decide)) (hk : sc.kind = .function := by rfl) (hl : (envOf nm sc L fa cd).kindOf x = some .local := by rfl)
    (hs : pl e = true := by rfl) : RunW c.M A (envOf nm sc L fa cd) g (.Assign [.Name x px] e pos :: rest) h :=
  rw_assign S (ev.mono fun _ _ _ r => .of_flat hf r) k hμ hk hl hs
/-- ... a branch that ends the law -/
theorem rw_if {test : Expr} {body : List Stmt} {pos : Pos} {b : Bool} (S : St g L h ρ μ) (t : Tr c.M A (envOf nm sc L fa cd) h test b NoX)
    (k1 : b = true → ∀ h', St g L h' ρ μ → RunW c.M A (envOf nm sc L fa cd) g body h')
    (k2 : b = false → ∀ h', St g L h' ρ μ → RunW c.M A (envOf nm sc L fa cd) g rest h') :
    RunW c.M A (envOf nm sc L fa cd) g (.If test body [] pos :: rest) h := by
  refine ⟨fun s Q E es po q => ?_⟩; subst es
  refine wpAny_execs_cons (wpAny_If (t.go s _ E Keep.rfl (fun c' h1 i k' r => ?_) (fun _ _ _ x => x.elim)))
  subst r
  cases c' with
  | true => exact (k1 rfl h1 (S.keep k')).go _ _ E rfl po (fun h2 j kp => q h2 j kp)
  | false => exact wpAny_execs_nil ((k2 rfl h1 (S.keep k')).go _ Q E rfl po (fun h2 j kp => q h2 j kp))
/-- ... a branch that goes on -/
theorem rw_ifJ {test : Expr} {body orelse : List Stmt} {pos : Pos} {b : Bool} (J : Heap → Prop) (S : St g L h ρ μ) (t : Tr c.M A (envOf nm sc L fa cd) h test b NoX)
    (k1 : b = true → ∀ h', St g L h' ρ μ → Run c.M A (envOf nm sc L fa cd) [] body h' (fun fl h2 => fl = .next ∧ J h2) NoX)
    (k2 : b = false → ∀ h', St g L h' ρ μ → Run c.M A (envOf nm sc L fa cd) [] orelse h' (fun fl h2 => fl = .next ∧ J h2) NoX)
    (k3 : ∀ h', J h' → RunW c.M A (envOf nm sc L fa cd) g rest h') :
    RunW c.M A (envOf nm sc L fa cd) g (.If test body orelse pos :: rest) h := by
  refine ⟨fun s Q E es po q => ?_⟩; subst es
  refine wpAny_execs_cons (wpAny_If (t.go s _ E Keep.rfl (fun c' h1 i k' r => ?_) (fun _ _ _ x => x.elim)))
  subst r
  have fin : ∀ (ss : List Stmt), Run c.M A (envOf nm sc L fa cd) [] ss h1 (fun fl h2 => fl = .next ∧ J h2) NoX →
      wpAny c.M A (execs ss (envOf nm sc L fa cd)) (fun f s' => match f with | .next => wpAny c.M A (execs rest (envOf nm sc L fa cd)) Q E s' | f => Q f s') E { s with heap := h1, toks := i } := by
    intro ss r
    refine r.go _ _ E rfl po (fun fl h2 j kp p => ?_) (fun _ _ _ x => x.elim)
    obtain ⟨rfl, hj⟩ := p
    exact (k3 h2 hj).go _ Q E rfl po (fun h3 j kp => q h3 j kp)
  cases c' with
  | true => exact fin _ (k1 rfl h1 (S.keep k'))
  | false => exact fin _ (k2 rfl h1 (S.keep k'))
end
end Mine

namespace Mine
open PySem PySem.Spec PySem.Calls PyProof.Rows PySem.W

section
variable {prog : Program} {w : World} {A : Around} {env : Env} {h : Heap} {X : Value → Heap → Prop} {n : Nat}
end

section
variable {prog : Program} {w : World} {A : Around} {nm : Str} {sc : Scope} {L fa : Addr} {cd : Value} {g h : Heap} {ρ : Locs} {X : Value → Heap → Prop}
/-- the own list, handed back -/
theorem ev_own {x : Str} {pos : Pos} {l : Addr} {ds : List PyData} (S : St g L h ρ (some (x, l, ds))) (hk : sc.kind = .function := by rfl) (hl : (envOf nm sc L fa cd).kindOf x = some .local := by rfl)
    (hd : (x == ("__debug__" : Str)) = false := by decide) : Ev (model prog w) A (envOf nm sc L fa cd) h (.Name x pos) (Rl g ds) X :=
  EvT.ofS fun s Q E k q => by
    obtain ⟨m, F, _, hm⟩ := (S.keep k).ex
    obtain ⟨hv, hg, _, items, p, r⟩ := hm _ rfl
    exact ld F hv (q _ s.toks ⟨l, items, rfl, p, r, hg⟩) hk hl hd
end

/-- an own class under another -/
structure EU (K : Frag) (x : Str) (C D : Addr) : Prop where
  ec : EC K x C
  sub : mroIn K C (.ref D) = some true
  self : mroIn K C (.ref C) = some true
abbrev PD (a b : Int) : PyData := .tuple [.int a, .int b]
theorem drop_at {α : Type} {l : List α} {i : Nat} {x : α} (h : l[i]? = some x) : l.drop i = x :: l.drop (i + 1) := by
  obtain ⟨hi, rfl⟩ := List.getElem?_eq_some_iff.mp h
  exact List.drop_eq_getElem_cons hi
end Mine

namespace Mine
open PySem PySem.Spec PySem.Calls PyProof.Rows PySem.W

theorem fresh_size {h h' : Heap} (k : Keep h h') : h.get? h'.objs.size = none := by
  cases hq : h.get? h'.objs.size with
  | none => rfl
  | some o => exact absurd (Heap.lt_size (k _ _ hq)) (Nat.lt_irrefl _)

section
variable {prog : Program} {w : World} {A : Around} {env : Env} {h : Heap} {X : Value → Heap → Prop}
/-- list + list -/
theorem ev_addl {l r : Expr} {pos : Pos} {ds es : List PyData} (e1 : Ev (model prog w) A env h l (Rd (.list ds)) X) (e2 : Ev (model prog w) A env h r (Rd (.list es)) X) (hn : ds.length + es.length ≤ sizeLine) :
    Ev (model prog w) A env h (.BinOp l .Add r pos) (Rl h (ds ++ es)) X := ev_bin e1 e2 fun v1 v2 h' kk r1 r2 => by
  obtain ⟨a, items, rfl, il, r1⟩ := rd_list r1
  obtain ⟨b, items2, rfl, il2, r2⟩ := rd_list r2
  refine ⟨fun s Q E k q x => ?_⟩
  obtain ⟨⟨cls, dd, data, sl⟩, ho, hc, n, hd⟩ := il
  obtain ⟨⟨cls2, dd2, data2, sl2⟩, ho2, hc2, n2, hd2⟩ := il2
  simp only at hc hd hc2 hd2
  subst hc hd hc2 hd2
  have hs1 : items.size = ds.length := by have := r1.len; simpa using this
  have hs2 : items2.size = es.length := by have := r2.len; simpa using this
  refine concat_meets ⟨_, k _ _ ho, rfl⟩ ⟨_, k _ _ ho2, rfl⟩ noFill_list_add seq_list_add PySem.F.slot_list_add PySem.F.entry_list_add (PySem.F.args_list_add_2 _ _) (list_addW a b items items2 n n2 dd dd2 sl sl2 (by rw [hs1, hs2]; exact hn)) ⟨k _ _ ho, k _ _ ho2, ?_⟩
  refine q _ _ s.toks (Keep.push Keep.rfl _) ⟨_, _, rfl, ⟨_, Heap.get?_push_size _ rfl⟩, ?_, fresh_size (kk.trans k)⟩
  rw [Array.toList_append]
  exact (r1.append r2).keep (Keep.push k _)

/-- a method with one argument -/
theorem ev_meth1 {o e : Expr} {name : Str} {T id : String} {ap pos : Pos} {R1 R : Value → Heap → Prop} {d2 : PyData} (pa : PlainAttrs T) (slot : Slot T name id) (hty : typeOf (.builtin id) = pure (.type "method_descriptor"))
    (e1 : Ev (model prog w) A env h o R1 X) (e2 : Ev (model prog w) A env h e (Rd d2) X) (m1 : ∀ v h' h'', Keep h' h'' → R1 v h' → R1 v h'')
    (hT : ∀ v (s : Shared), R1 v s.heap → s.TypeIs v T ∧ (∀ a, v = .ref a → ∃ ob, s.heap.get? a = some ob ∧ ob.dict = none))
    (op : ∀ v1 v2 h', Keep h h' → R1 v1 h' → Rd d2 v2 h' → EvT (model prog w) A h' (call (.builtin id) [v1, v2]) R X)
    (hbase : attributeBase o name env (eval o env) = eval o env := by rfl) (hline : (ap.endLine == pos.line) = true := by rfl) (he : pl e = true := by rfl) :
    Ev (model prog w) A env h (.Call (.Attribute o name ap) [e] [] pos) R X := by
  refine ⟨fun s Q E k q x => ?_⟩
  refine Call_method1 hbase (pl_star he) hline ?_
  refine e1.go s _ E k (fun v1 h1 i k1 r1 => ?_) x
  obtain ⟨t1, t2⟩ := hT v1 { s with heap := h1, toks := i } r1
  refine ⟨T, id, pa, slot, hty, t1, t2, ?_⟩
  refine Calls.callWith_builtin rfl (Calls.evalArgs_plain (Calls.spliced_cons ?_))
  refine (e2.up (k.trans k1)).go { s with heap := h1, toks := i } _ E Keep.rfl (fun v2 h2 j k2 r2 => Calls.spliced_nil ?_) (fun y h' i r => x y h' i r)
  exact (op v1 v2 h2 ((k.trans k1).trans k2) (m1 _ _ _ k2 r1) r2).go { s with heap := h2, toks := j } Q E Keep.rfl (fun v h3 i3 k3 r3 => q v h3 i3 ((Keep.trans k1 k2).trans k3) r3) (fun y h' i r => x y h' i r)

theorem op_countT {g : Heap} {ds : List PyData} {v : Value} {v2 : Value} {k : Bool} (hb : ds.all Shape.bool.has = true) (r : Rl g ds v h) (r2 : Rd (.bool k) v2 h) : EvT (model prog w) A h (call (.builtin "list.count") [v, v2]) (Rd (.int (countIn (.bool k) ds))) X := by
  cases rd_bool r2
  obtain ⟨l, items, rfl, p, ⟨as, ra⟩, _⟩ := r
  refine EvT.ofS fun s Q E kk q => ?_
  have hl : s.heap.IsList l items.toList.toArray := by
    obtain ⟨n, p⟩ := p
    exact ⟨_, kk _ _ p, rfl, n, by simp⟩
  exact count_list_bools hl ra hb (q _ (s.toks + 1) ⟨_, .int _ _⟩)
end

section
variable {prog : Program} {w : World} {A : Around} {nm : Str} {sc : Scope} {L fa : Addr} {cd : Value} {g h : Heap} {ρ : Locs} {μ : Mut} {X : Value → Heap → Prop}
/-- kinds.count(True) -/
theorem ev_countT {x : Str} {xp ap kp pos : Pos} {kk : Nat} {l : Addr} {ds : List PyData} (S : St g L h ρ (some (x, l, ds))) (hb : ds.all Shape.bool.has = true) (hk : sc.kind = .function := by rfl) (hl : (envOf nm sc L fa cd).kindOf x = some .local := by rfl)
    (hd : (x == ("__debug__" : Str)) = false := by decide) (hbase : attributeBase (.Name x xp) "count" (envOf nm sc L fa cd) (eval (.Name x xp) (envOf nm sc L fa cd)) = eval (.Name x xp) (envOf nm sc L fa cd) := by rfl) (hline : (ap.endLine == pos.line) = true := by rfl) :
    Ev (model prog w) A (envOf nm sc L fa cd) h (.Call (.Attribute (.Name x xp) "count" ap) [.Constant (.bool true) kk kp] [] pos) (Rd (.int (countIn (.bool true) ds))) X :=
  ev_meth1 PySem.F.plainAttrs_list PySem.F.slot_list_count PySem.F.type_list_count (ev_own S hk hl hd) ev_bool (fun _ _ _ k r => r.keep k)
    (fun v s r => by
      obtain ⟨l, items, rfl, ⟨n, p⟩, _⟩ := r
      exact ⟨⟨_, p, rfl⟩, fun a e => by cases e; exact ⟨_, p, rfl⟩⟩)
    (fun v1 v2 h' k r1 r2 => op_countT hb r1 r2) hbase hline rfl
end

section
variable {prog : Program} {w : World} {A : Around} {nm : Str} {sc : Scope} {L fa : Addr} {cd : Value} {g h : Heap} {ρ : Locs} {X : Value → Heap → Prop} {Ws : List Addr} {P : Flow → Heap → Prop} {rest : List Stmt}
/-- a new list to a name, while another name holds an object -/
theorem runv_own {x y : Str} {v : Value} {px pos : Pos} {e : Expr} {ds : List PyData} (S : St g L h ρ none) (V : Sv g L h y v) (ev : Ev (model prog w) A (envOf nm sc L fa cd) h e (Rl h ds) X)
    (k : ∀ l h', St g L h' ρ (some (x, l, ds)) → Sv g L h' y v → Run (model prog w) A (envOf nm sc L fa cd) (l :: Ws) rest h' P X) (hxy : y ≠ x := by decide) (hf : flatL ds = true := by rfl) (hx : ρ.lookup x = none := by rfl)
    (hk : sc.kind = .function := by rfl) (hl : (envOf nm sc L fa cd).kindOf x = some .local := by rfl)
    (hs : pl e = true := by rfl) : Run (model prog w) A (envOf nm sc L fa cd) Ws (.Assign [.Name x px] e pos :: rest) h P X := by
  refine ⟨fun s Q E e po q x' => ?_⟩; subst e
  refine wpAny_execs_cons (wpAny_Assign_Name (ev.go s _ E Keep.rfl (fun u h1 i k1 r => ?_) x') (pl_swaps hs))
  obtain ⟨m, F, hv⟩ := V.keep k1
  obtain ⟨l, items, rfl, p, r, fresh⟩ := r
  refine wpAny_storeName_local hl F.ns (fun h' hn hsb => ?_) (by show (sc.kind == .class || (sc.kind == .module && L != mainGlobals)) = false; rw [hk]; rfl)
  have kp1 : Kp [L] h1 h' := kp_same hsb
  have S' : St g L h' ρ (some (x, l, ds)) := by
    refine ⟨_, fr_set F hn hsb, fun y d' e => ?_, fun q e => ?_⟩
    · have hy : y ≠ x := fun hb => by subst hb; rw [hx] at e; cases e
      obtain ⟨m0, F0, hr0, _⟩ := S.ex
      obtain ⟨v', as', a, b, c, _⟩ := hr0 y d' e
      have em : m0 = m := by
        obtain ⟨o, es, ep, h1, h2, _, h4⟩ := (F0.after k1).ns
        obtain ⟨o', es', ep', h1', h2', _, h4'⟩ := F.ns
        rw [h1] at h1'; cases h1'; rw [h2] at h2'; cases h2'
        funext y; rw [← h4, ← h4']
      subst em
      refine ⟨v', as', by simp [hy, a], reads_kp kp1 (fun a ha => ?_) (PyProof.Rows.Reads.keeps k1 b), c, fun q e hq => ?_⟩
      · rw [List.mem_singleton] at ha; subst ha; exact .inr ⟨c, noTup_L F⟩
      · cases e
        have : ∃ o, s.heap.get? l = some o := reads_some b l hq
        obtain ⟨o, ho⟩ := this
        rw [fresh] at ho; cases ho
    · cases e
      refine ⟨by simp, ?_, hf, items, plain_kp kp1 (by simpa using L_ne_list F p) p, rdl_flat_kp kp1 hf (fun a ha => ?_) r⟩
      · exact S.frK.none fresh
      · rw [List.mem_singleton] at ha; subst ha; exact noTup_L F
  refine (k l h' S' ⟨_, fr_set F hn hsb, by simp [hxy, hv]⟩).go _ Q E rfl po (fun fl h2 j kp p' => q fl h2 j ?_ p') (fun y h2 j r => x' y h2 j r)
  intro b o nb eb
  have hbl : b ≠ l := fun e => by subst e; rw [fresh] at eb; cases eb
  have hbL : b ≠ L := fun e => nb (by rw [e]; exact .head _)
  refine kp b o ?_ (kp1 b o (by simpa using hbL) (k1 b o eb))
  intro hb
  cases hb with
  | head => exact nb (.head _)
  | tail _ hb => cases hb with
    | head => exact hbl rfl
    | tail _ hb => exact nb (.tail _ hb)
end

theorem Sv.ex {g : Heap} {L : Addr} {h : Heap} {x : Str} {v : Value} {e C : Addr} (S : Sv g L h x v) (I : Ex g e C) : Ex h e C := let ⟨_, F, _⟩ := S; I.keep F.keep
/-- room, whatever is being handled -/
structure Rv (A : Around) (n : Nat) : Prop where
  dep : A.depth + n < recursionLimit
  un : A.units + 3 * n + 100 < cLine
theorem Rm.v {A : Around} {n : Nat} (r : Rm A n) : Rv A n := ⟨r.dep, r.un⟩
theorem Rv.mark {A : Around} {n : Nat} {x : Option Value} (r : Rv A n) : Rv (A.mark x) n := ⟨r.dep, r.un⟩
theorem Rv.less {A : Around} {n m : Nat} (r : Rv A n) (h : m ≤ n) : Rv A m := ⟨by have := r.dep; (first | lia | omega), by have := r.un; (first | lia | omega)⟩
/-- a caught object is of the class x, or is not -/
structure EI (K : Frag) (C : Addr) (x : Str) (b : Bool) : Prop where
  ex : ∃ D, EC K x D ∧ mroIn K C (.ref D) = some b ∧ (C = D → b = true)
/-- a call with what was caught -/
structure FnV (c : Cx) (K : Frag) (n : Nat) (f : Str) (C : Addr) (b : Bool) : Prop where
  isDef : ∃ dr ∈ recsOf c.p, dr.name = f
  run : ∀ (A : Around) (h : Heap) (e a : Addr), c.T h → K.In h → Rv A n → c.mg f = some (.ref a) → Ex h e C → EvT c.M A h (call (.ref a) [.ref e]) (Rd (.bool b)) NoX

section
variable {c : Cx} {K : Frag} {n : Nat} {f : Str} {C : Addr} {b : Bool} {dn : Str} {dp : Arguments} {db : List Stmt} {dsc : Scope} {dps : Pos} {x1 : Str}
theorem fnv1 (hd : (⟨dn, dp, db, dsc, dps⟩ : DefRec) ∈ recsOf c.p ∧ dn = f)
    (hb : ∀ pm cd doc (v1 : Value), bindArgs (docDef dn dp db dsc pm cd doc) ⟨[v1], []⟩ = pure [(x1, v1)])
    (k : ∀ (A : Around) (g h : Heap) (L fa e : Addr) (cd : Value), c.T g → K.In g → Sv g L h x1 (.ref e) → Ex g e C → Run c.M A (envOf dn dsc L fa cd) [] db h (fun fl h' => Rd (.bool b) (retv fl) h') NoX)
    (hloc : ∀ x ∈ [x1], dsc.names.lookup x = some .local := by decide +kernel)
    (hco : dsc.isCoroutine = false := by rfl) (hgen : dsc.isGenerator = false := by rfl) (hk : dsc.kind = .function := by rfl) (hcell : ∀ x ∈ dsc.names, x.2 ≠ .cell := by decide +kernel) : FnV c K (n + 1) f C b := by
  obtain ⟨hd, hn⟩ := hd
  refine ⟨⟨_, hd, hn⟩, ?_⟩
  intro A h e a T KX rm ha I
  refine ⟨fun s Q E kk q x => ?_⟩
  have T' : c.T s.heap := T.keeps kk
  obtain ⟨a', o, pm, cd, doc, h1, h2, h3, h4⟩ := T'.fn ⟨dn, dp, db, dsc, dps⟩ hd
  dsimp only at h1 h3 h4
  rw [hn, ha] at h1; cases h1
  refine wpAny_call (call_plain (binds := [x1].zip [.ref e]) (by have := rm.dep; (first | lia | omega)) h2 h3 T'.nolimit h4 (hb pm cd doc (.ref e)) (fun y hy => hloc _ (List.of_mem_zip (a := y.1) (b := y.2) hy).1) (fun h₁ F => ?_) hco hgen hk hcell)
  refine (k (A.deeper (envOf dn dsc s.heap.objs.size a cd)) s.heap h₁ _ a e cd T' (KX.keeps kk) ⟨_, F, by simp [List.lookup]⟩ (I.keep kk)).go _ _ _ rfl PassesOwn.leaving (fun fl h' i kp p => ?_) (fun _ _ _ r => r.elim)
  have kz : Keep s.heap h' := fun b o e => kp b o (by
    intro hb
    rw [List.mem_singleton] at hb
    rw [hb] at e
    exact absurd (Heap.lt_size e) (Nat.lt_irrefl _)) (F.keep b o e)
  have := q (retv fl) h' i kz p
  cases fl <;> exact this
end

section
variable {c : Cx} {K : Frag} {n : Nat} {A : Around} {nm : Str} {sc : Scope} {L fa : Addr} {cd : Value} {g h : Heap} {X : Value → Heap → Prop} {C : Addr} {b : Bool}
theorem ev_isk {v x y : Str} {fp vp xp pos : Pos} {e : Addr} (T : c.T g) (B : Bn c) (KX : K.In g) (S : Sv g L h v (.ref e)) (I : Ex h e C) (OC : EC K y C) (i : EI K C x b)
    (hk : sc.kind = .function := by rfl) (hg : (envOf nm sc L fa cd).kindOf (Str.ofString "isinstance") = some .globalImplicit := by rfl) (hl : (envOf nm sc L fa cd).kindOf v = some .local := by rfl)
    (hx : (envOf nm sc L fa cd).kindOf x = some .globalImplicit := by rfl) (hdv : (v == ("__debug__" : Str)) = false := by decide) (hdx : (x == ("__debug__" : Str)) = false := by decide) :
    Ev c.M A (envOf nm sc L fa cd) h (.Call (.Name (Str.ofString "isinstance") fp) [.Name v vp, .Name x xp] [] pos) (Rd (.bool b)) X := by
  obtain ⟨D, OD, hs, hself⟩ := i.ex
  exact ev_isx T B KX S I OC OD hs hself hk hg hl hx hdv hdx
theorem ev_callv {k : Nat} {f y : Str} {p vp pos : Pos} {e : Addr} (T : c.T g) (KX : K.In g) (rv : Rv A n) (V : Sv g L h y (.ref e)) (I : Ex h e C) (F : FnV c K k f C b) (hkn : k ≤ n := by decide)
    (hk : sc.kind = .function := by rfl) (hl : (envOf nm sc L fa cd).kindOf y = some .local := by rfl) (hx : (envOf nm sc L fa cd).kindOf f = some .globalImplicit := by rfl) (hd : (f == ("__debug__" : Str)) = false := by decide) (hdv : (y == ("__debug__" : Str)) = false := by decide) :
    Ev c.M A (envOf nm sc L fa cd) h (.Call (.Name f p) [.Name y vp] [] pos) (Rd (.bool b)) X := by
  refine ⟨fun s Q E k q x => ?_⟩
  have V' := V.keep k
  obtain ⟨m, F0, _⟩ := id V'
  obtain ⟨dr, hdr, hn⟩ := F.isDef
  obtain ⟨a', o, pm, cd', doc, h1, h2, h3, h4⟩ := T.fn dr hdr
  rw [hn] at h1
  refine wpAny_Call_NameR (ld_global_at F0 T.g h1 ?_ hk hx hd)
  refine callWith_def h3 (PyProof.Rows.args_cons ((ev_exv (c := c) V' hk hl hdv (X := X)).go s _ E Keep.rfl (fun u hh2 j k2 r => ?_) (fun y h' i r => x y h' i r)) rfl) rfl
  subst r
  refine PyProof.Rows.args_nil ?_
  refine ⟨k2 _ _ (F0.keep _ _ h2), ?_⟩
  have kg : Keep g hh2 := fun b o e => k2 _ _ (F0.keep b o e)
  exact (F.run A hh2 e a' (T.keeps kg) (KX.keeps kg) (rv.less hkn) h1 ((I.keep k).keep k2)).go { s with heap := hh2, toks := j } Q E Keep.rfl (fun v h3 j3 k3 r3 => q v h3 j3 (Keep.trans k2 k3) r3) (fun _ _ _ r => r.elim)
end
end Mine

namespace Mine
open PySem PySem.Spec PySem.Calls PyProof.Rows PySem.W

/-- read, with no list or dict at L -/
def Rn (L : Addr) (d : PyData) (v : Value) (h : Heap) : Prop := ∃ as, Reads h v d as ∧ L ∉ as
def RnL (L : Addr) (ds : List PyData) (vs : List Value) (h : Heap) : Prop := ∃ as, ReadsAll h vs ds as ∧ L ∉ as
theorem Rn.keep {L : Addr} {d : PyData} {v : Value} {h h' : Heap} (r : Rn L d v h) (k : Keep h h') : Rn L d v h' := let ⟨as, x, n⟩ := r; ⟨as, PyProof.Rows.Reads.keeps k x, n⟩
theorem Rn.rd {L : Addr} {d : PyData} {v : Value} {h : Heap} (r : Rn L d v h) : Rd d v h := let ⟨as, x, _⟩ := r; ⟨as, x⟩
theorem RnL.cons {L : Addr} {d ds v vs} {h : Heap} (a : Rn L d v h) (b : RnL L ds vs h) : RnL L (d :: ds) (v :: vs) h := by
  obtain ⟨as, x, n⟩ := a; obtain ⟨bs, y, m⟩ := b
  exact ⟨_, .cons x y, fun ha => (List.mem_append.mp ha).elim n m⟩
theorem RnL.append {L : Addr} {h : Heap} : ∀ {ds es vs us}, RnL L ds vs h → RnL L es us h → RnL L (ds ++ es) (vs ++ us) h
  | [], es, vs, us, a, b => by
    have e : vs = [] := (show RdL [] vs h from let ⟨as, x, _⟩ := a; ⟨as, x⟩).unnil
    subst e; exact b
  | d :: ds, es, vs, us, a, b => by
    obtain ⟨as, x, n⟩ := a
    cases x with
    | cons x1 x2 => exact RnL.cons ⟨_, x1, fun q => n (List.mem_append_left _ q)⟩ (RnL.append ⟨_, x2, fun q => n (List.mem_append_right _ q)⟩ b)
theorem RnL.keep {L : Addr} {ds : List PyData} {vs : List Value} {h h' : Heap} (r : RnL L ds vs h) (k : Keep h h') : RnL L ds vs h' := let ⟨as, x, n⟩ := r; ⟨as, PyProof.Rows.ReadsAll.keeps k x, n⟩
section
variable {prog : Program} {w : World} {A : Around} {env : Env} {h : Heap} {L : Addr} {X : Value → Heap → Prop}
end
section
variable {prog : Program} {w : World} {A : Around} {nm : Str} {sc : Scope} {L fa : Addr} {cd : Value} {g h : Heap} {ρ : Locs} {μ : Mut} {X : Value → Heap → Prop} {Ws : List Addr} {P : Flow → Heap → Prop} {rest : List Stmt}
theorem St.hL (S : St g L h ρ μ) : ∃ o, h.get? L = some o := let ⟨_, F, _⟩ := S.ex; L_some F
end
end Mine

namespace Mine
open PySem PySem.Spec PySem.Calls PyProof.Rows PySem.W

section
variable {c : Cx} {A : Around} {nm : Str} {sc : Scope} {L fa : Addr} {cd : Value} {g h : Heap} {ρ : Locs} {μ : Mut} {X : Value → Heap → Prop} {W : List Addr}
theorem iter_range2 {e e' : Expr} {a b : Int} {p pos : Pos} (S : St g L h ρ μ) (T : c.T g) (B : Bn c) (hh : A.handled = none) (e0 : Ev c.M A (envOf nm sc L fa cd) h e' (Rd (.int a)) X) (e1 : Ev c.M A (envOf nm sc L fa cd) h e (Rd (.int b)) X) (ha : -(2 ^ 61) ≤ a ∧ a ≤ 2 ^ 61) (hb : -(2 ^ 61) ≤ b ∧ b ≤ 2 ^ 61) (hold : ∀ b ∈ W, ∃ o, h.get? b = some o)
    (hk : sc.kind = .function := by rfl) (hg : (envOf nm sc L fa cd).kindOf (Str.ofString "range") = some .globalImplicit := by rfl) (he : pl e = true := by rfl) (he' : pl e' = true := by rfl) :
    Iter c.prog c.w A (envOf nm sc L fa cd) W h (.Call (.Name (Str.ofString "range") p) [e', e] [] pos) (rangeD a (b - a).toNat) X :=
  iter_rangeC (W := W) (a := a) (b := b) hh ha hb (ev_tcall S T B (x := Str.ofString "range") (id := "range") (R := fun v h' => ∃ r t u y, v = .ref r ∧ IsRange h' r a b 1 t u y) (by decide) (by decide +kernel) (evl_cons e0 (evl_cons e1 evl_nil he) he') (fun vs h' k r => by
    obtain ⟨v, r', rfl, rd, rn⟩ := r.uncons
    obtain ⟨v2, r'', rfl, rd2, rn2⟩ := rn.uncons
    have := rn2.unnil
    subst this
    obtain ⟨t, rfl⟩ := rd_int rd
    obtain ⟨u, rfl⟩ := rd_int rd2
    refine ⟨fun s Q E kk q x => ?_⟩
    refine call_range_2 ?_
    exact q _ _ _ (Keep.push Keep.rfl _) ⟨_, _, _, _, rfl, IsRange.new _ _ _ _ _ _ _⟩) (by decide) hk hg (by decide) he' (by simp [he])) hold
end
theorem PD_eqv (a b x y : Int) : PyData.eqv (PD a b) (PD x y) = (decide (a = x) && decide (b = y)) := by
  simp only [PyData.eqv, PyData.eqvAll, Bool.and_true]; rfl
end Mine

namespace Mine
open PySem PySem.Spec PySem.Calls PyProof.Rows PySem.W
def cadr (K : Frag) (x : Str) : Addr := match nsIn K mainGlobals x with
  | some (some (.ref a)) => a
  | _ => 0
theorem ec_of {K : Frag} {h : Heap} (_KX : K.In h) (x : Str) (a1 : nsIn K mainGlobals x = some (some (.ref (cadr K x))))
    (b1 : findIn K (.ref (cadr K x)) "__getattribute__" = some (some (.builtin "BaseException.__getattribute__")))
    (b2 : findIn K (.ref (cadr K x)) "__getattr__" = some none)
    (b3 : findIn K (.ref (cadr K x)) "__class__" = some (some (.builtin "object.__class__")))
    (b4 : specialIn K (.builtin "object.__class__") "__get__" = some (some (.builtin "getset_descriptor.__get__")))
    (b5 : takesIn K (.builtin "object.__class__") = some true)
    (b6 : mroIn K (cadr K x) (.type "object") = some true)
    (b7 : (clsIn K (cadr K x)).isSome = true)
    (a2 : typeIn K (.ref (cadr K x)) = some (.type "type")) (a3 : mroIn K (cadr K x) (.type "BaseException") = some true) (a4 : mroIn K (cadr K x) (.type "ValueError") = some true) (a5 : excIn K (cadr K x) bmV "ValueError.__new__" = true) : EC K x (cadr K x) :=
  ⟨a1, ⟨b1, b2, b3, b4, b5, b6, a3, b7⟩, a2, a3, a4, a5⟩
theorem eu_of {K : Frag} {x : Str} (y : Str) (e : EC K x (cadr K x)) (s : mroIn K (cadr K x) (.ref (cadr K y)) = some true) (t : mroIn K (cadr K x) (.ref (cadr K x)) = some true) : EU K x (cadr K x) (cadr K y) := ⟨e, s, t⟩
theorem ei_of {K : Frag} {x : Str} (z : Str) (b : Bool) (e : EC K x (cadr K x)) (s : mroIn K (cadr K z) (.ref (cadr K x)) = some b) (n : (b || !(cadr K z == cadr K x)) = true) : EI K (cadr K z) x b :=
  ⟨_, e, s, fun q => by rw [q] at n; simpa using n⟩
end Mine

namespace Mine
open PySem PySem.Spec PySem.Calls PyProof.Rows PySem.W
section
variable {prog : Program} {w : World} {A : Around} {env : Env} {h : Heap} {X : Value → Heap → Prop}
end
section
variable {prog : Program} {w : World} {A : Around} {nm : Str} {sc : Scope} {L fa : Addr} {cd : Value} {g h : Heap} {ρ : Locs} {X : Value → Heap → Prop}
end
end Mine

namespace Mine
open PySem PySem.Spec PySem.Calls PyProof.Rows PySem.W PySem.Builtin

/-- a list's reverse iterator -/
def IsRev (h : Heap) (it l : Addr) (k : Int) : Prop := ∃ o, h.get? it = some o ∧ o.cls = .type "list_reverseiterator" ∧ o.data = .fields #[.ref l, .int k 0]
theorem IsRev.typeIs {s : Shared} {it l : Addr} {k : Int} (y : IsRev s.heap it l k) : s.TypeIs (.ref it) "list_reverseiterator" := let ⟨o, ho, hc, _⟩ := y; ⟨o, ho, hc⟩
theorem slot_rev_next : Slot "list_reverseiterator" "__next__" "list_reverseiterator.__next__" :=
  .of (owner := "list_reverseiterator") (n := "__next__") (by rw [typeLookup_type, builtinLookup_eq_fast]; kernel_rfl) (by decide +kernel) (by decide +kernel) (by decide +kernel)
    (by first | exact .inl (by decide +kernel) | exact .inr (by decide +kernel)) (by rw [isSubtype_type]; kernel_rfl)
theorem slot_rev_iter : Slot "list_reverseiterator" "__iter__" "list_reverseiterator.__iter__" :=
  .of (owner := "list_reverseiterator") (n := "__iter__") (by rw [typeLookup_type, builtinLookup_eq_fast]; kernel_rfl) (by decide +kernel) (by decide +kernel) (by decide +kernel)
    (by first | exact .inl (by decide +kernel) | exact .inr (by decide +kernel)) (by rw [isSubtype_type]; kernel_rfl)
theorem entry_rev_next : entryFor table "list_reverseiterator.__next__" = some Builtin.«list_reverseiterator.__next__» := entryFor_of_tree (by kernel_rfl)
theorem entry_rev_iter : entryFor table "list_reverseiterator.__iter__" = some Builtin.«dict_keyiterator.__iter__» :=
  entryFor_alias (id' := "dict_keyiterator.__iter__") (by kernel_rfl) (by first | rfl | decide +kernel) (by decide +kernel) (by kernel_rfl)
theorem args_rev_next (a : Value) : argsOk "list_reverseiterator.__next__" ⟨[a], []⟩ := by unfold argsOk; kernel_rfl
theorem args_rev_iter (a : Value) : argsOk "list_reverseiterator.__iter__" ⟨[a], []⟩ := by unfold argsOk; kernel_rfl

section
variable {prog : Program} {w : World} {A : Around} {E : Value → Shared → Prop} {s : Shared}
theorem pyIter_rev {it l : Addr} {k : Int} {Q : Value → Shared → Prop} (hit : IsRev s.heap it l k) (hQ : Q (.ref it) s) : wpAny (model prog w) A (pyIter (.ref it)) Q E s := by
  refine wpAny_pyIter_slot hit.typeIs slot_rev_iter (wpAny_call_entry slot_rev_iter hit.typeIs entry_rev_iter ?_ (args_rev_iter _))
  show wpAny _ _ (ret (.ref it)) _ _ s
  exact wpAny_pure ⟨_, rfl, "list_reverseiterator", _, hit.typeIs, slot_rev_next.lookup, hQ⟩
theorem pyNext_rev_item {it l : Addr} {k : Nat} {items : Array Value} {x : Value} {Q : Option Value → Shared → Prop} (hit : IsRev s.heap it l k) (hl : s.heap.IsList l items) (hx : items[k]? = some x)
    (hQ : ∀ h', IsRev h' it l ((k : Int) - 1) → Heap.SameBut it s.heap h' → Q (some x) { s with heap := h' }) : wpAny (model prog w) A (pyNext (.ref it)) Q E s := by
  obtain ⟨o, ho, hc, hd⟩ := id hit
  obtain ⟨ol, hol, _, nl, hdl⟩ := hl
  unfold pyNext
  refine wpAny_bind (wpAny_attempt (wpAny_callSpecial?_slot (name := Str.ofString "__next__") hit.typeIs slot_rev_next
    (wpAny_call_entry slot_rev_next hit.typeIs entry_rev_next ?_ (args_rev_next _))))
  show wpAny _ _ (field (.ref it) 1 >>= _) _ _ s
  refine wpAny_bind (wpAny_field ho hd (x := .int k 0) rfl ?_)
  show wpAny _ _ (if (k : Int) < 0 then _ else _) _ _ s
  rw [if_neg (show ¬ ((k : Int) < 0) by (first | lia | omega))]
  show wpAny _ _ (field (.ref it) 0 >>= _) _ _ s
  refine wpAny_bind (wpAny_field ho hd (x := .ref l) rfl ?_)
  show wpAny _ _ (seqItems? (.ref l) >>= _) _ _ s
  refine wpAny_bind (wpAny_seqItems hol hdl ?_)
  simp only [Int.toNat_natCast, hx]
  refine wpAny_bind (wpAny_setField ho hd (by simp) (wpAny_pure ⟨x, rfl, wpAny_pure (hQ _ ?_ (Heap.SameBut.update ..))⟩))
  exact ⟨_, Heap.get?_update_self _ ho (Obj.isFreed_of_fields (Obj.data_mapFields hd _)), (Obj.cls_mapFields ..).trans hc, by
    rw [Obj.data_mapFields hd]; simp [rawInt]⟩
theorem pyNext_rev_end {it l : Addr} {Q : Option Value → Shared → Prop} (hh : A.handled = none) (hit : IsRev s.heap it l (-1))
    (hQ : ∀ h', Heap.ExtBut it s.heap h' → Q none { s with heap := h' }) : wpAny (model prog w) A (pyNext (.ref it)) Q E s := by
  obtain ⟨o, ho, hc, hd⟩ := id hit
  unfold pyNext
  refine wpAny_bind (wpAny_attempt (wpAny_callSpecial?_slot (name := Str.ofString "__next__") hit.typeIs slot_rev_next
    (wpAny_call_entry slot_rev_next hit.typeIs entry_rev_next ?_ (args_rev_next _))))
  show wpAny _ _ (field (.ref it) 1 >>= _) _ _ s
  refine wpAny_bind (wpAny_field ho hd (x := .int (-1) 0) rfl ?_)
  show wpAny _ _ (if (-1 : Int) < 0 then _ else _) _ _ s
  rw [if_pos (show ((-1 : Int) < 0) by decide)]
  refine wpAny_bind (wpAny_rule ?_)
  refine wpAny_bind ?_
  show wpAny _ _ (newExc (.type "StopIteration") [] >>= _) _ _ _
  refine wpAny_bind ?_
  simp only [newExc, newTuple]
  refine wpAny_bind (wpAny_newObj_type ?_ (by size_fits))
  refine wpAny_bind (m := firstArgMember _ _) (wpAny_of_eq (a := Value.none) (by first | rfl | (simp only [firstArgMember]; rfl)) ?_)
  refine wpAny_newObj_type ?_ (by size_fits)
  simp only [raiseNew]
  refine wpAny_bind (wpAny_handled ?_)
  rw [show A.in1.handled = none from hh]
  refine wpAny_bind (wpAny_pure (wpAny_throw ?_))
  refine wpAny_bind (wpAny_isInstance (T := "StopIteration") (b := true) ⟨_, Heap.get?_push_size _ rfl, rfl⟩ isSubtype_stop ?_)
  exact wpAny_pure (hQ _ (fun b o hb e => Heap.get?_push_of_some _ (Heap.get?_push_of_some _ e)))
end
end Mine
namespace Mine
open PySem PySem.Spec PySem.Calls PyProof.Rows PySem.W PySem.Builtin
theorem mro_reversed : mroOf (.type "reversed") = pure [.type "reversed", .type "object"] := by rw [mroOf_type]; kernel_rfl
theorem lookup_reversed_new : typeLookup (.type "reversed") "__new__" = pure (some (.builtin "reversed.__new__")) := by rw [typeLookup_type, builtinLookup_eq_fast]; kernel_rfl
theorem entry_reversed_new : entryFor table "reversed.__new__" = some Builtin.«reversed.__new__» := entryFor_of_tree (by kernel_rfl)
section
variable {prog : Program} {w : World} {A : Around} {E : Value → Shared → Prop} {s : Shared}
theorem call_reversed {l : Addr} {items : Array Value} {n : Nat} {Q : Value → Shared → Prop} (hl : s.heap.get? l = some { cls := .type "list", data := .seq items n })
    (hQ : Q (.ref s.heap.objs.size) { s with heap := s.heap.push { cls := .type "list_reverseiterator", data := .fields #[.ref l, rawInt (((items.size : Nat) : Int) - 1)] } }) :
    wpAny (model prog w) A (call (.type "reversed") [.ref l]) Q E s := by
  have hmade : Bind.madeBy (.type "reversed") = pure (some "reversed.__new__") := madeBy_type mro_reversed lookup_reversed_new (by decide +kernel)
  have hmro := mro_reversed
  have h1 : (Value.type "reversed" == Value.type "type") = false := by decide +kernel
  have h2 : ((Manifest.find? "reversed").bind (·.mro.findSome? fun t => (Manifest.find? t).bind fun b => if b.noNew then some true else if b.attrs.any (·.1 == "__new__") then some false else none)).getD false = false := by decide +kernel
  have hct : checkTypeCall "reversed" ⟨[.ref l], []⟩ = pure () := by kernel_rfl
  have hcn : checkBuiltinCall "reversed.__new__" ⟨[.type "reversed", .ref l], []⟩ = pure () := by kernel_rfl
  refine wpAny_call (codeAny_of_tree ?_)
  show wpAny _ _ (callAny (.type "reversed") _) _ _ _
  refine wpAny_pure ⟨Code.quiet_builtin _ (by decide +kernel), codeAny_builtin F.entry_type_call ?_⟩
  rw [Around.under_plain (weight_type_call_type "reversed" [.ref l] []) (units_type_call_type "reversed" [.ref l] [])]
  repeat (any_goals (first | assumption | wp_step))
  have hsub : isSubtype (.type "reversed") (.type "reversed") = pure true := by rw [isSubtype_type]; kernel_rfl
  have hsub2 : isSubtype (.type "list_reverseiterator") (.type "reversed") = pure false := by rw [isSubtype_type]; kernel_rfl
  have f1 := PySem.F.slot_list_reversed.lookup
  have f2 := PySem.F.slot_list_reversed.bind (.ref l)
  have hT : s.TypeIs (.ref l) "list" := ⟨_, hl, rfl⟩
  refine codeAny_call_builtin (by decide +kernel) entry_reversed_new (wpAny_of_eq hcn ?_)
  show wpAny _ _ (Builtin.«reversed.__new__» ⟨[.type "reversed", .ref l], []⟩) _ _ _
  have hnew : SmallTypes.newClass "reversed" ⟨[.type "reversed", .ref l], []⟩ = pure (Value.type "reversed", [Value.ref l]) := by
    unfold SmallTypes.newClass
    have e : isType (.type "reversed") = pure true := rfl
    simp only [e, hsub]
    rfl
  unfold Builtin.«reversed.__new__»
  refine wpAny_bind (wpAny_of_eq hnew ?_)
  refine wpAny_bind (wpAny_of_eq (a := ()) rfl ?_)
  refine wpAny_bind (wpAny_of_eq (a := ()) rfl ?_)
  refine wpAny_bind (wpAny_specialOf hT f1 ?_)
  refine wpAny_bind (wpAny_of_eq f2 ?_)
  refine wpAny_bind (wpAny_rule ?_)
  have hcall : codeAny (model prog w) A.in1.in1 (.call (.builtin "list.__reversed__") ⟨[.ref l], []⟩) (fun r s' => r = .ok (.ret (.ref s.heap.objs.size)) ∧ s' = { s with heap := s.heap.push { cls := .type "list_reverseiterator", data := .fields #[.ref l, rawInt (((items.size : Nat) : Int) - 1)] } }) s :=
    codeAny_call_builtin PySem.F.slot_list_reversed.plain PySem.F.entry_list_reversed (PySem.F.slot_list_reversed.check _ _ _ _ _ _ _ _ hT (PySem.F.args_list_reversed_1 _) (AutoListH.list___reversed___list_0 l items n prog w A.in1.in1 (fun r s' => r = .ok (.ret (.ref s.heap.objs.size)) ∧ s' = { s with heap := s.heap.push { cls := .type "list_reverseiterator", data := .fields #[.ref l, rawInt (((items.size : Nat) : Int) - 1)] } }) s ⟨hl, rfl, rfl⟩))
  refine wpAny_bind (wpAny_runValue (codeAny_mono hcall fun r s₁ hr => ?_))
  obtain ⟨rfl, rfl⟩ := hr
  refine wpAny_pure ?_
  refine wpAny_bind (wpAny_isInstance (T := "list_reverseiterator") (b := false) ⟨_, Heap.get?_push_size _ rfl, rfl⟩ hsub2 ?_)
  refine wpAny_bind (wpAny_rule ?_)
  exact wpAny_pure hQ
end

section
variable {c : Cx} {A : Around} {nm : Str} {sc : Scope} {L fa : Addr} {cd : Value} {g h : Heap} {ρ : Locs} {X : Value → Heap → Prop}
/-- reversed(own list) -/
theorem iter_rev {x : Str} {l : Addr} {ds : List PyData} {p px pos : Pos} (S : St g L h ρ (some (x, l, ds))) (T : c.T g) (B : Bn c) (hh : A.handled = none)
    (hk : sc.kind = .function := by rfl) (hg : (envOf nm sc L fa cd).kindOf (Str.ofString "reversed") = some .globalImplicit := by rfl) (hl : (envOf nm sc L fa cd).kindOf x = some .local := by rfl) (hd : (x == ("__debug__" : Str)) = false := by decide) :
    Iter c.prog c.w A (envOf nm sc L fa cd) [L] h (.Call (.Name (Str.ofString "reversed") p) [.Name x px] [] pos) ds.reverse X := by
  intro s Q E k q x'
  refine wpAny_Call_NameR ((ev_bname (S.keep k) T B (x := Str.ofString "reversed") (v := .type "reversed") (by decide) (by decide +kernel) (by decide) hk hg (by decide)).seq Keep.rfl (fun v h1 i k1 r => ?_) x')
  subst r
  refine PyProof.Rows.callWith_type1 (PyProof.Rows.args_cons ((ev_mutL ((S.keep k).keep k1) hk hl hd (X := X)).go { s with heap := h1, toks := i } _ E Keep.rfl (fun v h2 j k2 r => ?_) (fun y h2 j r => x' y h2 j r)) rfl) rfl rfl
  subst r
  refine PyProof.Rows.args_nil ?_
  have S2 := ((S.keep k).keep k1).keep k2
  obtain ⟨m, F, _, hm⟩ := S2.ex
  obtain ⟨_, hgl, hf, items, ⟨n, pl⟩, rr⟩ := hm _ rfl
  have hlL : l ≠ L := L_ne_list F ⟨n, pl⟩
  have hsz : items.size = ds.length := by have := rr.len; simpa using this
  refine call_reversed (s := { s with heap := h2, toks := j }) pl ?_
  have hitn : h2.get? h2.objs.size = none := size_none h2
  have hitl : l ≠ h2.objs.size := fun e => by rw [← e] at hitn; dsimp only at pl; rw [hitn] at pl; cases pl
  have hitL : h2.objs.size ≠ L := fun e => by
    obtain ⟨o, ho⟩ := L_some F
    rw [← e, hitn] at ho; cases ho
  have hrev0 : IsRev (h2.push { cls := .type "list_reverseiterator", data := .fields #[.ref l, rawInt (((items.size : Nat) : Int) - 1)] }) h2.objs.size l ((ds.length : Int) - 1 - (0 : Nat)) := ⟨_, Heap.get?_push_size _ rfl, rfl, by rw [hsz]; simp [rawInt]⟩
  refine pyIter_rev hrev0 ?_
  have nt : NoTup h2.objs.size (h2.push { cls := .type "list_reverseiterator", data := .fields #[.ref l, rawInt (((items.size : Nat) : Int) - 1)] }) := by
    intro o' ho' hc' vs n' hd'
    rw [Heap.get?_push_size _ rfl] at ho'; cases ho'
    have hq : (Value.type "list_reverseiterator") = Value.type "tuple" := hc'
    exact absurd hq (by decide +kernel)
  have ntL := noTup_L (F.after (Keep.push Keep.rfl { cls := .type "list_reverseiterator", data := .fields #[.ref l, rawInt (((items.size : Nat) : Int) - 1)] }))
  have r0 := rr.keep (Keep.push Keep.rfl { cls := .type "list_reverseiterator", data := .fields #[.ref l, rawInt (((items.size : Nat) : Int) - 1)] })
  refine q h2.objs.size (fun i h' => IsRev h' h2.objs.size l ((ds.length : Int) - 1 - i) ∧ h'.IsList l items ∧ ∀ h'', Kp (h2.objs.size :: [L]) h' h'' → RdL ds items.toList h'') _ _ ((Keep.trans k1 k2).push _) ?_ ⟨hrev0, ⟨_, Heap.get?_push_of_some _ pl, rfl, n, rfl⟩, fun h'' kp => rdl_flat_kp kp hf (fun a ha => ?_) r0⟩ ((Keep.trans k1 k2).none hitn)
  · refine ⟨?_, ?_, ?_, ?_, ?_⟩
    · intro i d s' Q' E' hd' hI q'
      obtain ⟨a1, a2, a3⟩ := hI
      have hi : i < ds.length := by have := List.getElem?_eq_some_iff.mp hd'; obtain ⟨h, _⟩ := this; simpa using h
      have hdd : ds[ds.length - 1 - i]? = some d := by rw [List.getElem?_reverse hi] at hd'; exact hd'
      obtain ⟨v, hv, _⟩ := (a3 s'.heap Kp.rfl).at hdd
      have ek : ((ds.length : Int) - 1 - i) = ((ds.length - 1 - i : Nat) : Int) := by (first | lia | omega)
      rw [ek] at a1
      refine pyNext_rev_item a1 a2 (x := v) (by simpa using hv) (fun h'' hit'' hsb => ?_)
      have kp := kp_same hsb
      have kp2 : Kp (h2.objs.size :: [L]) s'.heap h'' := kp.mono fun b hb => by rw [List.mem_singleton] at hb; subst hb; exact .head _
      have r'' : RdL ds items.toList h'' := a3 h'' kp2
      obtain ⟨v', hv', rv⟩ := r''.at hdd
      rw [hv] at hv'; cases hv'
      refine q' v h'' s'.toks ⟨?_, isList_kp kp (by simpa using hitl) a2, fun h3 kp3 => a3 h3 (kp2.trans kp3)⟩ kp rv
      have e2 : ((ds.length : Int) - 1 - ((i + 1 : Nat) : Int)) = ((ds.length - 1 - i : Nat) : Int) - 1 := by (first | lia | omega)
      rw [e2]; exact hit''
    · intro s' Q' E' hI q'
      obtain ⟨a1, a2, a3⟩ := hI
      have ek : ((ds.length : Int) - 1 - (ds.reverse.length : Nat)) = -1 := by simp; (first | lia | omega)
      rw [ek] at a1
      exact pyNext_rev_end hh a1 (fun h'' he => q' h'' s'.toks (kp_ext he))
    · intro i ha hb hI kp
      obtain ⟨⟨o, ho, hc, hd⟩, a2, a3⟩ := hI
      exact ⟨⟨o, kp _ _ (by simpa using hitL) ho, hc, hd⟩, isList_kp kp (by simpa using hlL) a2, fun h3 kp3 => a3 h3 ((kp.mono fun b hb => .tail _ hb).trans kp3)⟩
    · intro i ha hI
      obtain ⟨⟨o, ho, hc, hd⟩, _⟩ := hI
      exact odd_fields ho hd
    · intro i s' elts x1 pos T Q' E' hI q'
      obtain ⟨⟨o, ho, hc, hd⟩, _⟩ := hI
      unfold letOwnedTupleGo
      refine wpAny_bind (wpAny_load ho ?_)
      rw [hc, hd]
      refine wpAny_ite_false ?_ (wpAny_pure q')
      simp
  · rcases List.mem_cons.mp ha with e | e
    · subst e; exact nt
    · rw [List.mem_singleton] at e; subst e; exact ntL
end
end Mine

set_option maxHeartbeats 400000
namespace Mine
open PySem PySem.Spec PySem.Calls PyProof.Rows PySem.W PySem.Challenge
/-- the script's cell, and a draw -/
def cell (ns : List Int) (k : Int) : Int := ns.getD k.toNat 0
def wayF (ns : List Int) (k : Int) (m : Int) : Int := (cell ns k * 48271 + 7919 * (ns.length : Int)) % 2147483647 % m
theorem wayF_lo {ns : List Int} {k : Int} {m : Int} (h : 0 < m) : 0 ≤ wayF ns k m := Int.emod_nonneg _ (by (first | lia | omega))
theorem wayF_hi {ns : List Int} {k : Int} {m : Int} (h : 0 < m) : wayF ns k m < m := Int.emod_lt_of_pos _ h
abbrev scr (ns : List Int) : PyData := .list (ns.map PyData.int)
def isInt : PyData → Bool
  | .int _ => true
  | _ => false
local macro_rules | `(tactic| walk_at "sz") => `(tactic| first | with_reducible assumption | assumption | exact sz_lit (by decide) | exact Sz.mul (by walk_at "sz") (by walk_at "sz") | exact Sz.add (by walk_at "sz") (by walk_at "sz") | exact Sz.sub (by walk_at "sz") (by walk_at "sz") | exact Sz.abs (by walk_at "sz") | exact Sz.neg (by walk_at "sz"))
local macro_rules | `(tactic| walk_at "mul") => `(tactic| first | exact IntMulOk.of_left (by decide) | exact IntMulOk.of_right (by decide) | exact mul_ok (by walk_at "sz") (by walk_at "sz"))
local macro_rules | `(tactic| walk_at "pos") => `(tactic| first | assumption | decide | (first | lia | omega))
local macro_rules | `(tactic| walk_at "small") => `(tactic| first | decide | exact div_ok (by walk_at "sz") | (first | lia | omega))
local macro_rules | `(tactic| walk_at "shaped") => `(tactic| first | rfl | decide | decide +kernel)
local macro_rules | `(tactic| walk_at "len") => `(tactic| first | decide | (simp only [List.length_cons, List.length_nil]; decide) | (simp; (first | lia | omega)) | (first | lia | omega))

/-- gcd facts -/
theorem gcd_step {a b : Int} (_hb : 0 < b) : Int.gcd b (a % b) = Int.gcd a b := by
  rw [Int.emod_def, Int.gcd_sub_mul_left_right, Int.gcd_comm]
theorem gcd_pos {a b : Int} (hb : 1 ≤ b) : (1 : Int) ≤ (Int.gcd a b : Int) := by
  have : 0 < Int.gcd a b := Int.gcd_pos_of_ne_zero_right _ (by (first | lia | omega))
  (first | lia | omega)
theorem gcd_le {a b : Int} (hb : 1 ≤ b) : (Int.gcd a b : Int) ≤ b := by
  have h1 : (Int.gcd a b : Int) ∣ b := Int.gcd_dvd_right a b
  exact Int.le_of_dvd (by (first | lia | omega)) h1
theorem low_props {a b : Int} (ha : 0 ≤ a) (hb : 1 ≤ b) : 0 ≤ a / (Int.gcd a b : Int) ∧ 1 ≤ b / (Int.gcd a b : Int) ∧ Int.gcd (a / (Int.gcd a b : Int)) (b / (Int.gcd a b : Int)) = 1 ∧ a / (Int.gcd a b : Int) ≤ a ∧ b / (Int.gcd a b : Int) ≤ b ∧
    a / (Int.gcd a b : Int) * (Int.gcd a b : Int) = a ∧ b / (Int.gcd a b : Int) * (Int.gcd a b : Int) = b := by
  have hg := gcd_pos (a := a) hb
  have d1 : (Int.gcd a b : Int) ∣ a := Int.gcd_dvd_left a b
  have d2 : (Int.gcd a b : Int) ∣ b := Int.gcd_dvd_right a b
  have e1 := Int.ediv_mul_cancel d1
  have e2 := Int.ediv_mul_cancel d2
  have p1 : 0 ≤ a / (Int.gcd a b : Int) := Int.ediv_nonneg ha (by (first | lia | omega))
  have p2 : 0 ≤ b / (Int.gcd a b : Int) := Int.ediv_nonneg (by (first | lia | omega)) (by (first | lia | omega))
  have p3 : b / (Int.gcd a b : Int) ≠ 0 := by
    intro e; rw [e] at e2; (first | lia | omega)
  refine ⟨p1, by (first | lia | omega), ?_, Int.ediv_le_self _ ha, Int.ediv_le_self _ (by (first | lia | omega)), e1, e2⟩
  exact Int.gcd_ediv_gcd_ediv_gcd_of_ne_zero_right (by (first | lia | omega))

section
variable {c : Cx} (hc : recsOf c.p = recsOf pw_uf050018_09) (B : Bn c)
include hc

theorem f_cell (B : Bn c) {ns : List Int} {k : Int} (h0 : 0 ≤ k) (h1 : k < 2 ^ 60) (hn : ns.length ≤ 63) : FnD c 1 "_law_cell_at" [scr ns, .int k] (.int (cell ns k)) := by
  have hdef := def_at (f := "_law_cell_at") hc 15 rfl rfl rfl (by kernel_rfl)
  refine fn2 (x1 := "_law_script") (x2 := "_law_k") hdef rf_old (by intros; rfl) (fun A g h L fa cd T rm S => ?_)
  have hl : (ns.map PyData.int).length < 2 ^ 62 := by simp; (first | lia | omega)
  refine run_if S (tr_icmp (ev_var S rfl) (ev_lenl S T B (ev_var S rfl) hl) rfl) (fun e h S => ?_) (fun e h S => ?_)
  · have e' : k < ns.length := by simpa using e
    have hx : (ns.map PyData.int)[k.toNat]? = some (.int (cell ns k)) := by
      have : k.toNat < ns.length := by (first | lia | omega)
      simp [cell, this]
    exact run_ret (ev_lidx (ev_var S rfl) (ev_var S rfl) hx h0 (by (first | lia | omega))) fun v h' _ r => Rf.of_flat rfl r
  · have e' : ¬ k < ns.length := by simpa using e
    have hx : cell ns k = 0 := by
      have : ns.length ≤ k.toNat := by (first | lia | omega)
      simp [cell, List.getElem?_eq_none this]
    rw [hx]
    exact run_nil (run_ret ev_int fun v h' _ r => Rf.of_flat rfl r)

theorem f_way (B : Bn c) {ns : List Int} {k m : Int} (h0 : 0 ≤ k) (h1 : k < 2 ^ 60) (hn : ns.length ≤ 63) (hm : 0 < m) : FnD c 2 "_law_way" [scr ns, .int k, .int m] (.int (wayF ns k m)) := by
  have hdef := def_at (f := "_law_way") hc 16 rfl rfl rfl (by kernel_rfl)
  refine fn3 (x1 := "_law_script") (x2 := "_law_k") (x3 := "_law_many") hdef rf_old (by intros; rfl) (fun A g h L fa cd T rm S => ?_)
  have hl : (ns.map PyData.int).length < 2 ^ 62 := by simp; (first | lia | omega)
  have e : wayF ns k m = (cell ns k * 48271 + 7919 * ((ns.map PyData.int).length : Int)) % 2147483647 % m := by simp [wayF]
  rw [e]
  exact run_ret (ev_mod (ev_mod (ev_add (ev_mul (ev_calld S T rm (f_cell hc B h0 h1 hn) (evl_cons (ev_var S rfl) (evl_cons (ev_var S rfl) evl_nil))) ev_int (by walk_at "mul")) (ev_mul ev_int (ev_lenl S T B (ev_var S rfl) hl) (by walk_at "mul"))) ev_int (by decide)) (ev_var S rfl) hm) fun v h' _ r => Rf.of_flat rfl r

theorem f_whole (B : Bn c) {d : PyData} : FnD c 1 "_law_whole" [d] (.bool (isInt d)) := by
  have hdef := def_at (f := "_law_whole") hc 17 rfl rfl rfl (by kernel_rfl)
  refine fn1 (x1 := "_law_found") hdef rf_old (by intros; rfl) (fun A g h L fa cd T rm S => ?_)
  have e : isInt d = (isiB d "int" && !isiB d "bool") := by cases d <;> rfl
  rw [e]
  exact run_ret (ev_bop (bo_and (ev_isi S T B (ev_var S rfl)) fun _ => (bo_last (ev_not (ev_isi S T B (ev_var S rfl)))))) fun v h' _ r => Rf.of_flat rfl r

theorem f_shared {a b : Int} (ha : 0 ≤ a) (hb : 0 ≤ b) : FnD c 1 "_law_shared" [.int a, .int b] (.int (Int.gcd a b)) := by
  have hdef := def_at (f := "_law_shared") hc 18 rfl rfl rfl (by kernel_rfl)
  refine fn2 (x1 := "_law_one") (x2 := "_law_other") hdef rf_old (by intros; rfl) (fun A g h L fa cd T rm S => ?_)
  refine run_while (fun n ρ μ => ∃ a' b' : Int, 0 ≤ a' ∧ 0 ≤ b' ∧ n = b'.toNat ∧ μ = none ∧ ρ = ([("_law_one", .int a'), ("_law_other", .int b')] : Locs) ∧ Int.gcd a' b' = Int.gcd a b) b.toNat S ⟨a, b, ha, hb, rfl, rfl, rfl, rfl⟩ ?_
  rintro n ρ μ h ⟨a', b', ha', hb', rfl, rfl, rfl, hg⟩ S
  refine ⟨_, tr_icmp (ev_var S rfl) ev_int rfl, fun e h' S => ?_, fun e h' S => ?_⟩
  · have hpos : 0 < b' := by simpa using e
    refine run_swap2 rm.hd S (evl_cons (ev_var S rfl) (evl_cons (ev_mod (ev_var S rfl) (ev_var S rfl) hpos) evl_nil)) fun h' S => ?_
    refine run_nil ⟨_, _, _, ?_, ⟨b', a' % b', by (first | lia | omega), Int.emod_nonneg _ (by (first | lia | omega)), rfl, rfl, rfl, ?_⟩, S.pick ⟨rfl, rfl, trivial⟩⟩
    · have := Int.emod_lt_of_pos a' hpos
      (first | lia | omega)
    · rw [← hg]; exact gcd_step hpos
  · have h0 : b' = 0 := by
      have : ¬ (b' > 0) := by simpa using e
      (first | lia | omega)
    subst h0
    refine run_ret (ev_var S rfl) fun v h' k r => Rf.of_flat rfl ?_
    have : (a' : Int) = (Int.gcd a b : Int) := by rw [← hg]; simp; (first | lia | omega)
    rw [← this]; exact r

theorem f_frac {a b : Int} (ha : 0 ≤ a) (hb : 1 ≤ b) {n : Nat} (sb : Sz n b) (hn : n ≤ 250) : FnD c 2 "_law_frac" [.int a, .int b] (.tuple [.int (a / (Int.gcd a b : Int)), .int (b / (Int.gcd a b : Int))]) := by
  have hdef := def_at (f := "_law_frac") hc 19 rfl rfl rfl (by kernel_rfl)
  refine fn2 (x1 := "_law_upper") (x2 := "_law_lower") hdef rf_old (by intros; rfl) (fun A g h L fa cd T rm S => ?_)
  refine run_set S (ev_calld S T rm (f_shared hc ha (by (first | lia | omega))) (evl_cons (ev_var S rfl) (evl_cons (ev_var S rfl) evl_nil))) fun h S => ?_
  have hg := gcd_pos (a := a) hb
  have hg2 : (Int.gcd a b : Int) < 10 ^ 250 := div_ok (sb.le (by (first | lia | omega)) (gcd_le hb)) hn
  exact run_ret (ev_tup (evl_cons (ev_div (ev_var S rfl) (ev_var S rfl) (by (first | lia | omega)) hg2) (evl_cons (ev_div (ev_var S rfl) (ev_var S rfl) (by (first | lia | omega)) hg2) evl_nil))) fun v h' _ r => Rf.of_flat rfl r

omit hc in
theorem ge_of {a : Int} (e : decide (a ≥ 0) = true) : 0 ≤ a := by simpa using e
omit hc in
theorem ge_of1 {a : Int} (e : decide (a ≥ 1) = true) : 0 ≤ a := by have h : a ≥ 1 := of_decide_eq_true e; (first | lia | omega)
/-- is a pair of ints a fraction in lowest terms? -/
def fracB (a b : Int) : Bool := decide (a ≥ 0) && (decide (b ≥ 1) && ((Int.gcd a b : Int) == 1))
theorem f_is_frac (B : Bn c) {a b : Int} : FnD c 2 "_law_is_frac" [.tuple [.int a, .int b]] (.bool (fracB a b)) := by
  have hdef := def_at (f := "_law_is_frac") hc 20 rfl rfl rfl (by kernel_rfl)
  refine fn1 (x1 := "_law_found") hdef rf_old (by intros; rfl) (fun A g h L fa cd T rm S => ?_)
  refine run_if S (tr_bool (all_or (tr_not (tr_val (ev_isi S T B (ev_var S rfl)))) fun _ => (all_or (tr_icmp (ev_lent S T B (ev_var S rfl) (by walk_at "len")) ev_int rfl) fun _ => all_or_nil))) (fun e h S => by simp [isiB] at e) (fun e h S => run_nil ?_)
  refine run_if S (tr_bool (all_or (tr_not (tr_val (ev_calld S T rm (f_whole hc B) (evl_cons (ev_tidx (ev_var S rfl) ev_int) evl_nil)))) fun _ => (all_or (tr_not (tr_val (ev_calld S T rm (f_whole hc B) (evl_cons (ev_tidx (ev_var S rfl) ev_int) evl_nil)))) fun _ => all_or_nil))) (fun e h S => by simp [isInt] at e) (fun e h S => run_nil ?_)
  refine run_ret (ev_bop (bo_and (ev_icmp (ev_tidx (ev_var S rfl) ev_int) ev_int rfl) fun e1 => bo_and (ev_icmp (ev_tidx (ev_var S rfl) ev_int) ev_int rfl) fun e2 => bo_last (ev_icmp (ev_calld S T rm (f_shared hc (ge_of e1) (ge_of1 e2)) (evl_cons (ev_tidx (ev_var S rfl) ev_int) (evl_cons (ev_tidx (ev_var S rfl) ev_int) evl_nil))) ev_int rfl))) fun v h' _ r => Rf.of_flat rfl r
omit hc in
theorem fracB_true {a b : Int} (ha : 0 ≤ a) (hb : 1 ≤ b) (hg : Int.gcd a b = 1) : fracB a b = true := by simp [fracB, ha, hb, hg]
/-- a fraction: its two parts in order -/
structure Fr2 (n : Nat) (a b : Int) : Prop where
  lo : 0 ≤ a
  up : 1 ≤ b
  co : Int.gcd a b = 1
  sa : Sz n a
  sb : Sz n b
theorem f_frac_ex {a b : Int} (ha : 0 ≤ a) (hb : 1 ≤ b) {n : Nat} (sa : Sz n a) (sb : Sz n b) (hn : n ≤ 250) : ∃ a' b' : Int, FnD c 2 "_law_frac" [.int a, .int b] (.tuple [.int a', .int b']) ∧ Fr2 n a' b' ∧ a' * b = a * b' := by
  obtain ⟨p1, p2, p3, p4, p5, p6, p7⟩ := low_props ha hb
  refine ⟨_, _, f_frac hc ha hb sb hn, ⟨p1, p2, p3, sa.le p1 p4, sb.le (by (first | lia | omega)) p5⟩, ?_⟩
  generalize ha' : a / (Int.gcd a b : Int) = a' at *
  generalize hb' : b / (Int.gcd a b : Int) = b' at *
  generalize (Int.gcd a b : Int) = g at *
  rw [← p7, ← p6]; grind

theorem f_less {a b a' b' : Int} {n : Nat} (s1 : Sz n a) (s2 : Sz n b) (s3 : Sz n a') (s4 : Sz n b') (hn : n ≤ 1000) : FnD c 1 "less" [.tuple [.int a, .int b], .tuple [.int a', .int b']] (.bool (decide (a * b' < a' * b))) := by
  have hdef := def_at (f := "less") hc 10 rfl rfl rfl (by kernel_rfl)
  refine fn2 (x1 := "one") (x2 := "other") hdef rf_old (by intros; rfl) (fun A g h L fa cd T rm S => ?_)
  exact run_ret (ev_icmp (ev_mul (ev_tidx (ev_var S rfl) ev_int) (ev_tidx (ev_var S rfl) ev_int) (mul_ok s1 s4 hn hn)) (ev_mul (ev_tidx (ev_var S rfl) ev_int) (ev_tidx (ev_var S rfl) ev_int) (mul_ok s3 s2 hn hn)) rfl) fun v h' _ r => Rf.of_flat rfl r

omit hc in
theorem Fr2.mono {n m : Nat} {a b : Int} (f : Fr2 n a b) (h : n ≤ m) : Fr2 m a b := ⟨f.lo, f.up, f.co, f.sa.mono h, f.sb.mono h⟩

theorem f_need_bounds {a b c' d : Int} {n : Nat} (s1 : Sz n a) (s2 : Sz n b) (s3 : Sz n c') (s4 : Sz n d) (hn : n ≤ 1000) (h : a * d ≤ c' * b) : FnD c 2 "need_bounds" [PD a b, PD c' d] .none := by
  have hdef := def_at (f := "need_bounds") hc 12 rfl rfl rfl (by kernel_rfl)
  refine fn2 (x1 := "low") (x2 := "high") hdef rf_old (by intros; rfl) (fun A g h L fa cd T rm S => ?_)
  refine run_if S (tr_val (ev_calld S T rm (f_less hc s3 s4 s1 s2 hn) (evl_cons (ev_var S rfl) (evl_cons (ev_var S rfl) evl_nil)))) (fun e h S => by simp at e; (first | lia | omega)) (fun e h S => run_nil (run_nil ?_))
  exact Rf.of_flat rfl ⟨_, .none⟩

theorem f_need_bounds_r {K : Frag} {C D : Addr} (eN : EU K "NoBounds" C D) {a b c' d : Int} {n : Nat} (s1 : Sz n a) (s2 : Sz n b) (s3 : Sz n c') (s4 : Sz n d) (hn : n ≤ 1000) (h : c' * b < a * d) : FnR c K 2 "need_bounds" [PD a b, PD c' d] C := by
  have hdef := (def_at (f := "need_bounds") hc 12 rfl rfl rfl (by kernel_rfl))
  refine fnr2 (x1 := "low") (x2 := "high") hdef (by intros; rfl) (fun A base outer g h L fa cd PT rm S => ?_)
  have T := PT.t
  refine run_if S (tr_val (ev_calld S T rm (f_less hc s3 s4 s1 s2 hn) (evl_cons (ev_var S rfl) (evl_cons (ev_var S rfl) evl_nil)))) (fun e h S => run_raise S T PT.k eN.ec rm.hd ev_str) (fun e h S => by simp at e; (first | lia | omega))

theorem f_simplest (B : Bn c) {a b c' d c0 : Int} {ps : List Int} (hb : Bd a b c' d) (R : CF a b c' d ps c0) (s1 : Sz 69 a) (s2 : Sz 69 b) (s3 : Sz 69 c') (s4 : Sz 69 d) : FnD c 3 "simplest" [PD a b, PD c' d] (PD (cfv ps c0).1 (cfv ps c0).2) := by
  have hlen : ps.length < 502 := cf_short R hb (by have := s1.2; have := s2.2; (first | lia | omega))
  have okc0 := cf_okc R hb
  have sm := cf_main R hb
  obtain ⟨mx, my⟩ := sm.mn a b hb.b1 (Int.le_refl _) hb.le
  have zsum : Sz 70 ((cfv ps c0).1 + (cfv ps c0).2) := (s1.add s2).le (by have := sm.u0; have := sm.l1; (first | lia | omega)) (by (first | lia | omega))
  have hdef := def_at (f := "simplest") hc 13 rfl rfl rfl (by kernel_rfl)
  refine fn2 (x1 := "low") (x2 := "high") hdef rf_old (by intros; rfl) (fun A g h L fa cd T rm S => ?_)
  refine run_expr (ev_calld S T rm (f_need_bounds hc s1 s2 s3 s4 (by decide) hb.le) (evl_cons (ev_var S rfl) (evl_cons (ev_var S rfl) evl_nil))) fun v h k _ => ?_
  have S := S.keep k
  refine run_own S (ev_list evl_nil) fun l h S => ?_
  refine run_while (fun n ρ μ => ∃ (dn rs : List Int) (a b c' d : Int), ps = dn ++ rs ∧ Bd a b c' d ∧ CF a b c' d rs c0 ∧ Sz 69 a ∧ Sz 69 b ∧ Sz 69 c' ∧ Sz 69 d ∧ n = rs.length ∧ μ = (some ("parts", l, dn.map PyData.int) : Mut) ∧ ρ = ([("low", PD a b), ("high", PD c' d)] : Locs)) ps.length (S.pick (ρ' := [("low", PD a b), ("high", PD c' d)]) ⟨rfl, rfl, trivial⟩) ⟨[], ps, a, b, c', d, rfl, hb, R, s1, s2, s3, s4, rfl, rfl, rfl⟩ ?_
  rintro n ρ μ h ⟨dn, rs, a, b, c', d, hp, hbd, r, t1, t2, t3, t4, rfl, rfl, rfl⟩ S
  have hb1 := hbd.b1
  have hd1 := hbd.d1
  refine ⟨_, (tr_bool (all_and (tr_icmp (ev_mod (ev_tidx (ev_var S rfl) ev_int) (ev_tidx (ev_var S rfl) ev_int) (by walk_at "pos")) ev_int rfl) fun _ => (all_and (tr_icmp (ev_div (ev_tidx (ev_var S rfl) ev_int) (ev_tidx (ev_var S rfl) ev_int) (by walk_at "pos") (by walk_at "small")) (ev_div (ev_tidx (ev_var S rfl) ev_int) (ev_tidx (ev_var S rfl) ev_int) (by walk_at "pos") (by walk_at "small")) rfl) fun _ => all_and_nil))), fun e h S => ?_, fun e h S => ?_⟩
  · cases r with
    | stop hs =>
      exfalso
      simp only [Bool.and_true, Bool.and_eq_true, bne_iff_ne, ne_eq, beq_iff_eq] at e
      rcases hs with q | q
      · exact e.1 q
      · exact q e.2
    | @step _ _ _ _ rs' _ h1 h2 r' =>
      obtain ⟨hbd', q1, q2, q3⟩ := hbd.turn h1 h2
      have hdl : dn.length < 502 := by rw [hp] at hlen; simp at hlen; (first | lia | omega)
      have hdec : rs'.length < (a / b :: rs').length := by simp
      have sk : Sz 69 (a / b) := t1.le q3 (Int.ediv_le_self _ hbd.a0)
      have u2 : Sz 69 (c' - a / b * d) := t4.le (by have := hbd'.b1; (first | lia | omega)) (by (first | lia | omega))
      have u4 : Sz 69 (a - a / b * b) := t2.le (by have := hbd'.d1; (first | lia | omega)) (by (first | lia | omega))
      refine run_set S (ev_div (ev_tidx (ev_var S rfl) ev_int) (ev_tidx (ev_var S rfl) ev_int) (by walk_at "pos") (by walk_at "small")) fun h S => ?_
      generalize a / b = k at *
      refine run_append S (ev_var S rfl) rfl (.head _) (by simp; (first | lia | omega)) fun h S => ?_
      refine run_set S (ev_tup (evl_cons (ev_tidx (ev_var S rfl) ev_int) (evl_cons (ev_sub (ev_tidx (ev_var S rfl) ev_int) (ev_mul (ev_var S rfl) (ev_tidx (ev_var S rfl) ev_int) (by walk_at "mul"))) evl_nil))) fun h S => ?_
      refine run_set S (ev_tup (evl_cons (ev_tidx (ev_var S rfl) ev_int) (evl_cons (ev_sub (ev_tidx (ev_var S rfl) ev_int) (ev_mul (ev_var S rfl) (ev_tidx (ev_var S rfl) ev_int) (by walk_at "mul"))) evl_nil))) fun h S => ?_
      refine run_set S (ev_var S rfl) fun h S => run_nil ⟨rs'.length, _, _, hdec, ⟨dn ++ [k], rs', d, c' - k * d, b, a - k * b, by rw [hp]; simp, hbd', r', t4, u2, t2, u4, rfl, by simp, rfl⟩, S.pick ⟨rfl, rfl, trivial⟩⟩
  · cases r with
    | @step _ _ _ _ rs' _ h1 h2 r' =>
      exfalso
      simp [h1, h2] at e
    | stop hs =>
      rw [List.append_nil] at hp
      subst hp
      refine run_set S (ev_div (ev_sub (ev_add (ev_tidx (ev_var S rfl) ev_int) (ev_tidx (ev_var S rfl) ev_int)) ev_int) (ev_tidx (ev_var S rfl) ev_int) (by walk_at "pos") (by walk_at "small")) fun h S => ?_
      generalize (a + b - 1) / b = c0 at *
      refine run_set S ev_int fun h S => ?_
      refine run_sub (Ws := []) ?_ (fun b hb => nomatch hb)
      have edr : ps.drop (ps.length - 0) = [] := by simp
      refine run_for (fun i ρ μ => i ≤ ps.length ∧ μ = (some ("parts", l, ps.map PyData.int) : Mut) ∧ ρ = ([("upper", .int (cfv (ps.drop (ps.length - i)) c0).1), ("lower", .int (cfv (ps.drop (ps.length - i)) c0).2)] : Locs)) (S.pick (ρ' := [("upper", .int (cfv (ps.drop (ps.length - 0)) c0).1), ("lower", .int (cfv (ps.drop (ps.length - 0)) c0).2)]) ⟨by rw [edr]; rfl, by rw [edr]; rfl, trivial⟩) (iter_rev S T B rm.hd) ⟨Nat.zero_le _, rfl, rfl⟩ (w_hold S wok_nil) ?_ ?_ ?_ ?_
      · rintro i x ρ μ h hd ⟨hi0, rfl, rfl⟩ S
        have hi : i < ps.length := by
          have := List.getElem?_eq_some_iff.mp hd
          obtain ⟨h, _⟩ := this
          simpa using h
        have hx : ∃ k, ps[ps.length - 1 - i]? = some k ∧ x = .int k := by
          rw [List.getElem?_reverse (by simpa using hi)] at hd
          simp only [List.length_map, List.getElem?_map, Option.map_eq_some_iff] at hd
          obtain ⟨k, q, rfl⟩ := hd
          exact ⟨k, q, rfl⟩
        obtain ⟨k, hk, rfl⟩ := hx
        have e1 : ps.length - 1 - i + 1 = ps.length - i := by (first | lia | omega)
        have e2 : ps.length - (i + 1) = ps.length - 1 - i := by (first | lia | omega)
        have hdrop := drop_at hk
        rw [e1] at hdrop
        obtain ⟨o1, o2⟩ := okc_drop okc0 (ps.length - 1 - i)
        obtain ⟨o3, o4⟩ := okc_drop okc0 (ps.length - i)
        obtain ⟨p1, p2⟩ := okc_pos o3
        rw [hdrop] at o1 o2
        obtain ⟨p3, p4⟩ := okc_pos o1
        have pk := okc_part o1
        have z1 : Sz 70 (cfv (ps.drop (ps.length - i)) c0).1 := zsum.le p1 (by (first | lia | omega))
        have z2 : Sz 70 k := zsum.le o1.1 (by (first | lia | omega))
        have hgoal : (cfv (ps.drop (ps.length - (i + 1))) c0) = (k * (cfv (ps.drop (ps.length - i)) c0).1 + (cfv (ps.drop (ps.length - i)) c0).2, (cfv (ps.drop (ps.length - i)) c0).1) := by rw [e2, hdrop]; rfl
        refine run_set S (ev_add (ev_mul (ev_var S rfl) (ev_var S rfl) (by walk_at "mul")) (ev_var S rfl)) fun h S => ?_
        refine run_set S (ev_var S rfl) fun h S => ?_
        refine run_set S (ev_var S rfl) fun h S => run_nil ⟨_, _, ⟨by (first | lia | omega), rfl, rfl⟩, ?_⟩
        rw [hgoal]
        exact S.pick ⟨rfl, rfl, trivial⟩
      · rintro ρ μ h ⟨_, rfl, rfl⟩ S
        have e0 : ps.length - (ps.map PyData.int).reverse.length = 0 := by simp
        rw [e0, List.drop_zero] at S
        exact run_ret (ev_tup (evl_cons (ev_var S rfl) (evl_cons (ev_var S rfl) evl_nil))) fun v h' _ r => Rf.of_flat rfl r
      · intro d hd
        simp only [List.mem_reverse, List.mem_map] at hd
        obtain ⟨k, _, rfl⟩ := hd
        rfl
      · rintro i ρ μ ⟨_, rfl, rfl⟩ q' e
        cases e
        dsimp only
        decide

theorem f_simplest_r {K : Frag} {C D : Addr} (eN : EU K "NoBounds" C D) {a b c' d : Int} {n : Nat} (s1 : Sz n a) (s2 : Sz n b) (s3 : Sz n c') (s4 : Sz n d) (hn : n ≤ 1000) (hlt : c' * b < a * d) : FnR c K 3 "simplest" [PD a b, PD c' d] C := by
  have hdef := (def_at (f := "simplest") hc 13 rfl rfl rfl (by kernel_rfl))
  refine fnr2 (x1 := "low") (x2 := "high") hdef (by intros; rfl) (fun A base outer g h L fa cd PT rm S => ?_)
  exact run_exprx (ev_callr S PT rm (f_need_bounds_r hc eN s1 s2 s3 s4 hn hlt) (evl_cons (ev_var S rfl) (evl_cons (ev_var S rfl) evl_nil)))

theorem f_alone (B : Bn c) {K : Frag} {C : Addr} {y : Str} {b1 b2 b3 b4 b5 b6 b7 : Bool} (OC : EC K y C) (i1 : EI K C "NoFraction" b1) (i2 : EI K C "NoPath" b2) (i3 : EI K C "NoBounds" b3) (i4 : EI K C "NoRoom" b4) (i5 : EI K C "Unsure" b5) (i6 : EI K C "NoText" b6) (i7 : EI K C "NoNumber" b7)
    (hcnt : (PySem.Spec.countIn (.bool true) [.bool b1, .bool b2, .bool b3, .bool b4, .bool b5, .bool b6, .bool b7] == 1) = true) : FnV c K 1 "_law_alone" C true := by
  have hdef := (def_at (f := "_law_alone") hc 24 rfl rfl rfl (by kernel_rfl))
  refine fnv1 (n := 0) (x1 := "_law_e") hdef (by intros; rfl) (fun A g h L fa e cd T KX V I => ?_)
  have I1 := V.ex I
  refine runv_own V.st V (ev_list (evl_cons (ev_isk T B KX V I1 OC i1) (evl_cons (ev_isk T B KX V I1 OC i2) (evl_cons (ev_isk T B KX V I1 OC i3) (evl_cons (ev_isk T B KX V I1 OC i4) evl_nil))))) fun l h2 S V => ?_
  have I2 := V.ex I
  refine runv_own (S.freeze.pick (ρ' := []) trivial) V (ev_addl (ev_mut S) ((ev_list (evl_cons (ev_isk T B KX V I2 OC i5) (evl_cons (ev_isk T B KX V I2 OC i6) (evl_cons (ev_isk T B KX V I2 OC i7) evl_nil)))).mono fun _ _ _ r => r.rd) (by simp only [List.length_cons, List.length_nil]; decide)) fun l h2 S V => ?_
  have I3 := V.ex I
  refine run_ret (ev_bop (bo_and (ev_icmp (ev_countT S rfl) ev_int rfl) fun _ => bo_last (ev_isv T B KX V I3 OC))) fun v h' _ r => ?_
  have e : (PySem.Spec.countIn (.bool true) ([.bool b1, .bool b2, .bool b3, .bool b4] ++ [.bool b5, .bool b6, .bool b7]) == 1 && true) = true := by simpa using hcnt
  rw [e] at r; exact r

theorem f_number {cl wv : Int} (h0 : 0 ≤ wv) (h1 : wv < 4) : ∃ u : Int, FnD c 1 "_law_number" [.int cl, .int wv] (.int u) ∧ 0 ≤ u ∧ u < 10 ^ 28 := by
  have key : ∃ m : Int, ([PyData.int 30, .int 1000, .int (10 ^ (6 : Int).toNat), .int (10 ^ (28 : Int).toNat)] : List PyData)[wv.toNat]? = some (.int m) ∧ 0 < m ∧ m ≤ 10 ^ 28 := by
    have : wv = 0 ∨ wv = 1 ∨ wv = 2 ∨ wv = 3 := by (first | lia | omega)
    rcases this with rfl | rfl | rfl | rfl
    · exact ⟨30, rfl, by decide +kernel, by decide +kernel⟩
    · exact ⟨1000, rfl, by decide +kernel, by decide +kernel⟩
    · exact ⟨10 ^ 6, rfl, by decide +kernel, by decide +kernel⟩
    · exact ⟨10 ^ 28, rfl, by decide +kernel, by decide +kernel⟩
  obtain ⟨m, hm, hp, hs⟩ := key
  have e1 := Int.emod_nonneg cl (b := m) (by (first | lia | omega))
  have e2 := Int.emod_lt_of_pos cl hp
  refine ⟨cl % m, ?_, e1, Int.lt_of_lt_of_le e2 hs⟩
  have hdef := def_at (f := "_law_number") hc 21 rfl rfl rfl (by kernel_rfl)
  refine fn2 (x1 := "_law_cell") (x2 := "_law_way_here") hdef rf_old (by intros; rfl) (fun A g h L fa cd T rm S => ?_)
  exact run_ret (ev_mod (ev_var S rfl) (ev_lidx ((ev_list (evl_cons ev_int (evl_cons ev_int (evl_cons (ev_pow ev_int ev_int (by decide) (by decide) (by decide)) (evl_cons (ev_pow ev_int ev_int (by decide) (by decide) (by decide)) evl_nil))))).mono fun _ _ _ r => r.rd) (ev_var S rfl) hm h0 (by (first | lia | omega))) hp) fun v h' _ r => Rf.of_flat rfl r

theorem f_drawn (B : Bn c) {ns : List Int} {k wv : Int} (hn : ns.length ≤ 63) (h0 : 0 ≤ k) (h1 : k < 1000) (hw : 0 ≤ wv) : ∃ a b : Int, FnD c 3 "_law_drawn" [scr ns, .int k, .int wv] (PD a b) ∧ Fr2 29 a b := by
  obtain ⟨u, fu, hu, su⟩ := f_number hc (cl := cell ns k) (wv := wv % 4) (by (first | lia | omega)) (by (first | lia | omega))
  obtain ⟨l, fl, hl, sl⟩ := f_number hc (cl := cell ns (k + 1)) (wv := wv / 4 % 4) (by (first | lia | omega)) (by (first | lia | omega))
  have s1 : Sz 29 (1 + l) := by constructor <;> (first | lia | omega)
  have s0 : Sz 29 u := by constructor <;> (first | lia | omega)
  obtain ⟨a, b, fab, hf, _⟩ := f_frac_ex hc (a := u) (b := 1 + l) (by (first | lia | omega)) (by (first | lia | omega)) s0 s1 (by decide)
  refine ⟨a, b, ?_, hf⟩
  have hdef := def_at (f := "_law_drawn") hc 22 rfl rfl rfl (by kernel_rfl)
  refine fn3 (x1 := "_law_script") (x2 := "_law_first") (x3 := "_law_way_here") hdef rf_old (by intros; rfl) (fun A g h L fa cd T rm S => ?_)
  refine run_set S (ev_calld S T rm (fu) (evl_cons (ev_calld S T rm (f_cell hc B h0 (by (first | lia | omega)) hn) (evl_cons (ev_var S rfl) (evl_cons (ev_var S rfl) evl_nil))) (evl_cons (ev_mod (ev_var S rfl) ev_int (by walk_at "pos")) evl_nil))) fun h S => ?_
  refine run_set S (ev_add ev_int (ev_calld S T rm (fl) (evl_cons (ev_calld S T rm (f_cell hc B (by (first | lia | omega)) (by (first | lia | omega)) hn) (evl_cons (ev_var S rfl) (evl_cons (ev_add (ev_var S rfl) ev_int) evl_nil))) (evl_cons (ev_mod (ev_div (ev_var S rfl) ev_int (by walk_at "pos") (by walk_at "small")) ev_int (by walk_at "pos")) evl_nil)))) fun h S => ?_
  exact run_ret (ev_calld S T rm (fab) (evl_cons (ev_var S rfl) (evl_cons (ev_var S rfl) evl_nil))) fun v h' _ r => Rf.of_flat rfl r

theorem f_none_has {a b c' d y : Int} (s1 : Sz 69 a) (s2 : Sz 69 b) (s3 : Sz 69 c') (s4 : Sz 69 d) (s5 : Sz 69 y) (hb : 1 ≤ b) (hno : ∀ x : Int, a * y ≤ x * b → ¬ x * d ≤ c' * y) : FnD c 1 "_law_none_has" [PD a b, PD c' d, .int y] (.bool true) := by
  have hdef := def_at (f := "_law_none_has") hc 23 rfl rfl rfl (by kernel_rfl)
  refine fn3 (x1 := "_law_low") (x2 := "_law_high") (x3 := "_law_lower") hdef rf_old (by intros; rfl) (fun A g h L fa cd T rm S => ?_)
  refine run_set S (ev_neg (ev_div (ev_mul (ev_neg (ev_tidx (ev_var S rfl) ev_int)) (ev_var S rfl) (by walk_at "mul")) (ev_tidx (ev_var S rfl) ev_int) (by walk_at "pos") (by walk_at "small"))) fun h S => ?_
  have k1 : a * y ≤ -(-a * y / b) * b := by
    have := Int.ediv_mul_le (-a * y) (b := b) (by (first | lia | omega))
    rw [Int.neg_mul]
    have e : -a * y = -(a * y) := Int.neg_mul _ _
    (first | lia | omega)
  have k2 := hno _ k1
  have sz : Sz 139 (-(-a * y / b)) := by
    have z : Sz 138 (-a * y) := s1.neg.mul s5
    have q1 : (-a * y) / b ≤ (-a * y).natAbs := by
      have := Int.ediv_mul_le (-a * y) (b := b) (by (first | lia | omega))
      rcases Int.lt_or_le 0 ((-a * y) / b) with p | p
      · have := Int.mul_le_mul_of_nonneg_left hb (Int.le_of_lt p)
        (first | lia | omega)
      · (first | lia | omega)
    have q2 : -((-a * y).natAbs : Int) - 1 ≤ (-a * y) / b := by
      apply Int.le_ediv_of_mul_le (by (first | lia | omega))
      have : ((-a * y).natAbs : Int) * 1 ≤ (-a * y).natAbs * b := Int.mul_le_mul_of_nonneg_left hb (by (first | lia | omega))
      have e : (-((-a * y).natAbs : Int) - 1) * b = -(((-a * y).natAbs : Int) * b) - b := by rw [Int.sub_mul, Int.neg_mul]; (first | lia | omega)
      (first | lia | omega)
    have q3 := z.natAbs
    have q4 : ((-a * y).natAbs : Int) < 10 ^ 138 := by exact_mod_cast q3
    constructor <;> (first | lia | omega)
  generalize -(-a * y / b) = u at *
  refine run_ret (ev_icmp (ev_mul (ev_var S rfl) (ev_tidx (ev_var S rfl) ev_int) (by walk_at "mul")) (ev_mul (ev_tidx (ev_var S rfl) ev_int) (ev_var S rfl) (by walk_at "mul")) rfl) fun v h' _ r => Rf.of_flat rfl ?_
  rw [decide_eq_true (show u * d > c' * y by (first | lia | omega))] at r; exact r

theorem f_least (B : Bn c) {ns : List Int} (hn : ns.length ≤ 63) {a b c' d u l : Int} (hb : Bd a b c' d) (s : Smp a b c' d u l) (s1 : Sz 68 a) (s2 : Sz 68 b) (s3 : Sz 68 c') (s4 : Sz 68 d) : FnD c 3 "_law_least" [PD u l, PD a b, PD c' d, scr ns] (.bool true) := by
  obtain ⟨m1, m2⟩ := s.mn a b hb.b1 (Int.le_refl _) hb.le
  have hl1 := s.l1
  have hu0 := s.u0
  have hb1 := hb.b1
  have hd1 := hb.d1
  have su : Sz 68 u := s1.le hu0 m1
  have sl : Sz 68 l := s2.le (by (first | lia | omega)) m2
  have nh : ∀ y : Int, 1 ≤ y → y < l → FnD c 1 "_law_none_has" [PD a b, PD c' d, .int y] (.bool true) := fun y h1 h2 =>
    f_none_has hc (s1.mono (by decide)) (s2.mono (by decide)) (s3.mono (by decide)) (s4.mono (by decide)) ((sl.le (by (first | lia | omega)) (by (first | lia | omega))).mono (by decide)) hb1 (fun x q1 q2 => by have := (s.mn x y h1 q1 q2).2; (first | lia | omega))
  have hdef := (def_at (f := "_law_least") hc 26 rfl rfl rfl (by kernel_rfl))
  refine fn4 (x1 := "_law_found") (x2 := "_law_low") (x3 := "_law_high") (x4 := "_law_script") hdef rf_old (by intros; rfl) (fun A g h L fa cd T rm S => ?_)
  refine run_for (fun i ρ μ => ρ = ([("_law_found", PD u l), ("_law_low", PD a b), ("_law_high", PD c' d), ("_law_script", scr ns)] : Locs) ∧ μ = none) S (iter_range2 S T B rm.hd ev_int (ev_min S T B rm.hd ev_int (ev_tidx (ev_var S rfl) ev_int)) (by decide) (by (first | lia | omega)) (w_hold S wok_nil)) ⟨rfl, rfl⟩ (w_hold S wok_nil) ?_ ?_ ?_ ?_
  · rintro i x ρ μ h hd ⟨rfl, rfl⟩ S
    rw [rangeD_at] at hd
    split at hd
    case isFalse => cases hd
    rename_i hi
    cases hd
    exact run_if S (tr_not (tr_val (ev_calld S T rm (nh _ (by (first | lia | omega)) (by (first | lia | omega))) (evl_cons (ev_var S rfl) (evl_cons (ev_var S rfl) (evl_cons (ev_var S rfl) evl_nil)))))) (fun e h S => by simp at e) (fun e h S => run_nil (run_nil ⟨_, _, ⟨rfl, rfl⟩, S.pick ⟨rfl, rfl, rfl, rfl, trivial⟩⟩))
  · rintro ρ μ h ⟨rfl, rfl⟩ S
    refine run_cut (fun h => St g L h [("_law_found", PD u l), ("_law_low", PD a b), ("_law_high", PD c' d), ("_law_script", scr ns)] none) ?_ ?_
    · by_cases hl : 1 < l
      · have g1 := Int.emod_nonneg (cell ns 5) (b := l - 1) (by (first | lia | omega))
        have g2 := Int.emod_lt_of_pos (cell ns 5) (b := l - 1) (by (first | lia | omega))
        exact run_if S (tr_bool (all_and (tr_icmp (ev_tidx (ev_var S rfl) ev_int) ev_int rfl) fun _ => (all_and (tr_not (tr_val (ev_calld S T rm (nh (1 + cell ns 5 % (l - 1)) (by (first | lia | omega)) (by (first | lia | omega))) (evl_cons (ev_var S rfl) (evl_cons (ev_var S rfl) (evl_cons (ev_add ev_int (ev_mod (ev_calld S T rm (f_cell hc B (by decide) (by decide) hn) (evl_cons (ev_var S rfl) (evl_cons ev_int evl_nil))) (ev_sub (ev_tidx (ev_var S rfl) ev_int) ev_int) (by (first | lia | omega)))) evl_nil)))))) fun _ => all_and_nil))) (fun e h S => by simp at e) (fun e h S => run_nil (run_nil ⟨rfl, S⟩))
      · exact run_if S (tr_bool (all_and (b := false) (tr_icmp (ev_tidx (ev_var S rfl) ev_int) ev_int rfl) fun ha => by simp at ha; (first | lia | omega))) (fun e h S => by simp at e) (fun e h S => run_nil (run_nil ⟨rfl, S⟩))
    intro h S
    have w0 := wayF_lo (ns := ns) (k := 9) (m := 16) (by decide)
    have w1 := wayF_hi (ns := ns) (k := 9) (m := 16) (by decide)
    obtain ⟨one, f1, p1, p2⟩ := f_number hc (cl := cell ns 6) (wv := wayF ns 9 16 % 4) (by (first | lia | omega)) (by (first | lia | omega))
    obtain ⟨two, f2, p3, p4⟩ := f_number hc (cl := cell ns 7) (wv := wayF ns 9 16 / 4) (by (first | lia | omega)) (by (first | lia | omega))
    refine run_set S (ev_calld S T rm (f_way hc B (by decide) (by decide) hn (by decide)) (evl_cons (ev_var S rfl) (evl_cons ev_int (evl_cons ev_int evl_nil)))) fun h S => ?_
    refine run_set S (ev_calld S T rm (f1) (evl_cons (ev_calld S T rm (f_cell hc B (by decide) (by decide) hn) (evl_cons (ev_var S rfl) (evl_cons ev_int evl_nil))) (evl_cons (ev_mod (ev_var S rfl) ev_int (by walk_at "pos")) evl_nil))) fun h S => ?_
    refine run_set S (ev_add ev_int (ev_calld S T rm (f2) (evl_cons (ev_calld S T rm (f_cell hc B (by decide) (by decide) hn) (evl_cons (ev_var S rfl) (evl_cons ev_int evl_nil))) (evl_cons (ev_div (ev_var S rfl) ev_int (by walk_at "pos") (by walk_at "small")) evl_nil)))) fun h S => ?_
    have t1 : 1 ≤ 1 + two := by (first | lia | omega)
    have t2 : 1 + two ≤ 10 ^ 28 := by (first | lia | omega)
    generalize 1 + two = w at *
    have so : Sz 29 one := ⟨by (first | lia | omega), by (first | lia | omega)⟩
    have sw : Sz 29 w := ⟨by (first | lia | omega), by (first | lia | omega)⟩
    have x0 : 0 ≤ one * a + w * c' := by
      have := Int.mul_nonneg p1 hb.a0
      have := Int.mul_nonneg (show 0 ≤ w by (first | lia | omega)) hb.c0
      (first | lia | omega)
    have y0 : 1 ≤ one * b + w * d := by
      have := Int.mul_nonneg p1 (show 0 ≤ b by (first | lia | omega))
      have := Int.mul_le_mul t1 hd1 (by (first | lia | omega)) (by (first | lia | omega))
      (first | lia | omega)
    have sx : Sz 98 (one * a + w * c') := (so.mul s1).add (sw.mul s3)
    have sy : Sz 98 (one * b + w * d) := (so.mul s2).add (sw.mul s4)
    obtain ⟨x', y', fo, hfo, eo⟩ := f_frac_ex hc (a := one * a + w * c') (b := one * b + w * d) (n := 98) x0 y0 sx sy (by decide)
    have hin : u ≤ x' ∧ l ≤ y' := by
      have k1 := Int.mul_le_mul_of_nonneg_left hb.le (show 0 ≤ w by (first | lia | omega))
      have k2 := Int.mul_le_mul_of_nonneg_left hb.le p1
      have hy' := hfo.up
      refine s.mn x' y' hy' ?_ ?_
      · have q : a * y' * (one * b + w * d) ≤ x' * b * (one * b + w * d) := by
          have e1 : x' * b * (one * b + w * d) = (x' * (one * b + w * d)) * b := by grind
          rw [e1, eo]
          have e2 : (one * a + w * c') * y' * b - a * y' * (one * b + w * d) = y' * (w * (c' * b) - w * (a * d)) := by grind
          have := Int.mul_nonneg (show 0 ≤ y' by (first | lia | omega)) (show 0 ≤ w * (c' * b) - w * (a * d) by (first | lia | omega))
          (first | lia | omega)
        exact Int.le_of_mul_le_mul_right q (by (first | lia | omega))
      · have q : x' * d * (one * b + w * d) ≤ c' * y' * (one * b + w * d) := by
          have e1 : x' * d * (one * b + w * d) = (x' * (one * b + w * d)) * d := by grind
          rw [e1, eo]
          have e2 : c' * y' * (one * b + w * d) - (one * a + w * c') * y' * d = y' * (one * (c' * b) - one * (a * d)) := by grind
          have := Int.mul_nonneg (show 0 ≤ y' by (first | lia | omega)) (show 0 ≤ one * (c' * b) - one * (a * d) by (first | lia | omega))
          (first | lia | omega)
        exact Int.le_of_mul_le_mul_right q (by (first | lia | omega))
    refine run_set S (ev_calld S T rm (fo) (evl_cons (ev_add (ev_mul (ev_var S rfl) (ev_tidx (ev_var S rfl) ev_int) (by walk_at "mul")) (ev_mul (ev_var S rfl) (ev_tidx (ev_var S rfl) ev_int) (by walk_at "mul"))) (evl_cons (ev_add (ev_mul (ev_var S rfl) (ev_tidx (ev_var S rfl) ev_int) (by walk_at "mul")) (ev_mul (ev_var S rfl) (ev_tidx (ev_var S rfl) ev_int) (by walk_at "mul"))) evl_nil))) fun h S => ?_
    have su1 : Sz 69 (u - 1) := by have := su.1; have := su.2; constructor <;> (first | lia | omega)
    have hpr : ¬ (0 < u ∧ a * l ≤ (u - 1) * b) := by
      rintro ⟨q1, q2⟩
      have q3 : (u - 1) * d ≤ c' * l := by have := s.hi; rw [Int.sub_mul]; (first | lia | omega)
      have := (s.mn (u - 1) l hl1 q2 q3).1
      (first | lia | omega)
    refine run_if S (tr_bool (all_and (tr_icmp (ev_tidx (ev_var S rfl) ev_int) ev_int rfl) fun _ => (all_and (tr_icmp (ev_mul (ev_sub (ev_tidx (ev_var S rfl) ev_int) ev_int) (ev_tidx (ev_var S rfl) ev_int) (by walk_at "mul")) (ev_mul (ev_tidx (ev_var S rfl) ev_int) (ev_tidx (ev_var S rfl) ev_int) (by walk_at "mul")) rfl) fun _ => all_and_nil))) (fun e h S => by simp at e; exact absurd e hpr) (fun e h S => run_nil ?_)
    refine run_ret (ev_bop (bo_or (ev_icmp (ev_tidx (ev_var S rfl) ev_int) (ev_tidx (ev_var S rfl) ev_int) rfl) fun _ => bo_last (ev_bop (bo_and (ev_icmp (ev_tidx (ev_var S rfl) ev_int) (ev_tidx (ev_var S rfl) ev_int) rfl) fun _ => (bo_last (ev_icmp (ev_tidx (ev_var S rfl) ev_int) (ev_tidx (ev_var S rfl) ev_int) rfl)))))) fun v h' _ r => Rf.of_flat rfl ?_
    have e2 : (decide (l < y') || (l == y' && decide (u ≤ x'))) = true := by
      rcases Int.lt_or_eq_of_le hin.2 with q | q
      · simp [q]
      · simp [q, hin.1]
    rw [e2] at r; exact r
  · exact rangeD_flat _ _
  · rintro i ρ μ ⟨rfl, rfl⟩ q' e
    cases e

theorem f_refused (B : Bn c) {K : Frag} {C D : Addr} (eN : EU K "NoBounds" C D) (eF : EC K "FractionError" D) (fv : FnV c K 1 "_law_alone" C true) {a b c' d : Int} (s1 : Sz 69 a) (s2 : Sz 69 b) (s3 : Sz 69 c') (s4 : Sz 69 d) (hlt : c' * b < a * d) : FnC c K 4 "_law_refused" [PD a b, PD c' d] (.bool true) := by
  have hdef := (def_at (f := "_law_refused") hc 25 rfl rfl rfl (by kernel_rfl))
  refine fnc2 (n := 3) (x1 := "_law_low") (x2 := "_law_high") hdef (by intros; rfl) (fun A base outer g h L fa cd PT rm S => ?_)
  refine rc_try S PT eF eN.sub (ev_callr S PT rm (f_simplest_r hc eN s1 s2 s3 s4 (by decide) hlt) (evl_cons (ev_var S rfl) (evl_cons (ev_var S rfl) evl_nil))) (fun x g' h' PT' V I => ?_)
  exact run_ret (ev_bop (bo_and (ev_isx PT'.t B PT'.k V I eN.ec eN.ec eN.self (fun _ => rfl)) fun _ => bo_last (ev_callv PT'.t PT'.k rm.v.mark V I fv))) fun v h2 k r => ⟨v, rfl, r, (V.keep k).st⟩

omit hc in
theorem smp_self {c' d u l : Int} (f : Int.gcd c' d = 1) (hd : 1 ≤ d) (s : Smp c' d c' d u l) : u = c' ∧ l = d := by
  have e : c' * l = u * d := Int.le_antisymm s.lo s.hi
  obtain ⟨m1, m2⟩ := s.mn c' d hd (Int.le_refl _) (Int.le_refl _)
  have hdv := Int.le_of_dvd (by have := s.l1; (first | lia | omega)) (dvd_cross f e)
  have hl : l = d := by (first | lia | omega)
  subst hl
  exact ⟨(Int.eq_of_mul_eq_mul_right (by (first | lia | omega)) e).symm, rfl⟩

theorem f_law (B : Bn c) {K : Frag} {C D : Addr} (eN : EU K "NoBounds" C D) (eF : EC K "FractionError" D) (i1 : EI K C "NoFraction" false) (i2 : EI K C "NoPath" false) (i3 : EI K C "NoBounds" true) (i4 : EI K C "NoRoom" false) (i5 : EI K C "Unsure" false) (i6 : EI K C "NoText" false) (i7 : EI K C "NoNumber" false) {ns : List Int} (hn : ns.length ≤ 63) : FnW c K "law" [scr ns] := by
  have fv := f_alone hc B eN.ec i1 i2 i3 i4 i5 i6 i7 rfl
  have hdef := (def_at (f := "law") hc 27 rfl rfl rfl (by kernel_rfl))
  refine fnw1 (n := 6) (x1 := "_law_script") hdef (by intros; rfl) (fun g h L fa cd PT rm S => ?_)
  have T := PT.t
  have w0 := wayF_lo (ns := ns) (k := 0) (m := 128) (by decide)
  have w8 := wayF_lo (ns := ns) (k := 8) (m := 16) (by decide)
  obtain ⟨a, b, f1, h1⟩ := f_drawn hc B (ns := ns) (k := 1) (wv := wayF ns 0 128) hn (by decide) (by decide) w0
  obtain ⟨g0, g1, f2, h2⟩ := f_drawn hc B (ns := ns) (k := 3) (wv := wayF ns 8 16) hn (by decide) (by decide) w8
  have sa := h1.sa
  have sb := h1.sb
  have sg0 := h2.sa
  have sg1 := h2.sb
  have hb1 := h1.up
  have hg1 := h2.up
  have ha0 := h1.lo
  have hg0 := h2.lo
  have pg : 1 ≤ b * g1 := by
    have := Int.mul_le_mul hb1 hg1 (by (first | lia | omega)) (by (first | lia | omega))
    (first | lia | omega)
  have px : 0 ≤ a * g1 + g0 * b := by
    have := Int.mul_nonneg ha0 (show 0 ≤ g1 by (first | lia | omega))
    have := Int.mul_nonneg hg0 (show 0 ≤ b by (first | lia | omega))
    (first | lia | omega)
  obtain ⟨u0, v0, ff, hff, eff⟩ := f_frac_ex hc (a := a * g1 + g0 * b) (b := b * g1) (n := 60) px pg (((sa.mul sg1).add (sg0.mul sb)).mono (by decide)) ((sb.mul sg1).mono (by decide)) (by decide)
  have hle0 : a * v0 ≤ u0 * b := by
    have q : a * v0 * g1 ≤ u0 * b * g1 := by
      have e1 : u0 * b * g1 = u0 * (b * g1) := Int.mul_assoc _ _ _
      rw [e1, eff]
      have e2 : (a * g1 + g0 * b) * v0 - a * v0 * g1 = g0 * b * v0 := by grind
      have := Int.mul_nonneg (Int.mul_nonneg hg0 (show 0 ≤ b by (first | lia | omega))) (show 0 ≤ v0 by have := hff.up; (first | lia | omega))
      (first | lia | omega)
    exact Int.le_of_mul_le_mul_right q (by (first | lia | omega))
  refine rw_set S (ev_calld S T rm (f_way hc B (by decide) (by decide) hn (by decide)) (evl_cons (ev_var S rfl) (evl_cons ev_int (evl_cons ev_int evl_nil)))) fun h S => ?_
  refine rw_set S (ev_calld S T rm (f1) (evl_cons (ev_var S rfl) (evl_cons ev_int (evl_cons (ev_var S rfl) evl_nil)))) fun h S => ?_
  refine rw_set S (ev_var S rfl) fun h S => ?_
  refine rw_ifJ (fun h => ∃ p q : Int, Fr2 60 p q ∧ a * q ≤ p * b ∧ St g L h [("_law_script", scr ns), ("_law_way_here", .int (wayF ns 0 128)), ("_law_low", PD a b), ("_law_high", PD p q)] none) S (tr_icmp (ev_div (ev_var S rfl) ev_int (by walk_at "pos") (by walk_at "small")) ev_int rfl)
    (fun e h S => run_set S (ev_calld S T rm (f2) (evl_cons (ev_var S rfl) (evl_cons ev_int (evl_cons (ev_calld S T rm (f_way hc B (by decide) (by decide) hn (by decide)) (evl_cons (ev_var S rfl) (evl_cons ev_int (evl_cons ev_int evl_nil)))) evl_nil)))) fun h S => run_set S (ev_calld S T rm (ff) (evl_cons (ev_add (ev_mul (ev_tidx (ev_var S rfl) ev_int) (ev_tidx (ev_var S rfl) ev_int) (by walk_at "mul")) (ev_mul (ev_tidx (ev_var S rfl) ev_int) (ev_tidx (ev_var S rfl) ev_int) (by walk_at "mul"))) (evl_cons (ev_mul (ev_tidx (ev_var S rfl) ev_int) (ev_tidx (ev_var S rfl) ev_int) (by walk_at "mul")) evl_nil))) fun h S => run_nil ⟨rfl, u0, v0, hff, hle0, S.pick ⟨rfl, rfl, rfl, rfl, trivial⟩⟩)
    (fun e h S => run_nil ⟨rfl, a, b, h1.mono (by decide), Int.le_refl _, S.pick ⟨rfl, rfl, rfl, rfl, trivial⟩⟩) ?_
  rintro h ⟨p1, q1, h3, le3, S⟩
  have hdiv : 0 ≤ a / b := Int.ediv_nonneg ha0 (by (first | lia | omega))
  have hdiv2 : a / b ≤ a := Int.ediv_le_self _ ha0
  have hfl : a * 1 ≤ (a / b + 1) * b := by
    have := Int.mul_ediv_add_emod a b
    have := Int.emod_lt_of_pos a (b := b) (by (first | lia | omega))
    rw [Int.add_mul, Int.mul_comm (a / b)]; (first | lia | omega)
  have sdiv : Sz 60 (a / b + 1) := by have := sa.2; constructor <;> (first | lia | omega)
  refine rw_ifJ (fun h => ∃ p q : Int, Fr2 60 p q ∧ a * q ≤ p * b ∧ St g L h [("_law_script", scr ns), ("_law_way_here", .int (wayF ns 0 128)), ("_law_low", PD a b), ("_law_high", PD p q)] none) S (tr_icmp (ev_div (ev_var S rfl) ev_int (by walk_at "pos") (by walk_at "small")) ev_int rfl)
    (fun e h S => run_set S (ev_tup (evl_cons (ev_add (ev_div (ev_tidx (ev_var S rfl) ev_int) (ev_tidx (ev_var S rfl) ev_int) (by walk_at "pos") (by walk_at "small")) ev_int) (evl_cons ev_int evl_nil))) fun h S => run_nil ⟨rfl, _, _, ⟨by (first | lia | omega), by decide, by simp, sdiv, (sz_lit (by decide)).mono (by decide)⟩, hfl, S.pick ⟨rfl, rfl, rfl, rfl, trivial⟩⟩)
    (fun e h S => run_nil ⟨rfl, p1, q1, h3, le3, S⟩) ?_
  rintro h ⟨p, q, hf, hle, S⟩
  have tsa := sa.mono (by decide : 29 ≤ 69)
  have tsb := sb.mono (by decide : 29 ≤ 69)
  have tsp := hf.sa.mono (by decide : 60 ≤ 69)
  have tsq := hf.sb.mono (by decide : 60 ≤ 69)
  have bd : Bd a b p q := ⟨ha0, hb1, hf.lo, hf.up, hle⟩
  have heq : a * q = p * b → a = p ∧ b = q := by
    intro hne
    have d1 := Int.le_of_dvd (by have := hf.up; (first | lia | omega)) (dvd_cross h1.co hne)
    have d2 := Int.le_of_dvd (by (first | lia | omega)) (dvd_cross hf.co hne.symm)
    have hbq : b = q := by (first | lia | omega)
    refine ⟨?_, hbq⟩
    rw [← hbq] at hne
    exact Int.eq_of_mul_eq_mul_right (by (first | lia | omega)) hne
  refine rw_if S (tr_bool (all_and (tr_icmp (ev_div (ev_var S rfl) ev_int (by walk_at "pos") (by walk_at "small")) ev_int rfl) fun _ => (all_and (tr_ne rm (ev_var S rfl) (ev_var S rfl) rfl rfl) fun _ => all_and_nil))) (fun e h S => ?_) (fun e h S => ?_)
  · have hlt : a * q < p * b := by
      rcases Int.lt_or_eq_of_le hle with z | z
      · exact z
      · obtain ⟨z1, z2⟩ := heq z
        rw [PD_eqv, z1, z2] at e
        simp at e
    exact rw_retc S PT rm (f_refused hc B eN eF fv tsp tsq tsa tsb hlt) (evl_cons (ev_var S rfl) (evl_cons (ev_var S rfl) evl_nil))
  obtain ⟨ps, c0, R⟩ := cf_for bd
  have sm := cf_main R bd
  have fs := f_simplest hc B bd R tsa tsb tsp tsq
  have bd2 : Bd p q p q := ⟨hf.lo, hf.up, hf.lo, hf.up, Int.le_refl _⟩
  obtain ⟨ps2, c2, R2⟩ := cf_for bd2
  have sm2 := cf_main R2 bd2
  have fs2 := f_simplest hc B bd2 R2 tsp tsq tsp tsq
  obtain ⟨z1, z2⟩ := smp_self hf.co hf.up sm2
  rw [z1, z2] at fs2
  obtain ⟨m1, m2⟩ := sm.mn a b hb1 (Int.le_refl _) hle
  generalize (cfv ps c0).1 = u at *
  generalize (cfv ps c0).2 = l at *
  have fl := f_least hc B hn bd sm (sa.mono (by decide)) (sb.mono (by decide)) (hf.sa.mono (by decide)) (hf.sb.mono (by decide))
  have ffu := fracB_true sm.u0 sm.l1 sm.co
  have su : Sz 69 u := tsa.le sm.u0 m1
  have sl : Sz 69 l := tsb.le (by have := sm.l1; (first | lia | omega)) m2
  refine rw_run S ?_
  refine run_set S (ev_calld S T rm (fs) (evl_cons (ev_var S rfl) (evl_cons (ev_var S rfl) evl_nil))) fun h S => ?_
  refine run_if S (tr_bool (all_or (tr_not (tr_val (ev_calld S T rm (f_is_frac hc B) (evl_cons (ev_var S rfl) evl_nil)))) fun _ => (all_or (tr_icmp (ev_mul (ev_tidx (ev_var S rfl) ev_int) (ev_tidx (ev_var S rfl) ev_int) (by walk_at "mul")) (ev_mul (ev_tidx (ev_var S rfl) ev_int) (ev_tidx (ev_var S rfl) ev_int) (by walk_at "mul")) rfl) fun _ => (all_or (tr_icmp (ev_mul (ev_tidx (ev_var S rfl) ev_int) (ev_tidx (ev_var S rfl) ev_int) (by walk_at "mul")) (ev_mul (ev_tidx (ev_var S rfl) ev_int) (ev_tidx (ev_var S rfl) ev_int) (by walk_at "mul")) rfl) fun _ => all_or_nil)))) (fun e h S => by have := sm.lo; have := sm.hi; simp [ffu] at e; (first | lia | omega)) (fun e h S => run_nil ?_)
  refine run_if S (tr_bool (all_or (tr_ne rm (ev_calld S T rm (fs2) (evl_cons (ev_var S rfl) (evl_cons (ev_var S rfl) evl_nil))) (ev_var S rfl) rfl rfl) fun _ => (all_or (tr_ne rm (ev_calld S T rm (fs) (evl_cons (ev_var S rfl) (evl_cons (ev_var S rfl) evl_nil))) (ev_var S rfl) rfl rfl) fun _ => all_or_nil))) (fun e h S => by rw [PD_eqv, PD_eqv] at e; simp at e) (fun e h S => run_nil ?_)
  exact run_ret (ev_calld S T rm (fl) (evl_cons (ev_var S rfl) (evl_cons (ev_var S rfl) (evl_cons (ev_var S rfl) (evl_cons (ev_var S rfl) evl_nil))))) fun v h' _ r => r
end
end Mine

open PySem PySem.W PyProof.Rows
set_option maxHeartbeats 8000000 in
theorem PySem.Challenge.cw_uf050018_09_holds : PySem.Challenge.rw_uf050018_09.Holds := by
  w_on
  o_law
  k_head
  (case hw => w_witness2)
  intro w s₀ s₁ mg mb G Y fa o pm cd doc dV kV ho hd hcd hD hmg hg args vals as hpre hlay hrd hwl hlo
  have KX := kIn_of Y
  have T := G.T
  wrow_args hpre hlay hrd hwl hlo
  rename_i ns _ _ _ _ _ _ _ _ _ _ _ _ _ r0 _ _ hcond _
  have hn : ns.length ≤ 63 := by omega
  have hB : Mine.Bn ⟨PySem.Challenge.rw_uf050018_09.row.prog, w, _, _, _, mg, mb⟩ := Mine.bn_of T (by kernel_rfl)
  have eF := (Mine.ec_of KX "FractionError" (by kernel_rfl) (by kernel_rfl) (by kernel_rfl) (by kernel_rfl) (by kernel_rfl) (by kernel_rfl) (by kernel_rfl) (by kernel_rfl) (by kernel_rfl) (by kernel_rfl) (by kernel_rfl) (by kernel_rfl))
  have eN := Mine.eu_of "FractionError" (Mine.ec_of KX "NoBounds" (by kernel_rfl) (by kernel_rfl) (by kernel_rfl) (by kernel_rfl) (by kernel_rfl) (by kernel_rfl) (by kernel_rfl) (by kernel_rfl) (by kernel_rfl) (by kernel_rfl) (by kernel_rfl) (by kernel_rfl)) (by kernel_rfl) (by kernel_rfl)
  have i1 := Mine.ei_of "NoBounds" false (Mine.ec_of KX "NoFraction" (by kernel_rfl) (by kernel_rfl) (by kernel_rfl) (by kernel_rfl) (by kernel_rfl) (by kernel_rfl) (by kernel_rfl) (by kernel_rfl) (by kernel_rfl) (by kernel_rfl) (by kernel_rfl) (by kernel_rfl)) (by kernel_rfl) (by kernel_rfl)
  have i2 := Mine.ei_of "NoBounds" false (Mine.ec_of KX "NoPath" (by kernel_rfl) (by kernel_rfl) (by kernel_rfl) (by kernel_rfl) (by kernel_rfl) (by kernel_rfl) (by kernel_rfl) (by kernel_rfl) (by kernel_rfl) (by kernel_rfl) (by kernel_rfl) (by kernel_rfl)) (by kernel_rfl) (by kernel_rfl)
  have i3 := Mine.ei_of "NoBounds" true (Mine.ec_of KX "NoBounds" (by kernel_rfl) (by kernel_rfl) (by kernel_rfl) (by kernel_rfl) (by kernel_rfl) (by kernel_rfl) (by kernel_rfl) (by kernel_rfl) (by kernel_rfl) (by kernel_rfl) (by kernel_rfl) (by kernel_rfl)) (by kernel_rfl) (by kernel_rfl)
  have i4 := Mine.ei_of "NoBounds" false (Mine.ec_of KX "NoRoom" (by kernel_rfl) (by kernel_rfl) (by kernel_rfl) (by kernel_rfl) (by kernel_rfl) (by kernel_rfl) (by kernel_rfl) (by kernel_rfl) (by kernel_rfl) (by kernel_rfl) (by kernel_rfl) (by kernel_rfl)) (by kernel_rfl) (by kernel_rfl)
  have i5 := Mine.ei_of "NoBounds" false (Mine.ec_of KX "Unsure" (by kernel_rfl) (by kernel_rfl) (by kernel_rfl) (by kernel_rfl) (by kernel_rfl) (by kernel_rfl) (by kernel_rfl) (by kernel_rfl) (by kernel_rfl) (by kernel_rfl) (by kernel_rfl) (by kernel_rfl)) (by kernel_rfl) (by kernel_rfl)
  have i6 := Mine.ei_of "NoBounds" false (Mine.ec_of KX "NoText" (by kernel_rfl) (by kernel_rfl) (by kernel_rfl) (by kernel_rfl) (by kernel_rfl) (by kernel_rfl) (by kernel_rfl) (by kernel_rfl) (by kernel_rfl) (by kernel_rfl) (by kernel_rfl) (by kernel_rfl)) (by kernel_rfl) (by kernel_rfl)
  have i7 := Mine.ei_of "NoBounds" false (Mine.ec_of KX "NoNumber" (by kernel_rfl) (by kernel_rfl) (by kernel_rfl) (by kernel_rfl) (by kernel_rfl) (by kernel_rfl) (by kernel_rfl) (by kernel_rfl) (by kernel_rfl) (by kernel_rfl) (by kernel_rfl) (by kernel_rfl)) (by kernel_rfl) (by kernel_rfl)
  exact Mine.law_endW (c := ⟨PySem.Challenge.rw_uf050018_09.row.prog, w, _, _, _, mg, mb⟩) (Mine.f_law (by kernel_rfl) hB eN eF i1 i2 i3 i4 i5 i6 i7 hn) T KX hmg r0 hg (raisesW_false (fun _ h => nomatch h)) (postW_of rfl rfl (by first | rfl | decide | simp [same] | w_fin))
