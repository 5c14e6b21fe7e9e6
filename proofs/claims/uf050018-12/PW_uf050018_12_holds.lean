import PyProof.Rows.All
import Wide.All
import OpenK.KLine
import Wide.FinOn
import PyProof.Rows.Top
import PyProof.Rows.RowHeap
import PyProof.Rows.Tup
import PyProof.Rows.TupSub
import PyProof.Rows.IntRules
import PyProof.Rows.Nodes
import PyProof.Rows.OwnEval
import PyProof.Rows.CatchSeen
import PyProof.FitsBits
import PyProof.NoPylong
import PyProof.PureInt
import PyProof.StrOps
import PyProof.PlainList
import PyProof.Rules3
import PyProof.TupleIter
import PyProof.IsRules
import PyProof.PassesOwn
import PyProof.ForRange
import PyProof.IsiPairs
import PyProof.IsiSeqPairs
import PyProof.IsiNone
import PyProof.WalkInts
import PyProof.Rows.Exc
import PyProof.Rows.RuleN_abs
import PyProof.Rows.StrTemp
import PyProof.Rows.RuleB_floordiv
import PyProof.Rows.RuleB_small
import PyProof.Rows.SeqMore
import PyProof.Rows.StrRules
import PyProof.Rows.EqDataRows
import PyProof.Rows.Lst
import PyProof.Conv_int_bool
import PyProof.WalksPairs
import PyProof.RangeFor
import PyProof.ForAny
import PyProof.ForAppend
import PyProof.Rows.TupAssign
import PyProof.RulesMatch
import PyProof.Rows.Method
import PyProof.Rows.RuleB_pow
import PyProof.StrLoop
import Wide.Ends
import Wide.BridgeG
import Open.Head
import KE.KTryDeep
import PyProof.ExcArgs
import KE.KIsNot
import PyProof.P3In
import PyProof.Rows.CountFlat
import PyProof.StrBlock
import PyProof.Dict
import PyProof.ListCopy
import PyProof.Rows.Chain
import Open.Pieces
import PySem.Challenge.RW_uf050018_12
set_option Elab.async false
set_option maxRecDepth 100000
set_option linter.all false
namespace Mine

/-- a path: runs, true = to the right -/
abbrev Path := List (Bool × Int)
def okP : Option Bool → Path → Prop
  | _, [] => True
  | a, s :: t => 1 ≤ s.2 ∧ a ≠ some s.1 ∧ okP (some s.1) t
/-- where a path ends, from its first run on -/
def endP : Path → Int × Int
  | [] => (1, 1)
  | (true, m) :: t => ((endP t).1 + m * (endP t).2, (endP t).2)
  | (false, m) :: t => ((endP t).1, (endP t).2 + m * (endP t).1)
structure Q4 where
  l0 : Int
  l1 : Int
  r0 : Int
  r1 : Int
def stepP (q : Q4) : Bool × Int → Q4
  | (true, m) => ⟨q.l0 + m * q.r0, q.l1 + m * q.r1, q.r0, q.r1⟩
  | (false, m) => ⟨q.l0, q.l1, q.r0 + m * q.l0, q.r1 + m * q.l1⟩
def q0 : Q4 := ⟨0, 1, 1, 0⟩
def walkP (p : Path) : Q4 := p.foldl stepP q0

theorem okP_free {a : Option Bool} {p : Path} (h : okP a p) : okP none p := by
  cases p with
  | nil => trivial
  | cons s t => exact ⟨h.1, by simp, h.2.2⟩

theorem end_pos : ∀ {a : Option Bool} {p : Path}, okP a p → 1 ≤ (endP p).1 ∧ 1 ≤ (endP p).2
  | _, [], _ => ⟨by decide, by decide⟩
  | _, (true, m) :: t, h => by
    obtain ⟨a, b⟩ := end_pos h.2.2
    have hm : 1 ≤ m := h.1
    have := Int.mul_nonneg (show 0 ≤ m by (first | lia | omega)) (show 0 ≤ (endP t).2 by (first | lia | omega))
    refine ⟨?_, b⟩
    show 1 ≤ (endP t).1 + m * (endP t).2
    (first | lia | omega)
  | _, (false, m) :: t, h => by
    obtain ⟨a, b⟩ := end_pos h.2.2
    have hm : 1 ≤ m := h.1
    have := Int.mul_nonneg (show 0 ≤ m by (first | lia | omega)) (show 0 ≤ (endP t).1 by (first | lia | omega))
    refine ⟨a, ?_⟩
    show 1 ≤ (endP t).2 + m * (endP t).1
    (first | lia | omega)

theorem end_side : ∀ {w : Bool} {p : Path}, okP (some w) p → if w then (endP p).1 ≤ (endP p).2 else (endP p).2 ≤ (endP p).1
  | w, [], _ => by cases w <;> simp [endP]
  | w, (true, m) :: t, h => by
    obtain ⟨a, b⟩ := end_pos h.2.2
    have hm : 1 ≤ m := h.1
    have hw : w = false := by have := h.2.1; cases w <;> simp_all
    subst hw
    have := Int.mul_le_mul_of_nonneg_right hm (show 0 ≤ (endP t).2 by (first | lia | omega))
    show (endP t).2 ≤ (endP t).1 + m * (endP t).2
    (first | lia | omega)
  | w, (false, m) :: t, h => by
    obtain ⟨a, b⟩ := end_pos h.2.2
    have hm : 1 ≤ m := h.1
    have hw : w = true := by have := h.2.1; cases w <;> simp_all
    subst hw
    have := Int.mul_le_mul_of_nonneg_right hm (show 0 ≤ (endP t).1 by (first | lia | omega))
    show (endP t).1 ≤ (endP t).2 + m * (endP t).1
    (first | lia | omega)

/-- the first run, read off the end -/
theorem end_right {m : Int} {t : Path} {a : Option Bool} (h : okP a ((true, m) :: t)) : (endP ((true, m) :: t)).2 < (endP ((true, m) :: t)).1 ∧ ((endP ((true, m) :: t)).1 - 1) / (endP ((true, m) :: t)).2 = m ∧
    (endP ((true, m) :: t)).1 - m * (endP ((true, m) :: t)).2 = (endP t).1 := by
  obtain ⟨x, y⟩ := end_pos h.2.2
  have hm : 1 ≤ m := h.1
  have hs : (endP t).1 ≤ (endP t).2 := end_side (w := true) h.2.2
  show (endP t).2 < (endP t).1 + m * (endP t).2 ∧ ((endP t).1 + m * (endP t).2 - 1) / (endP t).2 = m ∧ (endP t).1 + m * (endP t).2 - m * (endP t).2 = (endP t).1
  generalize (endP t).1 = u at *
  generalize (endP t).2 = l at *
  have := Int.mul_le_mul_of_nonneg_right hm (show 0 ≤ l by (first | lia | omega))
  refine ⟨by (first | lia | omega), ?_, by (first | lia | omega)⟩
  have e : u + m * l - 1 = (u - 1) + m * l := by (first | lia | omega)
  rw [e, Int.add_mul_ediv_right _ _ (by (first | lia | omega)), Int.ediv_eq_zero_of_lt (by (first | lia | omega)) (by (first | lia | omega))]; (first | lia | omega)
theorem end_left {m : Int} {t : Path} {a : Option Bool} (h : okP a ((false, m) :: t)) : (endP ((false, m) :: t)).1 < (endP ((false, m) :: t)).2 ∧ ((endP ((false, m) :: t)).2 - 1) / (endP ((false, m) :: t)).1 = m ∧
    (endP ((false, m) :: t)).2 - m * (endP ((false, m) :: t)).1 = (endP t).2 := by
  obtain ⟨x, y⟩ := end_pos h.2.2
  have hm : 1 ≤ m := h.1
  have hs : (endP t).2 ≤ (endP t).1 := end_side (w := false) h.2.2
  show (endP t).1 < (endP t).2 + m * (endP t).1 ∧ ((endP t).2 + m * (endP t).1 - 1) / (endP t).1 = m ∧ (endP t).2 + m * (endP t).1 - m * (endP t).1 = (endP t).2
  generalize (endP t).1 = l at *
  generalize (endP t).2 = u at *
  have := Int.mul_le_mul_of_nonneg_right hm (show 0 ≤ l by (first | lia | omega))
  refine ⟨by (first | lia | omega), ?_, by (first | lia | omega)⟩
  have e : u + m * l - 1 = (u - 1) + m * l := by (first | lia | omega)
  rw [e, Int.add_mul_ediv_right _ _ (by (first | lia | omega)), Int.ediv_eq_zero_of_lt (by (first | lia | omega)) (by (first | lia | omega))]; (first | lia | omega)

/-- the path on the other side -/
def flipP (p : Path) : Path := p.map fun s => (!s.1, s.2)
theorem flip_end : ∀ p : Path, endP (flipP p) = ((endP p).2, (endP p).1)
  | [] => rfl
  | (true, m) :: t => by show ((endP (flipP t)).1, (endP (flipP t)).2 + m * (endP (flipP t)).1) = _; rw [flip_end t]; rfl
  | (false, m) :: t => by show ((endP (flipP t)).1 + m * (endP (flipP t)).2, (endP (flipP t)).2) = _; rw [flip_end t]; rfl
theorem flip_ok : ∀ {a : Option Bool} {p : Path}, okP a p → okP (a.map (!·)) (flipP p)
  | _, [], _ => trivial
  | a, s :: t, h => ⟨h.1, by have := h.2.1; cases a with | none => simp | some b => cases b <;> cases hs : s.1 <;> simp_all, flip_ok (a := some s.1) h.2.2⟩
/-- ... of u over l -/
def HasP (u l : Int) : Prop := ∃ p, okP none p ∧ endP p = (u, l) ∧ (u ≤ l → okP (some true) p) ∧ (l ≤ u → okP (some false) p)
theorem HasP.flip {u l : Int} (h : HasP u l) : HasP l u := by
  obtain ⟨p, a, b, c, d⟩ := h
  exact ⟨flipP p, flip_ok a, by rw [flip_end, b], fun q => flip_ok (d q), fun q => flip_ok (c q)⟩
theorem path_step {u l : Int} (hl : 1 ≤ l) (h : l < u) (hg : Int.gcd u l = 1) (ih : ∀ v, 1 ≤ v → v < u → Int.gcd v l = 1 → HasP v l) : HasP u l := by
  have hd := Int.mul_ediv_add_emod (u - 1) l
  have h1 := Int.emod_nonneg (u - 1) (b := l) (by (first | lia | omega))
  have h2 := Int.emod_lt_of_pos (u - 1) (b := l) (by (first | lia | omega))
  have hm : 1 ≤ (u - 1) / l := Int.le_ediv_of_mul_le (by (first | lia | omega)) (by (first | lia | omega))
  generalize (u - 1) / l = m at *
  have hpos := Int.mul_le_mul_of_nonneg_left hm (show 0 ≤ l by (first | lia | omega))
  have hg' : Int.gcd (u - l * m) l = 1 := by rw [Int.gcd_comm, Int.gcd_sub_mul_left_right, Int.gcd_comm]; exact hg
  obtain ⟨t, ok, en, ok2, _⟩ := ih (u - l * m) (by (first | lia | omega)) (by (first | lia | omega)) hg'
  have hok := ok2 (by (first | lia | omega))
  refine ⟨(true, m) :: t, ⟨hm, by simp, hok⟩, ?_, fun q => by (first | lia | omega), fun _ => ⟨hm, by simp, hok⟩⟩
  show ((endP t).1 + m * (endP t).2, (endP t).2) = (u, l)
  rw [en]; simp only [Prod.mk.injEq, and_true]; rw [Int.mul_comm m l]; (first | lia | omega)
/-- every fraction in lowest terms has a path -/
theorem path_exists : ∀ (n : Nat) (u l : Int), 1 ≤ u → 1 ≤ l → Int.gcd u l = 1 → (u + l).toNat ≤ n → HasP u l
  | 0, u, l, hu, hl, _, hn => by (first | lia | omega)
  | n + 1, u, l, hu, hl, hg, hn => by
    rcases Int.lt_trichotomy u l with h | h | h
    · exact (path_step hu h (by rw [Int.gcd_comm]; exact hg) fun v h1 h2 h3 => (path_exists n u v hu h1 (by rw [Int.gcd_comm]; exact h3) (by (first | lia | omega))).flip).flip
    · subst h
      have : u = 1 := by
        have : (Int.gcd u u : Int) = u := by simp [Int.gcd_self]; (first | lia | omega)
        (first | lia | omega)
      subst this
      exact ⟨[], trivial, rfl, fun _ => trivial, fun _ => trivial⟩
    · exact path_step hl h hg fun v h1 h2 h3 => path_exists n v l h1 hl h3 (by (first | lia | omega))
theorem path_for {u l : Int} (hu : 1 ≤ u) (hl : 1 ≤ l) (hg : Int.gcd u l = 1) : ∃ p, okP none p ∧ endP p = (u, l) := let ⟨p, a, b, _⟩ := path_exists _ u l hu hl hg (Nat.le_refl _); ⟨p, a, b⟩

theorem stepR (u l m r x : Int) : (u + m * l) * r + l * x = u * r + l * (x + m * r) := by grind
theorem stepL (u l m r x : Int) : u * r + (l + m * u) * x = u * (r + m * x) + l * x := by grind
/-- what stands between while a path is walked -/
theorem walk_end : ∀ (p : Path) (q : Q4), (p.foldl stepP q).l0 + (p.foldl stepP q).r0 = (endP p).1 * q.r0 + (endP p).2 * q.l0 ∧ (p.foldl stepP q).l1 + (p.foldl stepP q).r1 = (endP p).1 * q.r1 + (endP p).2 * q.l1
  | [], q => by simp [endP]; (first | lia | omega)
  | (true, m) :: t, q => ⟨(walk_end t (stepP q (true, m))).1.trans (stepR (endP t).1 (endP t).2 m q.r0 q.l0).symm, (walk_end t (stepP q (true, m))).2.trans (stepR (endP t).1 (endP t).2 m q.r1 q.l1).symm⟩
  | (false, m) :: t, q => ⟨(walk_end t (stepP q (false, m))).1.trans (stepL (endP t).1 (endP t).2 m q.r0 q.l0).symm, (walk_end t (stepP q (false, m))).2.trans (stepL (endP t).1 (endP t).2 m q.r1 q.l1).symm⟩
theorem walk_det : ∀ (p : Path) (q : Q4), let q' := p.foldl stepP q; q'.r0 * q'.l1 - q'.l0 * q'.r1 = q.r0 * q.l1 - q.l0 * q.r1
  | [], q => rfl
  | (true, m) :: t, q => by
    have h := walk_det t (stepP q (true, m))
    simp only [List.foldl_cons]
    refine h.trans ?_
    simp only [stepP]; grind
  | (false, m) :: t, q => by
    have h := walk_det t (stepP q (false, m))
    simp only [List.foldl_cons]
    refine h.trans ?_
    simp only [stepP]; grind
structure Q4.nn (q : Q4) : Prop where
  a : 0 ≤ q.l0
  b : 0 ≤ q.l1
  c : 0 ≤ q.r0
  d : 0 ≤ q.r1
theorem q0_nn : q0.nn := ⟨by decide, by decide, by decide, by decide⟩
theorem step_nn {q : Q4} (h : q.nn) {s : Bool × Int} (hs : 0 ≤ s.2) : (stepP q s).nn := by
  obtain ⟨w, m⟩ := s
  have h1 := Int.mul_nonneg hs h.a
  have h2 := Int.mul_nonneg hs h.b
  have h3 := Int.mul_nonneg hs h.c
  have h4 := Int.mul_nonneg hs h.d
  have := h.a; have := h.b; have := h.c; have := h.d
  dsimp only at *
  cases w
  · exact ⟨by show 0 ≤ q.l0; (first | lia | omega), by show 0 ≤ q.l1; (first | lia | omega), by show 0 ≤ q.r0 + m * q.l0; (first | lia | omega), by show 0 ≤ q.r1 + m * q.l1; (first | lia | omega)⟩
  · exact ⟨by show 0 ≤ q.l0 + m * q.r0; (first | lia | omega), by show 0 ≤ q.l1 + m * q.r1; (first | lia | omega), by show 0 ≤ q.r0; (first | lia | omega), by show 0 ≤ q.r1; (first | lia | omega)⟩
theorem walk_nn : ∀ {a : Option Bool} {p : Path} {q : Q4}, okP a p → q.nn → (p.foldl stepP q).nn
  | _, [], _, _, h => h
  | _, s :: t, q, ok, h => walk_nn (p := t) ok.2.2 (step_nn h (by have := ok.1; (first | lia | omega)))
/-- the bounds on the way stay below the end -/
theorem walk_le {a : Option Bool} {p : Path} {q : Q4} {U V : Int} (ok : okP a p) (hn : q.nn) (h0 : (endP p).1 * q.r0 + (endP p).2 * q.l0 = U) (h1 : (endP p).1 * q.r1 + (endP p).2 * q.l1 = V) : q.l0 ≤ U ∧ q.r0 ≤ U ∧ q.l1 ≤ V ∧ q.r1 ≤ V := by
  obtain ⟨x, y⟩ := end_pos ok
  have a1 := Int.mul_le_mul_of_nonneg_right x hn.c
  have a2 := Int.mul_le_mul_of_nonneg_right y hn.a
  have a3 := Int.mul_le_mul_of_nonneg_right x hn.d
  have a4 := Int.mul_le_mul_of_nonneg_right y hn.b
  have := hn.a; have := hn.b; have := hn.c; have := hn.d
  refine ⟨?_, ?_, ?_, ?_⟩ <;> (first | lia | omega)
theorem runs_le : ∀ {a : Option Bool} {p : Path}, okP a p → ∀ s ∈ p, s.2 ≤ (endP p).1 + (endP p).2
  | _, [], _, s, h => nomatch h
  | _, (true, m) :: t, ok, s, h => by
    obtain ⟨x, y⟩ := end_pos ok.2.2
    have hm : 1 ≤ m := ok.1
    have := Int.mul_le_mul_of_nonneg_left y (show 0 ≤ m by (first | lia | omega))
    have hp := Int.mul_nonneg (show 0 ≤ m by (first | lia | omega)) (show 0 ≤ (endP t).2 by (first | lia | omega))
    show s.2 ≤ (endP t).1 + m * (endP t).2 + (endP t).2
    rcases List.mem_cons.mp h with rfl | h
    · dsimp only; (first | lia | omega)
    · have := runs_le ok.2.2 s h; (first | lia | omega)
  | _, (false, m) :: t, ok, s, h => by
    obtain ⟨x, y⟩ := end_pos ok.2.2
    have hm : 1 ≤ m := ok.1
    have := Int.mul_le_mul_of_nonneg_left x (show 0 ≤ m by (first | lia | omega))
    have hp := Int.mul_nonneg (show 0 ≤ m by (first | lia | omega)) (show 0 ≤ (endP t).1 by (first | lia | omega))
    show s.2 ≤ (endP t).1 + ((endP t).2 + m * (endP t).1)
    rcases List.mem_cons.mp h with rfl | h
    · dsimp only; (first | lia | omega)
    · have := runs_le ok.2.2 s h; (first | lia | omega)
theorem len_le : ∀ {a : Option Bool} {p : Path}, okP a p → 2 * 3 ^ p.length ≤ 2 ^ p.length * ((endP p).1 + (endP p).2)
  | _, [], _ => by simp [endP]
  | _, (w, m) :: t, ok => by
    obtain ⟨x, y⟩ := end_pos ok.2.2
    have hm : 1 ≤ m := ok.1
    have ih := len_le ok.2.2
    have hs := end_side ok.2.2
    have hp : (0 : Int) ≤ 2 ^ t.length := Int.le_of_lt (Int.pow_pos (by decide))
    have key : 3 * ((endP t).1 + (endP t).2) ≤ 2 * ((endP ((w, m) :: t)).1 + (endP ((w, m) :: t)).2) := by
      cases w
      · have := Int.mul_le_mul_of_nonneg_right hm (show 0 ≤ (endP t).1 by (first | lia | omega))
        simp at hs
        show _ ≤ 2 * ((endP t).1 + ((endP t).2 + m * (endP t).1))
        (first | lia | omega)
      · have := Int.mul_le_mul_of_nonneg_right hm (show 0 ≤ (endP t).2 by (first | lia | omega))
        simp at hs
        show _ ≤ 2 * ((endP t).1 + m * (endP t).2 + (endP t).2)
        (first | lia | omega)
    have k2 := Int.mul_le_mul_of_nonneg_left key hp
    generalize (endP ((w, m) :: t)).1 + (endP ((w, m) :: t)).2 = E at *
    generalize (endP t).1 + (endP t).2 = F at *
    simp only [List.length_cons, Int.pow_succ]
    generalize (2 : Int) ^ t.length = P at *
    generalize (3 : Int) ^ t.length = R at *
    have e1 : P * (3 * F) = 3 * (P * F) := by grind
    have e2 : P * 2 * E = P * (2 * E) := by grind
    rw [e2]; (first | lia | omega)
theorem pow23 (k : Nat) : (2 : Int) ^ k ≤ 3 ^ k := by
  induction k with
  | zero => decide
  | succ n ih => rw [Int.pow_succ, Int.pow_succ]; have : (0 : Int) < 3 ^ n := Int.pow_pos (by decide); (first | lia | omega)
/-- no long path -/
theorem len_small {a : Option Bool} {p : Path} (ok : okP a p) (h : (endP p).1 + (endP p).2 ≤ 10 ^ 101) : p.length < 600 := by
  have h1 := len_le ok
  apply Classical.byContradiction
  intro hl
  obtain ⟨k, hk⟩ : ∃ k, p.length = 600 + k := ⟨p.length - 600, by (first | lia | omega)⟩
  rw [hk, Int.pow_add, Int.pow_add] at h1
  have p2 : (0 : Int) < 2 ^ k := Int.pow_pos (by decide)
  have c1 : (2 : Int) ^ 600 * 10 ^ 101 < 2 * 3 ^ 600 := by decide +kernel
  have q := pow23 k
  generalize (endP p).1 + (endP p).2 = S at *
  have e1 : (2 : Int) ^ 600 * 2 ^ k * S ≤ 2 ^ 600 * 2 ^ k * 10 ^ 101 := Int.mul_le_mul_of_nonneg_left h (Int.mul_nonneg (by decide +kernel) (by (first | lia | omega)))
  have e2 : (2 : Int) ^ 600 * 2 ^ k * 10 ^ 101 = 2 ^ 600 * 10 ^ 101 * 2 ^ k := by rw [Int.mul_assoc, Int.mul_comm (2 ^ k), ← Int.mul_assoc]
  have e3 : (2 : Int) ^ 600 * 10 ^ 101 * 2 ^ k < 2 * 3 ^ 600 * 2 ^ k := Int.mul_lt_mul_of_pos_right c1 p2
  have e4 : (2 : Int) * 3 ^ 600 * 2 ^ k ≤ 2 * 3 ^ 600 * 3 ^ k := Int.mul_le_mul_of_nonneg_left q (by decide +kernel)
  have e5 : (2 : Int) * (3 ^ 600 * 3 ^ k) = 2 * 3 ^ 600 * 3 ^ k := by rw [Int.mul_assoc]
  rw [e5] at h1
  rw [e2] at e1
  exact absurd (Int.lt_of_le_of_lt (Int.le_trans h1 e1) (Int.lt_of_lt_of_le e3 e4)) (Int.lt_irrefl _)
theorem end_ne {a : Option Bool} {s : Bool × Int} {t : Path} (ok : okP a (s :: t)) : (endP (s :: t)).1 ≠ (endP (s :: t)).2 := by
  obtain ⟨w, m⟩ := s
  cases w
  · have := (end_left ok).1; (first | lia | omega)
  · have := (end_right ok).1; (first | lia | omega)
end Mine

namespace Mine

end Mine

namespace Mine

/-- neighbours about t0/t1, with no lower part above M -/
structure Ar (t0 t1 M l0 l1 r0 r1 : Int) : Prop where
  a0 : 0 ≤ l0
  a1 : 1 ≤ l1
  b0 : 1 ≤ r0
  b1 : 0 ≤ r1
  al : l1 ≤ M
  bl : r1 ≤ M
  det : r0 * l1 - l0 * r1 = 1
  be : 0 < t0 * l1 - l0 * t1
  ab : 0 < r0 * t1 - t0 * r1
  bt : t0 * l1 - l0 * t1 ≤ t0
  at_ : r0 * t1 - t0 * r1 ≤ t1
structure Tg (t0 t1 M : Int) : Prop where
  nn : 0 ≤ t0
  co : Int.gcd t0 t1 = 1
  m1 : 1 ≤ M
  lt : M < t1

theorem dvd_cross {t0 t1 x y : Int} (hg : Int.gcd t0 t1 = 1) (e : t0 * y = x * t1) : t1 ∣ y := by
  have h : t1 ∣ t0 * y := ⟨x, by rw [e, Int.mul_comm]⟩
  have h2 : t1.natAbs ∣ t0.natAbs * y.natAbs := by rw [← Int.natAbs_mul]; exact Int.natAbs_dvd_natAbs.mpr h
  have hc : Nat.Coprime t1.natAbs t0.natAbs := by rw [Nat.coprime_comm]; exact hg
  exact Int.natAbs_dvd_natAbs.mp (hc.dvd_of_dvd_mul_left h2)
theorem no_cross {t0 t1 M x y : Int} (T : Tg t0 t1 M) (h1 : 1 ≤ y) (h2 : y ≤ M) : t0 * y ≠ x * t1 := by
  intro e
  have := Int.le_of_dvd (by (first | lia | omega)) (dvd_cross T.co e)
  have := T.lt
  (first | lia | omega)
theorem Tg.pos {t0 t1 M : Int} (T : Tg t0 t1 M) : 1 ≤ t0 := by
  have := T.nn
  rcases Int.lt_or_eq_of_le this with h | h
  · (first | lia | omega)
  · exfalso
    have := no_cross (x := 0) (y := 1) T (by (first | lia | omega)) T.m1
    rw [← h] at this; simp at this

theorem ar_start {t0 t1 M : Int} (T : Tg t0 t1 M) : Ar t0 t1 M 0 1 1 0 := by
  have := T.pos; have := T.m1; have := T.lt
  constructor <;> (try simp) <;> (first | lia | omega)

theorem ar_med {t0 t1 M l0 l1 r0 r1 : Int} (T : Tg t0 t1 M) (a : Ar t0 t1 M l0 l1 r0 r1) (h : l1 + r1 ≤ M) : t0 * l1 - l0 * t1 ≠ r0 * t1 - t0 * r1 := by
  intro e
  exact no_cross (x := l0 + r0) (y := l1 + r1) T (by have := a.a1; have := a.b1; (first | lia | omega)) h (by rw [Int.mul_add, Int.add_mul]; (first | lia | omega))

/-- how far to go -/
def fitF (M p b k : Int) : Int := if b = 0 then k else min k ((M - p) / b)

theorem ar_k {A B M p r k : Int} (hA : 0 < A) (hlt : A < B) (hr : 0 ≤ r) (hp : p + r ≤ M) (hk : k = fitF M p r (B / A)) : 1 ≤ k ∧ k * A ≤ B ∧ p + k * r ≤ M := by
  have q1 : 1 ≤ B / A := Int.le_ediv_of_mul_le hA (by (first | lia | omega))
  have q2 : B / A * A ≤ B := Int.ediv_mul_le _ (by (first | lia | omega))
  by_cases h0 : r = 0
  · have e : k = B / A := by rw [hk]; simp only [fitF, h0, if_true]
    subst h0
    rw [e]
    exact ⟨q1, q2, by (first | lia | omega)⟩
  · have e : k = min (B / A) ((M - p) / r) := by rw [hk]; simp only [fitF, h0, if_false]
    have p1 : 1 ≤ (M - p) / r := Int.le_ediv_of_mul_le (by (first | lia | omega)) (by (first | lia | omega))
    have p2 : (M - p) / r * r ≤ M - p := Int.ediv_mul_le _ h0
    have p4 := Int.mul_le_mul_of_nonneg_right (show k ≤ (M - p) / r by (first | lia | omega)) hr
    have p5 := Int.mul_le_mul_of_nonneg_right (show k ≤ B / A by (first | lia | omega)) (Int.le_of_lt hA)
    exact ⟨by (first | lia | omega), Int.le_trans p5 q2, by (first | lia | omega)⟩
theorem lt_of_le_ne {a b : Int} (h : a ≤ b) (n : a ≠ b) : 0 < b - a := by (first | lia | omega)
theorem sub_lt_of {a b c k : Int} (hk : 1 ≤ k) (ha : 0 < a) (e : c = b - k * a) : c < b ∧ c ≤ b := by
  have := Int.mul_le_mul_of_nonneg_right hk (Int.le_of_lt ha)
  (first | lia | omega)
theorem ar_left {t0 t1 M l0 l1 r0 r1 k : Int} (T : Tg t0 t1 M) (a : Ar t0 t1 M l0 l1 r0 r1) (h : l1 + r1 ≤ M) (hlt : r0 * t1 - t0 * r1 < t0 * l1 - l0 * t1)
    (hk : k = fitF M l1 r1 ((t0 * l1 - l0 * t1) / (r0 * t1 - t0 * r1))) : Ar t0 t1 M (l0 + k * r0) (l1 + k * r1) r0 r1 ∧ 1 ≤ k ∧ t0 * (l1 + k * r1) - (l0 + k * r0) * t1 < t0 * l1 - l0 * t1 := by
  obtain ⟨k1, k2, k3⟩ := ar_k a.ab hlt a.b1 h hk
  have k0 : 0 ≤ k := Int.le_trans (by decide) k1
  have e : t0 * (l1 + k * r1) - (l0 + k * r0) * t1 = (t0 * l1 - l0 * t1) - k * (r0 * t1 - t0 * r1) := by grind
  have m2 := Int.mul_nonneg k0 a.b1
  have y1 : 1 ≤ l1 + k * r1 := Int.le_trans a.a1 (Int.le_add_of_nonneg_right m2)
  have ne := no_cross (x := l0 + k * r0) (y := l1 + k * r1) T y1 k3
  have lt := sub_lt_of k1 a.ab e
  refine ⟨⟨Int.add_nonneg a.a0 (Int.mul_nonneg k0 (Int.le_trans (by decide) a.b0)), y1, a.b0, a.b1, k3, a.bl, ?_, ?_, a.ab, Int.le_trans lt.2 a.bt, a.at_⟩, k1, lt.1⟩
  · rw [← a.det]; grind
  · rw [e]; exact lt_of_le_ne k2 (fun z => ne (Int.sub_eq_zero.mp (by rw [e, z]; exact Int.sub_self _)))

theorem ar_right {t0 t1 M l0 l1 r0 r1 k : Int} (T : Tg t0 t1 M) (a : Ar t0 t1 M l0 l1 r0 r1) (h : l1 + r1 ≤ M) (hlt : t0 * l1 - l0 * t1 < r0 * t1 - t0 * r1)
    (hk : k = fitF M r1 l1 ((r0 * t1 - t0 * r1) / (t0 * l1 - l0 * t1))) : Ar t0 t1 M l0 l1 (r0 + k * l0) (r1 + k * l1) ∧ 1 ≤ k ∧ (r0 + k * l0) * t1 - t0 * (r1 + k * l1) < r0 * t1 - t0 * r1 := by
  have l0' : 0 ≤ l1 := Int.le_trans (by decide) a.a1
  obtain ⟨k1, k2, k3⟩ := ar_k a.be hlt l0' (by rw [Int.add_comm]; exact h) hk
  have k0 : 0 ≤ k := Int.le_trans (by decide) k1
  have e : (r0 + k * l0) * t1 - t0 * (r1 + k * l1) = (r0 * t1 - t0 * r1) - k * (t0 * l1 - l0 * t1) := by grind
  have m5 := Int.mul_le_mul k1 a.a1 (by decide) k0
  have y1 : 1 ≤ r1 + k * l1 := Int.le_trans m5 (Int.le_add_of_nonneg_left a.b1)
  have ne := no_cross (x := r0 + k * l0) (y := r1 + k * l1) T y1 k3
  have lt := sub_lt_of k1 a.be e
  refine ⟨⟨a.a0, a.a1, Int.le_trans a.b0 (Int.le_add_of_nonneg_right (Int.mul_nonneg k0 a.a0)), Int.add_nonneg a.b1 (Int.mul_nonneg k0 l0'), a.al, k3, ?_, a.be, ?_, a.bt, Int.le_trans lt.2 a.at_⟩, k1, lt.1⟩
  · rw [← a.det]; grind
  · rw [e]; exact lt_of_le_ne k2 (fun z => ne (Int.sub_eq_zero.mp (by rw [e, z]; exact Int.sub_self _)).symm)

/-- the sizes of what stands about -/
theorem ar_small {t0 t1 M l0 l1 r0 r1 : Int} (T : Tg t0 t1 M) (a : Ar t0 t1 M l0 l1 r0 r1) : l0 ≤ t0 ∧ r0 ≤ t0 + 1 := by
  obtain ⟨h1, h2, h3, h4, h5, h6, h7, h8, h9, h10, h11⟩ := a
  have ht := T.pos
  have hm := T.lt
  have hm1 := T.m1
  have q1 : l0 * t1 ≤ t0 * t1 := by
    have := Int.mul_le_mul_of_nonneg_left (show l1 ≤ t1 by (first | lia | omega)) (show 0 ≤ t0 by (first | lia | omega))
    (first | lia | omega)
  have q2 : l0 ≤ t0 := Int.le_of_mul_le_mul_right q1 (by (first | lia | omega))
  refine ⟨q2, ?_⟩
  have q3 : r0 * t1 ≤ (t0 + 1) * t1 := by
    have := Int.mul_le_mul_of_nonneg_left (show r1 ≤ t1 by (first | lia | omega)) (show 0 ≤ t0 by (first | lia | omega))
    rw [Int.add_mul]; (first | lia | omega)
  exact Int.le_of_mul_le_mul_right q3 (by (first | lia | omega))
theorem det_co {a b c d : Int} (h : c * b - a * d = 1) : Int.gcd a b = 1 := by
  have h1 : (Int.gcd a b : Int) ∣ a := Int.gcd_dvd_left a b
  have h2 : (Int.gcd a b : Int) ∣ b := Int.gcd_dvd_right a b
  have h3 : (Int.gcd a b : Int) ∣ 1 := by
    rw [← h]
    exact Int.dvd_sub (Int.dvd_trans h2 (Int.dvd_mul_left _ _)) (Int.dvd_trans h1 (Int.dvd_mul_right _ _))
  have := Int.le_of_dvd (by decide) h3
  have : Int.gcd a b ≠ 0 := by
    intro z
    rw [z] at h3
    exact absurd h3 (by decide)
  (first | lia | omega)
theorem det_co2 {a b c d : Int} (h : c * b - a * d = 1) : Int.gcd c d = 1 := by
  have h1 : (Int.gcd c d : Int) ∣ c := Int.gcd_dvd_left c d
  have h2 : (Int.gcd c d : Int) ∣ d := Int.gcd_dvd_right c d
  have h3 : (Int.gcd c d : Int) ∣ 1 := by
    rw [← h]
    exact Int.dvd_sub (Int.dvd_trans h1 (Int.dvd_mul_right _ _)) (Int.dvd_trans h2 (Int.dvd_mul_left _ _))
  have := Int.le_of_dvd (by decide) h3
  have : Int.gcd c d ≠ 0 := by
    intro z
    rw [z] at h3
    exact absurd h3 (by decide)
  (first | lia | omega)
end Mine
namespace Mine
/-- the walk about t0/t1, up to its end -/
inductive AR (t0 t1 M : Int) : Q4 → Q4 → Prop
  | stop {q : Q4} (h : M < q.l1 + q.r1) : AR t0 t1 M q q
  | left {q F : Q4} (h : q.l1 + q.r1 ≤ M) (hlt : q.r0 * t1 - t0 * q.r1 < t0 * q.l1 - q.l0 * t1)
      (r : AR t0 t1 M ⟨q.l0 + fitF M q.l1 q.r1 ((t0 * q.l1 - q.l0 * t1) / (q.r0 * t1 - t0 * q.r1)) * q.r0, q.l1 + fitF M q.l1 q.r1 ((t0 * q.l1 - q.l0 * t1) / (q.r0 * t1 - t0 * q.r1)) * q.r1, q.r0, q.r1⟩ F) : AR t0 t1 M q F
  | right {q F : Q4} (h : q.l1 + q.r1 ≤ M) (hlt : t0 * q.l1 - q.l0 * t1 < q.r0 * t1 - t0 * q.r1)
      (r : AR t0 t1 M ⟨q.l0, q.l1, q.r0 + fitF M q.r1 q.l1 ((q.r0 * t1 - t0 * q.r1) / (t0 * q.l1 - q.l0 * t1)) * q.l0, q.r1 + fitF M q.r1 q.l1 ((q.r0 * t1 - t0 * q.r1) / (t0 * q.l1 - q.l0 * t1)) * q.l1⟩ F) : AR t0 t1 M q F
abbrev Ar4 (t0 t1 M : Int) (q : Q4) : Prop := Ar t0 t1 M q.l0 q.l1 q.r0 q.r1
def meas (t0 t1 : Int) (q : Q4) : Nat := ((t0 * q.l1 - q.l0 * t1) + (q.r0 * t1 - t0 * q.r1)).toNat
theorem ar4_left {t0 t1 M : Int} {q : Q4} (T : Tg t0 t1 M) (a : Ar4 t0 t1 M q) (h : q.l1 + q.r1 ≤ M) (hlt : q.r0 * t1 - t0 * q.r1 < t0 * q.l1 - q.l0 * t1) :
    Ar4 t0 t1 M ⟨q.l0 + fitF M q.l1 q.r1 ((t0 * q.l1 - q.l0 * t1) / (q.r0 * t1 - t0 * q.r1)) * q.r0, q.l1 + fitF M q.l1 q.r1 ((t0 * q.l1 - q.l0 * t1) / (q.r0 * t1 - t0 * q.r1)) * q.r1, q.r0, q.r1⟩ ∧
    meas t0 t1 ⟨q.l0 + fitF M q.l1 q.r1 ((t0 * q.l1 - q.l0 * t1) / (q.r0 * t1 - t0 * q.r1)) * q.r0, q.l1 + fitF M q.l1 q.r1 ((t0 * q.l1 - q.l0 * t1) / (q.r0 * t1 - t0 * q.r1)) * q.r1, q.r0, q.r1⟩ < meas t0 t1 q := by
  obtain ⟨x, _, z⟩ := ar_left T a h hlt rfl
  refine ⟨x, ?_⟩
  have := x.be
  have := a.be
  have := a.ab
  simp only [meas] at *
  (first | lia | omega)
theorem ar4_right {t0 t1 M : Int} {q : Q4} (T : Tg t0 t1 M) (a : Ar4 t0 t1 M q) (h : q.l1 + q.r1 ≤ M) (hlt : t0 * q.l1 - q.l0 * t1 < q.r0 * t1 - t0 * q.r1) :
    Ar4 t0 t1 M ⟨q.l0, q.l1, q.r0 + fitF M q.r1 q.l1 ((q.r0 * t1 - t0 * q.r1) / (t0 * q.l1 - q.l0 * t1)) * q.l0, q.r1 + fitF M q.r1 q.l1 ((q.r0 * t1 - t0 * q.r1) / (t0 * q.l1 - q.l0 * t1)) * q.l1⟩ ∧
    meas t0 t1 ⟨q.l0, q.l1, q.r0 + fitF M q.r1 q.l1 ((q.r0 * t1 - t0 * q.r1) / (t0 * q.l1 - q.l0 * t1)) * q.l0, q.r1 + fitF M q.r1 q.l1 ((q.r0 * t1 - t0 * q.r1) / (t0 * q.l1 - q.l0 * t1)) * q.l1⟩ < meas t0 t1 q := by
  obtain ⟨x, _, z⟩ := ar_right T a h hlt rfl
  refine ⟨x, ?_⟩
  have := x.ab
  have := a.be
  have := a.ab
  simp only [meas] at *
  (first | lia | omega)
theorem ar_exists {t0 t1 M : Int} (T : Tg t0 t1 M) : ∀ (n : Nat) (q : Q4), Ar4 t0 t1 M q → meas t0 t1 q ≤ n → ∃ F, AR t0 t1 M q F ∧ Ar4 t0 t1 M F ∧ M < F.l1 + F.r1
  | 0, q, a, hn => by have := a.be; have := a.ab; simp only [meas] at hn; (first | lia | omega)
  | n + 1, q, a, hn => by
    by_cases h : q.l1 + q.r1 ≤ M
    · have ne := ar_med T a h
      by_cases hlt : q.r0 * t1 - t0 * q.r1 < t0 * q.l1 - q.l0 * t1
      · obtain ⟨x, y⟩ := ar4_left T a h hlt
        obtain ⟨F, r, e, f⟩ := ar_exists T n _ x (by (first | lia | omega))
        exact ⟨F, .left h hlt r, e, f⟩
      · have hlt' : t0 * q.l1 - q.l0 * t1 < q.r0 * t1 - t0 * q.r1 := by (first | lia | omega)
        obtain ⟨x, y⟩ := ar4_right T a h hlt'
        obtain ⟨F, r, e, f⟩ := ar_exists T n _ x (by (first | lia | omega))
        exact ⟨F, .right h hlt' r, e, f⟩
    · exact ⟨q, .stop (by (first | lia | omega)), a, by (first | lia | omega)⟩
theorem ar_for {t0 t1 M : Int} (T : Tg t0 t1 M) : ∃ F, AR t0 t1 M q0 F ∧ Ar4 t0 t1 M F ∧ M < F.l1 + F.r1 := ar_exists T _ q0 (ar_start T) (Nat.le_refl _)
end Mine

namespace Mine
/-- how far x/y is from t0/t1, times y t1 -/
def dst (t0 t1 x y : Int) : Int := ((x * t1 - t0 * y).natAbs : Int)
/-- less, of the reduced distances -/
theorem less_iff {f0 f1 b0 b1 p q p' q' t1 : Int} (hf : 1 ≤ f1) (hb : 1 ≤ b1) (hq : 1 ≤ q) (hq' : 1 ≤ q') (ht : 1 ≤ t1) (e1 : f0 * (q * t1) = p * f1) (e2 : b0 * (q' * t1) = p' * b1) : f0 * b1 < b0 * f1 ↔ p * q' < p' * q := by
  have hK : 0 < q * q' * t1 := Int.mul_pos (Int.mul_pos (by (first | lia | omega)) (by (first | lia | omega))) (by (first | lia | omega))
  have hM : 0 < f1 * b1 := Int.mul_pos (by (first | lia | omega)) (by (first | lia | omega))
  have x1 : f0 * b1 * (q * q' * t1) = p * q' * (f1 * b1) := by
    have : f0 * b1 * (q * q' * t1) = f0 * (q * t1) * (b1 * q') := by grind
    rw [this, e1]; grind
  have x2 : b0 * f1 * (q * q' * t1) = p' * q * (f1 * b1) := by
    have : b0 * f1 * (q * q' * t1) = b0 * (q' * t1) * (f1 * q) := by grind
    rw [this, e2]; grind
  constructor
  · intro h
    have := Int.mul_lt_mul_of_pos_right h hK
    rw [x1, x2] at this
    exact Int.lt_of_mul_lt_mul_right this (by (first | lia | omega))
  · intro h
    have := Int.mul_lt_mul_of_pos_right h hM
    rw [← x1, ← x2] at this
    exact Int.lt_of_mul_lt_mul_right this (by (first | lia | omega))
end Mine
namespace Mine
end Mine

namespace Mine
theorem low_unique {x y t0 t1 : Int} (hx : 0 ≤ x) (hy : 1 ≤ y) (h0 : 0 ≤ t0) (h1 : 1 ≤ t1) (co : Int.gcd t0 t1 = 1) (e : x * t1 = t0 * y) : x / (Int.gcd x y : Int) = t0 ∧ y / (Int.gcd x y : Int) = t1 := by
  have hd : t1 ∣ y := dvd_cross (x := x) co (by rw [← e])
  obtain ⟨k, rfl⟩ := hd
  have hk : 1 ≤ k := by
    rcases Int.lt_or_le 0 k with z | z
    · (first | lia | omega)
    · have := Int.mul_nonneg (show 0 ≤ t1 by (first | lia | omega)) (show 0 ≤ -k by (first | lia | omega))
      rw [Int.mul_neg] at this
      (first | lia | omega)
  have ex : x = t0 * k := by
    have : x * t1 = t0 * k * t1 := by rw [e]; grind
    exact Int.eq_of_mul_eq_mul_right (by (first | lia | omega)) this
  subst ex
  have g : (Int.gcd (t0 * k) (t1 * k) : Int) = k := by
    rw [Int.gcd_mul_right, co]; simp; (first | lia | omega)
  rw [g]
  exact ⟨Int.mul_ediv_cancel _ (by (first | lia | omega)), Int.mul_ediv_cancel _ (by (first | lia | omega))⟩
/-- n0/n1 is before x/y about t0/t1 -/
def Bef (t0 t1 n0 n1 x y : Int) : Prop := dst t0 t1 n0 n1 * y < dst t0 t1 x y * n1 ∨ (dst t0 t1 n0 n1 * y = dst t0 t1 x y * n1 ∧ (n1 < y / (Int.gcd x y : Int) ∨ (n1 = y / (Int.gcd x y : Int) ∧ n0 ≤ x / (Int.gcd x y : Int))))
theorem bef_self {t0 t1 x y : Int} (h0 : 0 ≤ t0) (h1 : 1 ≤ t1) (co : Int.gcd t0 t1 = 1) (hx : 0 ≤ x) (hy : 1 ≤ y) : Bef t0 t1 t0 t1 x y := by
  have z : dst t0 t1 t0 t1 = 0 := by unfold dst; simp
  unfold Bef
  rw [z, Int.zero_mul]
  by_cases h : x * t1 = t0 * y
  · obtain ⟨a, b⟩ := low_unique hx hy h0 h1 co h
    right
    refine ⟨?_, .inr ⟨b.symm, by rw [a]; (first | lia | omega)⟩⟩
    unfold dst; rw [h]; simp
  · left
    have : 1 ≤ dst t0 t1 x y := by unfold dst; (first | lia | omega)
    have := Int.mul_le_mul this h1 (by (first | lia | omega)) (by (first | lia | omega))
    (first | lia | omega)
theorem out_of {l0 l1 r0 r1 M x y : Int} (det : r0 * l1 - l0 * r1 = 1) (h1 : 1 ≤ l1) (h2 : 1 ≤ r1) (hM : M < l1 + r1) (hy : y ≤ M) : x * l1 ≤ l0 * y ∨ r0 * y ≤ x * r1 := by
  apply Classical.byContradiction
  intro h
  have a : 1 ≤ x * l1 - l0 * y := by (first | lia | omega)
  have b : 1 ≤ r0 * y - x * r1 := by (first | lia | omega)
  have e : y = l1 * (r0 * y - x * r1) + r1 * (x * l1 - l0 * y) := by
    have : l1 * (r0 * y - x * r1) + r1 * (x * l1 - l0 * y) = y * (r0 * l1 - l0 * r1) := by grind
    rw [this, det]; (first | lia | omega)
  have p1 := Int.mul_le_mul_of_nonneg_left b (show 0 ≤ l1 by (first | lia | omega))
  have p2 := Int.mul_le_mul_of_nonneg_left a (show 0 ≤ r1 by (first | lia | omega))
  (first | lia | omega)
theorem dst_left {t0 t1 l0 l1 : Int} (h : 0 < t0 * l1 - l0 * t1) : dst t0 t1 l0 l1 = t0 * l1 - l0 * t1 := by unfold dst; (first | lia | omega)
theorem dst_right {t0 t1 r0 r1 : Int} (h : 0 < r0 * t1 - t0 * r1) : dst t0 t1 r0 r1 = r0 * t1 - t0 * r1 := by unfold dst; (first | lia | omega)
/-- which of the two neighbours -/
def nst (t0 t1 : Int) (q : Q4) : Bool := decide (dst t0 t1 q.l0 q.l1 * q.r1 < dst t0 t1 q.r0 q.r1 * q.l1) || (decide (dst t0 t1 q.l0 q.l1 * q.r1 = dst t0 t1 q.r0 q.r1 * q.l1) && decide (q.l1 ≤ q.r1))
/-- against what lies on a neighbour's side: dA/a1 and then the other -/
theorem side_le {D A E n1 a1 y : Int} (ha : 0 < a1) (hn : 0 < n1) (hy : 0 < y) (h1 : D * a1 ≤ A * n1) (h2 : A * y ≤ E * a1) : D * y ≤ E * n1 ∧ (D * y = E * n1 → D * a1 = A * n1 ∧ A * y = E * a1) := by
  have k1 := Int.mul_le_mul_of_nonneg_right h1 (show 0 ≤ y by (first | lia | omega))
  have k2 := Int.mul_le_mul_of_nonneg_right h2 (show 0 ≤ n1 by (first | lia | omega))
  have e1 : D * a1 * y = D * y * a1 := by grind
  have e2 : A * n1 * y = A * y * n1 := by grind
  have e3 : E * a1 * n1 = E * n1 * a1 := by grind
  refine ⟨Int.le_of_mul_le_mul_right (show D * y * a1 ≤ E * n1 * a1 by (first | lia | omega)) ha, fun e => ?_⟩
  have e4 : D * y * a1 = E * n1 * a1 := by rw [e]
  have f1 : D * a1 * y = A * n1 * y := by (first | lia | omega)
  have f2 : A * y * n1 = E * a1 * n1 := by (first | lia | omega)
  exact ⟨Int.eq_of_mul_eq_mul_right (by (first | lia | omega)) f1, Int.eq_of_mul_eq_mul_right (by (first | lia | omega)) f2⟩
theorem lside {t0 t1 l0 l1 x y : Int} (hbe : 0 < t0 * l1 - l0 * t1) (h1 : 1 ≤ l1) (ht : 1 ≤ t1) (hy : 1 ≤ y) (h : x * l1 ≤ l0 * y) : dst t0 t1 l0 l1 * y ≤ dst t0 t1 x y * l1 ∧ (dst t0 t1 l0 l1 * y = dst t0 t1 x y * l1 → x * l1 = l0 * y) := by
  have k := Int.mul_le_mul_of_nonneg_right h (show 0 ≤ t1 by (first | lia | omega))
  have e1 : (t0 * y - x * t1) * l1 = (t0 * l1 - l0 * t1) * y + (l0 * y * t1 - x * l1 * t1) := by grind
  have p0 : 0 < (t0 * l1 - l0 * t1) * y := Int.mul_pos hbe (by (first | lia | omega))
  have p1 : 0 < (t0 * y - x * t1) * l1 := by (first | lia | omega)
  have p2 : 0 < t0 * y - x * t1 := Int.pos_of_mul_pos_left p1 (by (first | lia | omega))
  have d1 : dst t0 t1 x y = t0 * y - x * t1 := by unfold dst; (first | lia | omega)
  rw [dst_left hbe, d1]
  refine ⟨by (first | lia | omega), fun e => ?_⟩
  have : x * l1 * t1 = l0 * y * t1 := by (first | lia | omega)
  exact Int.eq_of_mul_eq_mul_right (by (first | lia | omega)) this
theorem rside {t0 t1 r0 r1 x y : Int} (hab : 0 < r0 * t1 - t0 * r1) (h1 : 1 ≤ r1) (ht : 1 ≤ t1) (hy : 1 ≤ y) (h : r0 * y ≤ x * r1) : dst t0 t1 r0 r1 * y ≤ dst t0 t1 x y * r1 ∧ (dst t0 t1 r0 r1 * y = dst t0 t1 x y * r1 → x * r1 = r0 * y) := by
  have k := Int.mul_le_mul_of_nonneg_right h (show 0 ≤ t1 by (first | lia | omega))
  have e1 : (x * t1 - t0 * y) * r1 = (r0 * t1 - t0 * r1) * y + (x * r1 * t1 - r0 * y * t1) := by grind
  have p0 : 0 < (r0 * t1 - t0 * r1) * y := Int.mul_pos hab (by (first | lia | omega))
  have p1 : 0 < (x * t1 - t0 * y) * r1 := by (first | lia | omega)
  have p2 : 0 < x * t1 - t0 * y := Int.pos_of_mul_pos_left p1 (by (first | lia | omega))
  have d1 : dst t0 t1 x y = x * t1 - t0 * y := by unfold dst; (first | lia | omega)
  rw [dst_right hab, d1]
  refine ⟨by (first | lia | omega), fun e => ?_⟩
  have : x * r1 * t1 = r0 * y * t1 := by (first | lia | omega)
  exact Int.eq_of_mul_eq_mul_right (by (first | lia | omega)) this
theorem bef_near {t0 t1 M x y : Int} {q : Q4} (T : Tg t0 t1 M) (a : Ar4 t0 t1 M q) (hM : M < q.l1 + q.r1) (hx : 0 ≤ x) (hy : 1 ≤ y) (hyM : y ≤ M) : if nst t0 t1 q then Bef t0 t1 q.l0 q.l1 x y else Bef t0 t1 q.r0 q.r1 x y := by
  obtain ⟨l0, l1, r0, r1⟩ := q
  have h1 := a.a1
  have hr : 1 ≤ r1 := by have := a.b1; have := a.al; dsimp only at *; (first | lia | omega)
  have ht : 1 ≤ t1 := by have := T.m1; have := T.lt; (first | lia | omega)
  have hbe := a.be
  have hab := a.ab
  have ha0 := a.a0
  have hb0 := a.b0
  have det := a.det
  dsimp only at *
  have cl := det_co det
  have cr := det_co2 det
  have out := out_of (x := x) det h1 hr hM hyM
  by_cases hn : nst t0 t1 ⟨l0, l1, r0, r1⟩ = true
  · rw [if_pos hn]
    simp only [nst] at hn
    have hle : dst t0 t1 l0 l1 * r1 ≤ dst t0 t1 r0 r1 * l1 := by simp only [Bool.or_eq_true, Bool.and_eq_true, decide_eq_true_eq] at hn; (first | lia | omega)
    have htie : dst t0 t1 l0 l1 * r1 = dst t0 t1 r0 r1 * l1 → l1 ≤ r1 := by simp only [Bool.or_eq_true, Bool.and_eq_true, decide_eq_true_eq] at hn; (first | lia | omega)
    unfold Bef
    rcases out with o | o
    · obtain ⟨k1, k2⟩ := lside hbe h1 ht hy o
      rcases Int.lt_or_eq_of_le k1 with z | z
      · exact .inl z
      · obtain ⟨u, v⟩ := low_unique hx hy ha0 h1 cl (k2 z)
        exact .inr ⟨z, .inr ⟨v.symm, by rw [u]; (first | lia | omega)⟩⟩
    · obtain ⟨k1, k2⟩ := rside hab hr ht hy o
      obtain ⟨s1, s2⟩ := side_le (D := dst t0 t1 l0 l1) (A := dst t0 t1 r0 r1) (E := dst t0 t1 x y) (n1 := l1) (a1 := r1) (y := y) (by (first | lia | omega)) (by (first | lia | omega)) (by (first | lia | omega)) hle k1
      rcases Int.lt_or_eq_of_le s1 with z | z
      · exact .inl z
      · obtain ⟨w1, w2⟩ := s2 z
        obtain ⟨u, v⟩ := low_unique hx hy (by (first | lia | omega)) hr cr (k2 w2)
        have lr := htie w1
        refine .inr ⟨z, ?_⟩
        rw [u, v]
        rcases Int.lt_or_eq_of_le lr with m | m
        · exact .inl m
        · refine .inr ⟨m, ?_⟩
          rw [m] at det
          have : 0 < (r0 - l0) * r1 := by rw [Int.sub_mul]; (first | lia | omega)
          have := Int.pos_of_mul_pos_left this (by (first | lia | omega))
          (first | lia | omega)
  · rw [if_neg hn]
    simp only [nst] at hn
    have hle : dst t0 t1 r0 r1 * l1 ≤ dst t0 t1 l0 l1 * r1 := by simp only [Bool.or_eq_true, Bool.and_eq_true, decide_eq_true_eq] at hn; (first | lia | omega)
    have htie : dst t0 t1 l0 l1 * r1 = dst t0 t1 r0 r1 * l1 → r1 < l1 := by simp only [Bool.or_eq_true, Bool.and_eq_true, decide_eq_true_eq] at hn; (first | lia | omega)
    unfold Bef
    rcases out with o | o
    · obtain ⟨k1, k2⟩ := lside hbe h1 ht hy o
      obtain ⟨s1, s2⟩ := side_le (D := dst t0 t1 r0 r1) (A := dst t0 t1 l0 l1) (E := dst t0 t1 x y) (n1 := r1) (a1 := l1) (y := y) (by (first | lia | omega)) (by (first | lia | omega)) (by (first | lia | omega)) hle k1
      rcases Int.lt_or_eq_of_le s1 with z | z
      · exact .inl z
      · obtain ⟨w1, w2⟩ := s2 z
        obtain ⟨u, v⟩ := low_unique hx hy ha0 h1 cl (k2 w2)
        refine .inr ⟨z, .inl ?_⟩
        rw [v]; exact htie w1.symm
    · obtain ⟨k1, k2⟩ := rside hab hr ht hy o
      rcases Int.lt_or_eq_of_le k1 with z | z
      · exact .inl z
      · obtain ⟨u, v⟩ := low_unique hx hy (by (first | lia | omega)) hr cr (k2 z)
        exact .inr ⟨z, .inr ⟨v.symm, by rw [u]; (first | lia | omega)⟩⟩
end Mine

namespace Mine
/-- runs by turns, from b on -/
def altP : Bool → Path → Prop
  | _, [] => True
  | b, s :: t => s.1 = b ∧ 1 ≤ s.2 ∧ altP (!b) t
theorem altP.ok' : ∀ {b : Bool} {p : Path}, altP b p → okP (some (!b)) p
  | _, [], _ => trivial
  | b, s :: t, h => by
    obtain ⟨rfl, h2, h3⟩ := h
    refine ⟨h2, ?_, ?_⟩
    · cases s.1 <;> simp
    · have := altP.ok' h3
      rw [Bool.not_not] at this
      exact this
theorem altP.ok {b : Bool} {p : Path} (h : altP b p) : okP none p := okP_free h.ok'
theorem altP.pos : ∀ {b : Bool} {p : Path}, altP b p → ∀ s ∈ p, 1 ≤ s.2
  | _, [], _, s, hs => nomatch hs
  | b, s :: t, h, x, hx => by
    rcases List.mem_cons.mp hx with rfl | hx
    · exact h.2.1
    · exact altP.pos h.2.2 x hx
theorem altP.set : ∀ {b : Bool} {p : Path} {i : Nat} {s : Bool × Int} {m : Int}, altP b p → p[i]? = some s → 1 ≤ m → altP b (p.set i (s.1, m))
  | b, [], i, s, m, h, e, hm => by simp at e
  | b, x :: t, 0, s, m, h, e, hm => by
    simp at e; subst e
    exact ⟨h.1, hm, h.2.2⟩
  | b, x :: t, i + 1, s, m, h, e, hm => ⟨h.1, h.2.1, altP.set h.2.2 (by simpa using e) hm⟩
/-- the bound on the runs -/
def leP (M : Int) (p : Path) : Prop := ∀ s ∈ p, s.2 ≤ M
theorem leP.set {M : Int} {p : Path} {i : Nat} {s : Bool × Int} (h : leP M p) (hs : s.2 ≤ M) : leP M (p.set i s) := fun x hx => by
  rcases List.mem_or_eq_of_mem_set hx with q | q
  · exact h x q
  · subst q; exact hs
end Mine

namespace Mine
open PySem PySem.Spec PySem.Calls PyProof.Rows

/-- the usual kinds of expressions -/
def pl : Expr → Bool
  | .Starred .. | .ListComp .. | .SetComp .. | .DictComp .. | .Set .. | .Slice .. => false
  | _ => true
theorem pl_star {x : Expr} {es : List Expr} {env : Env} (h : pl x = true) : starEach (x :: es) env = (false, eval x env) :: starEach es env := by cases x <;> first | rfl | cases h
theorem pl_marks {op : CmpOp} {x : Expr} (h : pl x = true) : behindInMarks op x = false := by cases x <;> first | rfl | cases h
theorem pl_swaps {x : Expr} {t : Option Expr} {n : Nat} {env : Env} (h : pl x = true) : swapsWith x t n env = pure false := by cases x <;> first | rfl | cases h
theorem pl_fold {x : Expr} {env : Env} (h : pl x = true) (v : Value) : foldedSetIterable x env v = pure v := by cases x <;> first | rfl | cases h
theorem pl_sub {x : Expr} {o i : Value} (h : pl x = true) : subscripted x false o i = operate [o, i] (getItem o i) := by cases x <;> first | rfl | cases h
def plT : Expr → Bool
  | .UnaryOp .Not _ _ | .BoolOp .. | .IfExp .. | .Compare .. => false
  | _ => true
theorem plT_eq {x : Expr} {env : Env} {t : Sem Value} (h : plT x = true) : isTrue x env t = (do let v ← t; standAt x.pos; holding [v] (truthy v)) := by
  cases x with
  | UnaryOp op _ _ => cases op <;> first | rfl | cases h
  | _ => first | rfl | cases h

abbrev Keep (h h' : Heap) : Prop := ∀ b o, h.get? b = some o → h'.get? b = some o
theorem Keep.rfl {h : Heap} : Keep h h := fun _ _ e => e
theorem Keep.trans {h h' h'' : Heap} (a : Keep h h') (b : Keep h' h'') : Keep h h'' := fun x o e => b x o (a x o e)
theorem Keep.push {h h' : Heap} (a : Keep h h') (o : Obj) : Keep h (h'.push o) := fun x o' e => Heap.get?_push_of_some _ (a x o' e)
theorem Keep.none {h h' : Heap} (a : Keep h h') {l : Addr} (n : h'.get? l = none) : h.get? l = none := by
  cases hq : h.get? l with
  | none => rfl
  | some o => rw [a l o hq] at n; cases n
/-- every object stands, but for those at W -/
def Kp (W : List Addr) (h h' : Heap) : Prop := ∀ b o, b ∉ W → h.get? b = some o → h'.get? b = some o
theorem Keep.kp {W : List Addr} {h h' : Heap} (k : Keep h h') : Kp W h h' := fun b o _ e => k b o e
theorem Kp.rfl {W : List Addr} {h : Heap} : Kp W h h := fun _ _ _ e => e
theorem Kp.trans {W : List Addr} {h h' h'' : Heap} (a : Kp W h h') (b : Kp W h' h'') : Kp W h h'' := fun x o n e => b x o n (a x o n e)
theorem Kp.mono {W W' : List Addr} {h h' : Heap} (a : Kp W h h') (s : ∀ b ∈ W, b ∈ W') : Kp W' h h' := fun x o n e => a x o (fun hx => n (s x hx)) e

/-- a tree that changes no object that stands -/
structure EvT {α : Type} (M : Model) (A : Around) (h : Heap) (t : Sem α) (R : α → Heap → Prop) (X : Value → Heap → Prop) : Prop where
  go : ∀ (s : Shared) (Q : α → Shared → Prop) (E : Value → Shared → Prop), Keep h s.heap →
    (∀ a h' k, Keep s.heap h' → R a h' → Q a { s with heap := h', toks := k }) →
    (∀ x h' k, X x h' → E x { s with heap := h', toks := k }) → wpAny M A t Q E s

abbrev Ev (M : Model) (A : Around) (env : Env) (h : Heap) (e : Expr) (R X : Value → Heap → Prop) : Prop := EvT M A h (eval e env) R X
abbrev Tr (M : Model) (A : Around) (env : Env) (h : Heap) (e : Expr) (b : Bool) (X : Value → Heap → Prop) : Prop := EvT M A h (isTrue e env (eval e env)) (fun c _ => c = b) X

/-- the value v reads as d -/
def Rd (d : PyData) (v : Value) (h : Heap) : Prop := ∃ as, Reads h v d as
theorem Rd.keep {d : PyData} {v : Value} {h h' : Heap} (r : Rd d v h) (k : Keep h h') : Rd d v h' := let ⟨as, x⟩ := r; ⟨as, PyProof.Rows.Reads.keeps k x⟩
def RdL (ds : List PyData) (vs : List Value) (h : Heap) : Prop := ∃ as, ReadsAll h vs ds as
theorem RdL.keep {ds : List PyData} {vs : List Value} {h h' : Heap} (r : RdL ds vs h) (k : Keep h h') : RdL ds vs h' := let ⟨as, x⟩ := r; ⟨as, PyProof.Rows.ReadsAll.keeps k x⟩
theorem RdL.nil {h : Heap} : RdL [] [] h := ⟨_, .nil⟩
theorem RdL.cons {d ds v vs} {h : Heap} (a : Rd d v h) (b : RdL ds vs h) : RdL (d :: ds) (v :: vs) h := let ⟨_, x⟩ := a; let ⟨_, y⟩ := b; ⟨_, .cons x y⟩
theorem RdL.len {ds vs} {h : Heap} (a : RdL ds vs h) : vs.length = ds.length := by
  obtain ⟨as, x⟩ := a
  induction ds generalizing vs as with
  | nil => cases x; rfl
  | cons d ds ih => cases x with | cons _ y => simp [ih _ y]
theorem RdL.at {ds vs} {h : Heap} (a : RdL ds vs h) {i : Nat} {d : PyData} (e : ds[i]? = some d) : ∃ v, vs[i]? = some v ∧ Rd d v h := by
  obtain ⟨as, x⟩ := a
  induction ds generalizing vs as i with
  | nil => simp at e
  | cons d' ds ih =>
    cases x with
    | cons r y =>
      cases i with
      | zero => simp at e; subst e; exact ⟨_, rfl, _, r⟩
      | succ i =>
        obtain ⟨v, q⟩ := ih (i := i) (by simpa using e) _ y
        exact ⟨v, by simpa using q⟩
theorem RdL.uncons {d ds vs} {h : Heap} (a : RdL (d :: ds) vs h) : ∃ v r, vs = v :: r ∧ Rd d v h ∧ RdL ds r h := by
  obtain ⟨as, x⟩ := a
  cases x with | cons r y => exact ⟨_, _, rfl, ⟨_, r⟩, ⟨_, y⟩⟩
theorem RdL.unnil {vs} {h : Heap} (a : RdL [] vs h) : vs = [] := by
  obtain ⟨as, x⟩ := a
  cases x; rfl
theorem RdL.append {ds es vs us} {h : Heap} (a : RdL ds vs h) (b : RdL es us h) : RdL (ds ++ es) (vs ++ us) h := by
  obtain ⟨as, x⟩ := a
  induction ds generalizing vs as with
  | nil => cases x; exact b
  | cons d ds ih => cases x with | cons r y => exact RdL.cons ⟨_, r⟩ (ih _ y)
mutual
/-- no list and no dict in it -/
def flat : PyData → Bool
  | .list _ | .dict _ => false
  | .tuple xs => flatL xs
  | _ => true
def flatL : List PyData → Bool
  | [] => true
  | x :: xs => flat x && flatL xs
end
theorem flat_nil {h : Heap} {d : PyData} {v : Value} {as : List Addr} (hf : flat d = true) (r : Reads h v d as) : as = [] :=
  Reads.rec (motive_1 := fun _ d as _ => flat d = true → as = []) (motive_2 := fun _ ds as _ => flatL ds = true → as = [])
    (fun _ => rfl) (fun _ _ => rfl) (fun _ _ _ => rfl) (fun _ _ _ => rfl) (fun _ _ _ _ _ hf => nomatch hf) (fun _ _ _ _ ih hf => ih hf) (fun _ _ _ _ _ _ _ hf => nomatch hf)
    (fun _ => rfl) (fun _ _ ih1 ih2 hf => by
      have q := Bool.and_eq_true_iff.mp hf
      rw [ih1 q.1, ih2 q.2]; rfl) r hf
theorem flatL_nil {h : Heap} {ds : List PyData} {vs : List Value} {as : List Addr} (hf : flatL ds = true) (r : ReadsAll h vs ds as) : as = [] :=
  ReadsAll.rec (motive_1 := fun _ _ _ _ => True) (motive_2 := fun _ ds as _ => flatL ds = true → as = [])
    trivial (fun _ => trivial) (fun _ _ => trivial) (fun _ _ => trivial) (fun _ _ _ _ _ => trivial) (fun _ _ _ _ _ => trivial) (fun _ _ _ _ _ _ _ => trivial)
    (fun _ => rfl) (fun x _ _ ih2 hf => by
      have q := Bool.and_eq_true_iff.mp hf
      rw [flat_nil q.1 x, ih2 q.2]; rfl) r hf

/-- ... and whatever list is in it is new against h₀ -/
def Rf (h₀ : Heap) (d : PyData) (v : Value) (h : Heap) : Prop := ∃ as, Reads h v d as ∧ ∀ a ∈ as, h₀.get? a = none
theorem Rf.rd {h₀ : Heap} {d : PyData} {v : Value} {h : Heap} (r : Rf h₀ d v h) : Rd d v h := let ⟨as, x, _⟩ := r; ⟨as, x⟩
theorem Rf.of_flat {h₀ : Heap} {d : PyData} {v : Value} {h : Heap} (f : flat d = true) (r : Rd d v h) : Rf h₀ d v h := by
  obtain ⟨as, x⟩ := r
  refine ⟨as, x, ?_⟩
  rw [flat_nil f x]; exact fun _ ha => nomatch ha
theorem Rf.keep {h₀ : Heap} {d : PyData} {v : Value} {h h' : Heap} (r : Rf h₀ d v h) (k : Keep h h') : Rf h₀ d v h' := let ⟨as, x, n⟩ := r; ⟨as, PyProof.Rows.Reads.keeps k x, n⟩
theorem Rf.old {h₀ h₁ : Heap} {d : PyData} {v : Value} {h : Heap} (r : Rf h₁ d v h) (k : Keep h₀ h₁) : Rf h₀ d v h := by
  obtain ⟨as, x, n⟩ := r
  exact ⟨as, x, fun a ha => k.none (n a ha)⟩
/-- a new list of flat things -/
def Rl (h₀ : Heap) (ds : List PyData) (v : Value) (h : Heap) : Prop := ∃ l items, v = .ref l ∧ h.PlainList l items ∧ RdL ds items.toList h ∧ h₀.get? l = none
theorem Rl.keep {h₀ : Heap} {ds} {v : Value} {h h' : Heap} (r : Rl h₀ ds v h) (k : Keep h h') : Rl h₀ ds v h' := by
  obtain ⟨l, items, e, ⟨n, p⟩, x, f⟩ := r
  exact ⟨l, items, e, ⟨n, k _ _ p⟩, x.keep k, f⟩
theorem Rl.old {h₀ h₁ : Heap} {ds} {v : Value} {h : Heap} (r : Rl h₁ ds v h) (k : Keep h₀ h₁) : Rl h₀ ds v h := by
  obtain ⟨l, items, e, p, x, f⟩ := r
  exact ⟨l, items, e, p, x, k.none f⟩
theorem Rl.rd {h₀ : Heap} {ds} {v : Value} {h : Heap} (r : Rl h₀ ds v h) : Rd (.list ds) v h := by
  obtain ⟨l, items, e, ⟨n, p⟩, ⟨as, x⟩, _⟩ := r
  subst e
  exact ⟨_, .list p rfl rfl x⟩
section
variable {α β : Type} {M : Model} {A : Around} {env : Env} {h : Heap} {X : Value → Heap → Prop}

theorem EvT.up {h' : Heap} {t : Sem α} {R : α → Heap → Prop} (e : EvT M A h t R X) (k : Keep h h') : EvT M A h' t R X := ⟨fun s Q E k' q x => e.go s Q E (k.trans k') q x⟩
theorem EvT.mono {t : Sem α} {R R' : α → Heap → Prop} (e : EvT M A h t R X) (m : ∀ a h', Keep h h' → R a h' → R' a h') : EvT M A h t R' X :=
  ⟨fun s Q E k q x => e.go s Q E k (fun a h' i k' r => q a h' i k' (m a h' (k.trans k') r)) x⟩
theorem EvT.of {t : Sem α} {R : α → Heap → Prop}
    (e : ∀ (s : Shared) (Q : α → Shared → Prop) (E : Value → Shared → Prop), Keep h s.heap → (∀ a h' k, Keep s.heap h' → R a h' → Q a { s with heap := h', toks := k }) → wpAny M A t Q E s) : EvT M A h t R X :=
  ⟨fun s Q E k q _ => e s Q E k q⟩
theorem EvT.ofS {t : Sem α} {R : α → Heap → Prop}
    (e : ∀ (s : Shared) (Q : α → Shared → Prop) (E : Value → Shared → Prop), Keep h s.heap → (∀ a k, R a s.heap → Q a { s with toks := k }) → wpAny M A t Q E s) : EvT M A h t R X :=
  ⟨fun s Q E k q _ => e s Q E k fun a k' r => q a s.heap k' Keep.rfl r⟩
theorem EvT.pure {a : α} {R : α → Heap → Prop} (r : ∀ h', Keep h h' → R a h') : EvT M A h (Pure.pure a) R X :=
  EvT.of fun s _ _ k q => wpAny_pure (q a s.heap s.toks Keep.rfl (r _ k))
theorem EvT.bind {t : Sem α} {f : α → Sem β} {R : α → Heap → Prop} {R' : β → Heap → Prop} (e : EvT M A h t R X)
    (n : ∀ a h', Keep h h' → R a h' → EvT M A h' (f a) R' X) : EvT M A h (t >>= f) R' X := by
  refine ⟨fun s Q E k q x => ?_⟩
  refine wpAny_bind (e.go s _ E k (fun a h' i k' r => ?_) x)
  exact (n a h' (k.trans k') r).go _ Q E (fun b o e => e) (fun a' h'' j k'' r' => q a' h'' j (k'.trans k'') r') (fun y h'' j r' => x y h'' j r')
theorem EvT.seq {t : Sem α} {R : α → Heap → Prop} (e : EvT M A h t R X) {s : Shared} {Q : α → Shared → Prop} {E : Value → Shared → Prop} (k : Keep h s.heap)
    (q : ∀ a h' i, Keep s.heap h' → R a h' → Q a { s with heap := h', toks := i }) (x : ∀ y h' i, X y h' → E y { s with heap := h', toks := i }) : wpAny M A t Q E s := e.go s Q E k q x
/-- two trees, one behind the other -/
theorem EvT.two {γ : Type} {t : Sem α} {u : Sem β} {R : α → Heap → Prop} {R2 : β → Heap → Prop} {v : α → β → Sem γ} {R' : γ → Heap → Prop} (e : EvT M A h t R X) (e2 : EvT M A h u R2 X)
    (m : ∀ a h' h'', Keep h' h'' → R a h' → R a h'') (n : ∀ a b h', Keep h h' → R a h' → R2 b h' → EvT M A h' (v a b) R' X)
    {s : Shared} {Q : γ → Shared → Prop} {E : Value → Shared → Prop} (k : Keep h s.heap)
    (q : ∀ a h' i, Keep s.heap h' → R' a h' → Q a { s with heap := h', toks := i }) (x : ∀ y h' i, X y h' → E y { s with heap := h', toks := i }) :
    wpAny M A t (fun a s₁ => wpAny M A u (fun b s₂ => wpAny M A (v a b) Q E s₂) E s₁) E s := by
  refine e.go s _ E k (fun a h1 i k1 r1 => ?_) x
  refine (e2.up (k.trans k1)).seq (s := { s with heap := h1, toks := i }) Keep.rfl (fun b h2 j k2 r2 => ?_) (fun y h2 j r => x y h2 j r)
  exact (n a b h2 (k.trans (Keep.trans k1 k2)) (m _ _ _ k2 r1) r2).seq (s := { s with heap := h2, toks := j }) Keep.rfl (fun c h3 j k3 r3 => q c h3 j (Keep.trans k1 (Keep.trans k2 k3)) r3) (fun y h3 j r => x y h3 j r)
end
theorem rd_mono {d : PyData} : ∀ a h' h'', Keep h' h'' → Rd d a h' → Rd d a h'' := fun _ _ _ k r => r.keep k

section
variable {prog : Program} {w : World} {A : Around} {env : Env} {h : Heap} {X : Value → Heap → Prop}

theorem ev_int {i : Int} {k pos} : Ev (model prog w) A env h (.Constant (.int i) k pos) (Rd (.int i)) X :=
  EvT.ofS fun _ _ _ _ q => wpAny_Constant_int (q _ _ ⟨_, .int _ _⟩)
theorem ev_str {x : Str} {k pos} : Ev (model prog w) A env h (.Constant (.str x) k pos) (Rd (.str x)) X :=
  EvT.ofS fun _ _ _ _ q => wpAny_Constant_str (q _ _ ⟨_, .str _ _⟩)
theorem ev_bool {b : Bool} {k pos} : Ev (model prog w) A env h (.Constant (.bool b) k pos) (Rd (.bool b)) X :=
  EvT.ofS fun s _ _ _ q => wpAny_Constant_bool (q _ s.toks ⟨_, .bool _⟩)
theorem ev_none {k pos} : Ev (model prog w) A env h (.Constant .none k pos) (Rd .none) X :=
  EvT.ofS fun s _ _ _ q => wpAny_Constant_none (q _ s.toks ⟨_, .none⟩)

theorem ev_bin {l r : Expr} {op : Operator} {pos : Pos} {d1 d2 : PyData} {R : Value → Heap → Prop} (e1 : Ev (model prog w) A env h l (Rd d1) X) (e2 : Ev (model prog w) A env h r (Rd d2) X)
    (o : ∀ v1 v2 h', Keep h h' → Rd d1 v1 h' → Rd d2 v2 h' → EvT (model prog w) A h' (binaryOp op v1 v2) R X) : Ev (model prog w) A env h (.BinOp l op r pos) R X := by
  refine ⟨fun s Q E k q x => ?_⟩
  exact wpAny_BinOp (EvT.two e1 e2 rd_mono o k q x)

theorem rd_int {i : Int} {v : Value} {h : Heap} (r : Rd (.int i) v h) : ∃ t, v = .int i t := by obtain ⟨as, x⟩ := r; cases x; exact ⟨_, rfl⟩
theorem rd_bool {i : Bool} {v : Value} {h : Heap} (r : Rd (.bool i) v h) : v = .bool i := by obtain ⟨as, x⟩ := r; cases x; rfl
theorem rd_tup {ds : List PyData} {v : Value} {h : Heap} (r : Rd (.tuple ds) v h) : ∃ a items, v = .ref a ∧ h.IsTuple a items ∧ RdL ds items.toList h := by
  obtain ⟨as, x⟩ := r
  cases x with | tuple h1 h2 h3 y => exact ⟨_, _, rfl, ⟨_, h1, h2, _, h3⟩, _, y⟩
theorem rd_list {ds : List PyData} {v : Value} {h : Heap} (r : Rd (.list ds) v h) : ∃ a items, v = .ref a ∧ h.IsList a items ∧ RdL ds items.toList h := by
  obtain ⟨as, x⟩ := r
  cases x with | list h1 h2 h3 y => exact ⟨_, _, rfl, ⟨_, h1, h2, _, h3⟩, _, y⟩

theorem ev_add {l r : Expr} {pos : Pos} {a b : Int} (e1 : Ev (model prog w) A env h l (Rd (.int a)) X) (e2 : Ev (model prog w) A env h r (Rd (.int b)) X) :
    Ev (model prog w) A env h (.BinOp l .Add r pos) (Rd (.int (a + b))) X := ev_bin e1 e2 fun v1 v2 h' k r1 r2 => by
  obtain ⟨t, rfl⟩ := rd_int r1; obtain ⟨u, rfl⟩ := rd_int r2
  exact EvT.ofS fun _ _ _ _ q => P.add_int (q _ _ ⟨_, .int _ _⟩)
theorem ev_sub {l r : Expr} {pos : Pos} {a b : Int} (e1 : Ev (model prog w) A env h l (Rd (.int a)) X) (e2 : Ev (model prog w) A env h r (Rd (.int b)) X) :
    Ev (model prog w) A env h (.BinOp l .Sub r pos) (Rd (.int (a - b))) X := ev_bin e1 e2 fun v1 v2 h' k r1 r2 => by
  obtain ⟨t, rfl⟩ := rd_int r1; obtain ⟨u, rfl⟩ := rd_int r2
  exact EvT.ofS fun _ _ _ _ q => P.sub_int (q _ _ ⟨_, .int _ _⟩)
theorem ev_mul {l r : Expr} {pos : Pos} {a b : Int} (e1 : Ev (model prog w) A env h l (Rd (.int a)) X) (e2 : Ev (model prog w) A env h r (Rd (.int b)) X) (hm : IntMulOk a b) :
    Ev (model prog w) A env h (.BinOp l .Mult r pos) (Rd (.int (a * b))) X := ev_bin e1 e2 fun v1 v2 h' k r1 r2 => by
  obtain ⟨t, rfl⟩ := rd_int r1; obtain ⟨u, rfl⟩ := rd_int r2
  exact EvT.ofS fun _ _ _ _ q => P.mul_int (q _ _ ⟨_, .int _ _⟩) hm
theorem ev_mod {l r : Expr} {pos : Pos} {a b : Int} (e1 : Ev (model prog w) A env h l (Rd (.int a)) X) (e2 : Ev (model prog w) A env h r (Rd (.int b)) X) (hb : 0 < b) :
    Ev (model prog w) A env h (.BinOp l .Mod r pos) (Rd (.int (a % b))) X := ev_bin e1 e2 fun v1 v2 h' k r1 r2 => by
  obtain ⟨t, rfl⟩ := rd_int r1; obtain ⟨u, rfl⟩ := rd_int r2
  refine EvT.ofS fun _ _ _ _ q => PyProof.Rows.mod_int (by (first | lia | omega)) ?_
  rw [Int.fmod_eq_emod_of_nonneg _ (by (first | lia | omega))]
  exact q _ _ ⟨_, .int _ _⟩
theorem ev_neg {x : Expr} {pos : Pos} {a : Int} (e1 : Ev (model prog w) A env h x (Rd (.int a)) X) :
    Ev (model prog w) A env h (.UnaryOp .USub x pos) (Rd (.int (-a))) X := by
  refine ⟨fun s Q E k q x => ?_⟩
  refine wpAny_UnaryOp (e1.go s _ E k (fun v h1 i k1 r1 => ?_) x)
  obtain ⟨t, rfl⟩ := rd_int r1
  exact P.neg_int (q _ _ _ k1 ⟨_, .int _ _⟩)

/-- one comparison, as a value and as a test -/
theorem ev_cmp {l r : Expr} {op : CmpOp} {pos : Pos} {d1 d2 : PyData} {R : Value → Heap → Prop} (e1 : Ev (model prog w) A env h l (Rd d1) X) (e2 : Ev (model prog w) A env h r (Rd d2) X)
    (o : ∀ v1 v2 h', Keep h h' → Rd d1 v1 h' → Rd d2 v2 h' → EvT (model prog w) A h' (compareOp op v1 v2) R X) (hm : pl r = true := by rfl) :
    Ev (model prog w) A env h (.Compare l [op] [r] pos) R X := by
  refine ⟨fun s Q E k q x => ?_⟩
  exact wpAny_Compare1 (EvT.two e1 e2 rd_mono o k q x) (pl_marks hm)
theorem tr_cmp {l r : Expr} {op : CmpOp} {pos : Pos} {d1 d2 : PyData} {b : Bool} (e1 : Ev (model prog w) A env h l (Rd d1) X) (e2 : Ev (model prog w) A env h r (Rd d2) X)
    (o : ∀ v1 v2 h', Keep h h' → Rd d1 v1 h' → Rd d2 v2 h' → EvT (model prog w) A h' (compareOp op v1 v2) (Rd (.bool b)) X) (hm : pl r = true := by rfl) :
    Tr (model prog w) A env h (.Compare l [op] [r] pos) b X := by
  refine ⟨fun s Q E k q x => ?_⟩
  refine wpAny_isTrue_Compare1 ?_ (pl_marks hm)
  exact EvT.two (v := fun a b => compareOp op a b) (Q := fun c s₃ => wpAny (model prog w) A (truthy c) Q E s₃) e1 e2 rd_mono o k (fun c h' i k' r => by cases rd_bool r; exact wpAny_truthy_bool (q _ _ _ k' rfl)) x

/-- int comparisons -/
def icmp : CmpOp → Int → Int → Option Bool
  | .Lt, a, b => some (decide (a < b))
  | .LtE, a, b => some (decide (a ≤ b))
  | .Gt, a, b => some (decide (a > b))
  | .GtE, a, b => some (decide (a ≥ b))
  | .Eq, a, b => some (a == b)
  | .NotEq, a, b => some (a != b)
  | _, _, _ => none
theorem op_icmp {op : CmpOp} {a b : Int} {c : Bool} (e : icmp op a b = some c) {v1 v2 : Value} {h' : Heap} (r1 : Rd (.int a) v1 h') (r2 : Rd (.int b) v2 h') :
    EvT (model prog w) A h' (compareOp op v1 v2) (Rd (.bool c)) X := by
  obtain ⟨t, rfl⟩ := rd_int r1; obtain ⟨u, rfl⟩ := rd_int r2
  cases op <;> cases e
  · exact EvT.ofS fun s _ _ _ q => P.eq_int (q _ s.toks ⟨_, .bool _⟩)
  · exact EvT.ofS fun s _ _ _ q => P.ne_int (q _ s.toks ⟨_, .bool _⟩)
  · exact EvT.ofS fun s _ _ _ q => P.lt_int (q _ s.toks ⟨_, .bool _⟩)
  · exact EvT.ofS fun s _ _ _ q => P.le_int (q _ s.toks ⟨_, .bool _⟩)
  · exact EvT.ofS fun s _ _ _ q => P.gt_int (q _ s.toks ⟨_, .bool _⟩)
  · exact EvT.ofS fun s _ _ _ q => P.ge_int (q _ s.toks ⟨_, .bool _⟩)
theorem ev_icmp {l r : Expr} {op : CmpOp} {pos : Pos} {a b : Int} {c : Bool} (e1 : Ev (model prog w) A env h l (Rd (.int a)) X) (e2 : Ev (model prog w) A env h r (Rd (.int b)) X) (e : icmp op a b = some c)
    (hm : pl r = true := by rfl) : Ev (model prog w) A env h (.Compare l [op] [r] pos) (Rd (.bool c)) X :=
  ev_cmp e1 e2 (fun _ _ _ _ r1 r2 => op_icmp e r1 r2) hm
theorem tr_icmp {l r : Expr} {op : CmpOp} {pos : Pos} {a b : Int} {c : Bool} (e1 : Ev (model prog w) A env h l (Rd (.int a)) X) (e2 : Ev (model prog w) A env h r (Rd (.int b)) X) (e : icmp op a b = some c)
    (hm : pl r = true := by rfl) : Tr (model prog w) A env h (.Compare l [op] [r] pos) c X :=
  tr_cmp e1 e2 (fun _ _ _ _ r1 r2 => op_icmp e r1 r2) hm

/-- tests -/
theorem tr_not {x : Expr} {pos : Pos} {b : Bool} (e : Tr (model prog w) A env h x b X) : Tr (model prog w) A env h (.UnaryOp .Not x pos) (!b) X := by
  refine ⟨fun s Q E k q x => ?_⟩
  refine wpAny_isTrue_Not (e.go s _ E k (fun c h1 i k1 r1 => ?_) x)
  subst r1; exact q _ _ _ k1 rfl
theorem tr_bool {op : BoolOp} {es : List Expr} {pos : Pos} {b : Bool} (e : EvT (model prog w) A h (allTrue op es env) (fun c _ => c = b) X) : Tr (model prog w) A env h (.BoolOp op es pos) b X := by
  refine ⟨fun s Q E k q x => ?_⟩
  exact wpAny_isTrue_BoolOp (e.go s Q E k q x)
theorem all_and_nil : EvT (model prog w) A h (allTrue .And [] env) (fun c _ => c = true) X := EvT.ofS fun s _ _ _ q => wpAny_allTrue_And_nil (q _ s.toks rfl)
theorem all_and {x : Expr} {es : List Expr} {a b : Bool} (e : Tr (model prog w) A env h x a X) (e2 : a = true → EvT (model prog w) A h (allTrue .And es env) (fun c _ => c = b) X) :
    EvT (model prog w) A h (allTrue .And (x :: es) env) (fun c _ => c = (a && b)) X := by
  refine ⟨fun s Q E k q x => ?_⟩
  refine wpAny_allTrue_And_cons (e.go s _ E k (fun c h1 i k1 r1 => ?_) x)
  subst r1
  cases c with
  | false => exact q _ _ _ k1 rfl
  | true => exact ((e2 rfl).up (k.trans k1)).seq (s := { s with heap := h1, toks := i }) Keep.rfl (fun c h2 j k2 r2 => q c h2 j (Keep.trans k1 k2) (by simpa using r2)) (fun y h2 j r => x y h2 j r)
theorem all_or_nil : EvT (model prog w) A h (allTrue .Or [] env) (fun c _ => c = false) X := EvT.ofS fun s _ _ _ q => wpAny_pure (a := false) (q _ s.toks rfl)
theorem all_or {x : Expr} {es : List Expr} {a b : Bool} (e : Tr (model prog w) A env h x a X) (e2 : a = false → EvT (model prog w) A h (allTrue .Or es env) (fun c _ => c = b) X) :
    EvT (model prog w) A h (allTrue .Or (x :: es) env) (fun c _ => c = (a || b)) X := by
  refine ⟨fun s Q E k q x => ?_⟩
  refine wpAny_allTrue_Or_cons (e.go s _ E k (fun c h1 i k1 r1 => ?_) x)
  subst r1
  cases c with
  | true => exact q _ _ _ k1 rfl
  | false => exact ((e2 rfl).up (k.trans k1)).seq (s := { s with heap := h1, toks := i }) Keep.rfl (fun c h2 j k2 r2 => q c h2 j (Keep.trans k1 k2) (by simpa using r2)) (fun y h2 j r => x y h2 j r)
theorem tr_val {e : Expr} {b : Bool} (e1 : Ev (model prog w) A env h e (Rd (.bool b)) X)
    (he : plT e = true := by rfl) : Tr (model prog w) A env h e b X := by
  refine ⟨fun s Q E k q x => ?_⟩
  refine wpAny_isTrue_value (e1.go s _ E k (fun c h1 i k1 r1 => ?_) x) (plT_eq he)
  cases rd_bool r1; exact wpAny_truthy_bool (q _ _ _ k1 rfl)
theorem ev_not {x : Expr} {pos : Pos} {b : Bool} (e : Ev (model prog w) A env h x (Rd (.bool b)) X) : Ev (model prog w) A env h (.UnaryOp .Not x pos) (Rd (.bool (!b))) X := by
  refine ⟨fun s Q E k q x => ?_⟩
  refine wpAny_UnaryOp (e.go s _ E k (fun v h1 i k1 r1 => ?_) x)
  cases rd_bool r1
  exact PyProof.Rows.not_of (wpAny_truthy_bool (q _ _ _ k1 ⟨_, .bool _⟩))

/-- and, or as values: all of them bools -/
theorem bo_last {op : BoolOp} {x : Expr} {pos : Pos} {R : Value → Heap → Prop} (e : Ev (model prog w) A env h x R X) : EvT (model prog w) A h (boolOp pos op [eval x env]) R X := e
theorem bo_and {x y : Expr} {es : List Expr} {pos : Pos} {a b : Bool} (e : Ev (model prog w) A env h x (Rd (.bool a)) X)
    (e2 : a = true → EvT (model prog w) A h (boolOp pos .And (evalEach (y :: es) env)) (Rd (.bool b)) X) :
    EvT (model prog w) A h (boolOp pos .And (evalEach (x :: y :: es) env)) (Rd (.bool (a && b))) X := by
  refine ⟨fun s Q E k q x' => ?_⟩
  show wpAny (model prog w) A (do
    let v ← eval x env
    standAt pos
    let t ← holding [v] (truthy v)
    match BoolOp.And, t with
    | .And, false | .Or, true => pure v
    | _, _ => boolOp pos .And (evalEach (y :: es) env)) Q E s
  refine wpAny_bind (e.go s _ E k (fun v h1 i k1 r1 => ?_) x')
  cases rd_bool r1
  refine wpAny_bind (wpAny_standAt (wpAny_bind (wpAny_holding (wpAny_truthy_bool ?_))))
  cases a with
  | false => exact wpAny_pure (q _ _ _ k1 ⟨_, .bool _⟩)
  | true => exact ((e2 rfl).up (k.trans k1)).seq (s := { s with heap := h1, toks := i }) Keep.rfl (fun c h2 j k2 r2 => q c h2 j (Keep.trans k1 k2) (by simpa using r2)) (fun y h2 j r => x' y h2 j r)
theorem bo_or {x y : Expr} {es : List Expr} {pos : Pos} {a b : Bool} (e : Ev (model prog w) A env h x (Rd (.bool a)) X)
    (e2 : a = false → EvT (model prog w) A h (boolOp pos .Or (evalEach (y :: es) env)) (Rd (.bool b)) X) :
    EvT (model prog w) A h (boolOp pos .Or (evalEach (x :: y :: es) env)) (Rd (.bool (a || b))) X := by
  refine ⟨fun s Q E k q x' => ?_⟩
  show wpAny (model prog w) A (do
    let v ← eval x env
    standAt pos
    let t ← holding [v] (truthy v)
    match BoolOp.Or, t with
    | .And, false | .Or, true => pure v
    | _, _ => boolOp pos .Or (evalEach (y :: es) env)) Q E s
  refine wpAny_bind (e.go s _ E k (fun v h1 i k1 r1 => ?_) x')
  cases rd_bool r1
  refine wpAny_bind (wpAny_standAt (wpAny_bind (wpAny_holding (wpAny_truthy_bool ?_))))
  cases a with
  | true => exact wpAny_pure (q _ _ _ k1 ⟨_, .bool _⟩)
  | false => exact ((e2 rfl).up (k.trans k1)).seq (s := { s with heap := h1, toks := i }) Keep.rfl (fun c h2 j k2 r2 => q c h2 j (Keep.trans k1 k2) (by simpa using r2)) (fun y h2 j r => x' y h2 j r)
theorem ev_bop {op : BoolOp} {es : List Expr} {pos : Pos} {R : Value → Heap → Prop} (e : EvT (model prog w) A h (boolOp pos op (evalEach es env)) R X) : Ev (model prog w) A env h (.BoolOp op es pos) R X := by
  refine ⟨fun s Q E k q x => ?_⟩
  rw [arm_eval_BoolOp]; exact e.go s Q E k q x
/-- argument lists, displays -/
abbrev EvL (M : Model) (A : Around) (env : Env) (h : Heap) (pos : Pos) (es : List Expr) (ds : List PyData) (X : Value → Heap → Prop) : Prop := EvT M A h (spliced (backTo pos (starEach es env))) (RdL ds) X
theorem evl_nil {pos : Pos} : EvL (model prog w) A env h pos [] [] X := EvT.ofS fun s _ _ _ q => PyProof.Rows.args_nil (q _ s.toks RdL.nil)
theorem evl_cons {pos : Pos} {x : Expr} {es : List Expr} {d : PyData} {ds : List PyData} (e : Ev (model prog w) A env h x (Rd d) X) (e2 : EvL (model prog w) A env h pos es ds X)
    (he : pl x = true := by rfl) : EvL (model prog w) A env h pos (x :: es) (d :: ds) X := by
  refine ⟨fun s Q E k q x => ?_⟩
  refine PyProof.Rows.args_cons (e.go s _ E k (fun v h1 i k1 r1 => ?_) x) (pl_star he)
  exact (e2.up (k.trans k1)).seq (s := { s with heap := h1, toks := i }) Keep.rfl (fun c h2 j k2 r2 => q _ h2 j (Keep.trans k1 k2) (RdL.cons (r1.keep k2) r2)) (fun y h2 j r => x y h2 j r)

theorem ev_tup {es : List Expr} {n : Nat} {pos : Pos} {ds : List PyData} (e : EvL (model prog w) A env h pos es ds X) (hn : ds.length ≤ sizeLine := by simp only [List.length_cons, List.length_nil]; decide) : Ev (model prog w) A env h (.Tuple es n pos) (Rd (.tuple ds)) X := by
  refine ⟨fun s Q E k q x => ?_⟩
  refine wpAny_Tuple (e.go s _ E k (fun vs h1 i k1 r1 => ⟨by rw [r1.len]; exact hn, ?_⟩) x)
  obtain ⟨as, y⟩ := r1.keep (Keep.push Keep.rfl { cls := .type "tuple", data := .seq vs.toArray })
  exact q _ _ _ (Keep.push k1 _) ⟨_, .tuple (Heap.get?_push_size _ rfl) rfl rfl (by simpa using y)⟩
theorem ev_list {es : List Expr} {pos : Pos} {ds : List PyData} (e : EvL (model prog w) A env h pos es ds X) (hn : ds.length ≤ sizeLine := by simp only [List.length_cons, List.length_nil]; decide) : Ev (model prog w) A env h (.List es pos) (Rl h ds) X := by
  refine ⟨fun s Q E k q x => ?_⟩
  refine wpAny_List (e.go s _ E k (fun vs h1 i k1 r1 => ⟨by rw [r1.len]; exact hn, ?_⟩) x)
  refine q _ _ _ (Keep.push k1 _) ⟨_, _, rfl, ⟨_, Heap.get?_push_size _ rfl⟩, by simpa using r1.keep (Keep.push Keep.rfl _), ?_⟩
  cases hq : h.get? h1.objs.size with
  | none => rfl
  | some o => exact absurd (Heap.lt_size (k1 _ _ (k _ _ hq))) (Nat.lt_irrefl _)
end
end Mine

namespace Mine
open PySem PySem.Spec PySem.Calls PyProof.Rows

/-- an object that no datum is read from -/
def Odd (a : Addr) (h : Heap) : Prop := ∀ o, h.get? a = some o → (∀ vs n, o.data ≠ .seq vs n) ∧ (∀ es n, o.data ≠ .dict es n)
/-- an object that is no tuple -/
def NoTup (a : Addr) (h : Heap) : Prop := ∀ o, h.get? a = some o → o.cls = .type "tuple" → ∀ vs n, o.data ≠ .seq vs n

theorem reads_kp {W : List Addr} {h h' : Heap} (k : Kp W h h') {v : Value} {d : PyData} {as : List Addr} (hw : ∀ a ∈ W, Odd a h ∨ (a ∉ as ∧ NoTup a h)) (r : Reads h v d as) : Reads h' v d as :=
  Reads.rec (motive_1 := fun v d as _ => (∀ a ∈ W, Odd a h ∨ (a ∉ as ∧ NoTup a h)) → Reads h' v d as) (motive_2 := fun vs ds as _ => (∀ a ∈ W, Odd a h ∨ (a ∉ as ∧ NoTup a h)) → ReadsAll h' vs ds as)
    (fun _ => .none) (fun b _ => .bool b) (fun i t _ => .int i t) (fun x t _ => .str x t)
    (fun h1 h2 h3 _ ih hw => .list (k _ _ (fun ha => (hw _ ha).elim (fun q => (q _ h1).1 _ _ h3) (fun q => q.1 (.head _))) h1) h2 h3 (ih fun b hb => (hw b hb).imp id fun q => ⟨fun e => q.1 (.tail _ e), q.2⟩))
    (fun h1 h2 h3 _ ih hw => .tuple (k _ _ (fun ha => (hw _ ha).elim (fun q => (q _ h1).1 _ _ h3) (fun q => q.2 _ h1 h2 _ _ h3)) h1) h2 h3 (ih hw))
    (fun h1 h2 h3 _ _ ih1 ih2 hw => .dict (k _ _ (fun ha => (hw _ ha).elim (fun q => (q _ h1).2 _ _ h3) (fun q => q.1 (.head _))) h1) h2 h3 (ih1 fun b hb => (hw b hb).imp id fun q => ⟨fun e => q.1 (.tail _ (List.mem_append_left _ e)), q.2⟩)
      (ih2 fun b hb => (hw b hb).imp id fun q => ⟨fun e => q.1 (.tail _ (List.mem_append_right _ e)), q.2⟩))
    (fun _ => .nil) (fun _ _ ih1 ih2 hw => .cons (ih1 fun b hb => (hw b hb).imp id fun q => ⟨fun e => q.1 (List.mem_append_left _ e), q.2⟩) (ih2 fun b hb => (hw b hb).imp id fun q => ⟨fun e => q.1 (List.mem_append_right _ e), q.2⟩)) r hw
theorem readsAll_kp {W : List Addr} {h h' : Heap} (k : Kp W h h') {vs : List Value} {ds : List PyData} {as : List Addr} (hw : ∀ a ∈ W, Odd a h ∨ (a ∉ as ∧ NoTup a h)) (r : ReadsAll h vs ds as) : ReadsAll h' vs ds as :=
  ReadsAll.rec (motive_1 := fun _ _ _ _ => True) (motive_2 := fun vs ds as _ => (∀ a ∈ W, Odd a h ∨ (a ∉ as ∧ NoTup a h)) → ReadsAll h' vs ds as)
    trivial (fun _ => trivial) (fun _ _ => trivial) (fun _ _ => trivial) (fun _ _ _ _ _ => trivial) (fun _ _ _ _ _ => trivial) (fun _ _ _ _ _ _ _ => trivial)
    (fun _ => .nil) (fun x _ _ ih2 hw => .cons (reads_kp k (fun b hb => (hw b hb).imp id fun q => ⟨fun e => q.1 (List.mem_append_left _ e), q.2⟩) x) (ih2 fun b hb => (hw b hb).imp id fun q => ⟨fun e => q.1 (List.mem_append_right _ e), q.2⟩)) r hw
theorem reads_some {h : Heap} {v : Value} {d : PyData} {as : List Addr} (r : Reads h v d as) : ∀ a ∈ as, ∃ o, h.get? a = some o :=
  Reads.rec (motive_1 := fun _ _ as _ => ∀ a ∈ as, ∃ o, h.get? a = some o) (motive_2 := fun _ _ as _ => ∀ a ∈ as, ∃ o, h.get? a = some o)
    (fun _ ha => nomatch ha) (fun _ _ ha => nomatch ha) (fun _ _ _ ha => nomatch ha) (fun _ _ _ ha => nomatch ha)
    (fun h1 _ _ _ ih a ha => (List.mem_cons.mp ha).elim (fun e => e ▸ ⟨_, h1⟩) (ih a)) (fun _ _ _ _ ih => ih)
    (fun h1 _ _ _ _ ih1 ih2 a ha => (List.mem_cons.mp ha).elim (fun e => e ▸ ⟨_, h1⟩) (fun e => (List.mem_append.mp e).elim (ih1 a) (ih2 a)))
    (fun _ ha => nomatch ha) (fun _ _ ih1 ih2 a ha => (List.mem_append.mp ha).elim (ih1 a) (ih2 a)) r

abbrev Locs := List (Str × PyData)
abbrev Mut := Option (Str × Addr × List PyData)
/-- what is known of a frame: some of its names, and one list of its own that may be changed -/
structure St (g : Heap) (L : Addr) (h : Heap) (ρ : Locs) (μ : Mut) : Prop where
  ex : ∃ m, Fr g L h m ∧ (∀ x d, ρ.lookup x = some d → ∃ v as, m x = some v ∧ Reads h v d as ∧ L ∉ as ∧ ∀ q, μ = some q → q.2.1 ∉ as) ∧
    (∀ q, μ = some q → m q.1 = some (.ref q.2.1) ∧ g.get? q.2.1 = none ∧ flatL q.2.2 = true ∧ ∃ items, h.PlainList q.2.1 items ∧ RdL q.2.2 items.toList h)

theorem noTup_L {h₀ h : Heap} {L : Addr} {m} (F : Fr h₀ L h m) : NoTup L h := by
  obtain ⟨o, es, ep, ho, hd, _⟩ := F.ns
  intro o' ho' _ vs n e
  rw [ho] at ho'; cases ho'; rw [hd] at e; cases e
theorem noTup_list {h : Heap} {l : Addr} {items} (p : h.PlainList l items) : NoTup l h := by
  obtain ⟨n, p⟩ := p
  intro o ho hc
  rw [p] at ho; cases ho; simp at hc
theorem L_some {h₀ h : Heap} {L : Addr} {m} (F : Fr h₀ L h m) : ∃ o, h.get? L = some o := by
  obtain ⟨o, es, ep, ho, r⟩ := F.ns
  exact ⟨o, ho⟩
theorem L_ne_list {h₀ h : Heap} {L l : Addr} {m} {items} (F : Fr h₀ L h m) (p : h.PlainList l items) : l ≠ L := by
  obtain ⟨n, p⟩ := p
  obtain ⟨o, es, ep, ho, hd, _⟩ := F.ns
  intro e; subst e
  rw [p] at ho; cases ho; cases hd

theorem plain_kp {W : List Addr} {h h' : Heap} {l : Addr} {items} (k : Kp W h h') (n : l ∉ W) (p : h.PlainList l items) : h'.PlainList l items := let ⟨i, p⟩ := p; ⟨i, k _ _ n p⟩
theorem rdl_flat_kp {W : List Addr} {h h' : Heap} {ds vs} (k : Kp W h h') (hf : flatL ds = true) (hw : ∀ a ∈ W, NoTup a h) (r : RdL ds vs h) : RdL ds vs h' := by
  obtain ⟨as, x⟩ := r
  have e := flatL_nil hf x
  subst e
  exact ⟨_, readsAll_kp k (fun a ha => .inr ⟨List.not_mem_nil, hw a ha⟩) x⟩

section
variable {g h h' : Heap} {L : Addr} {ρ ρ' : Locs} {μ : Mut}
theorem St.keep (S : St g L h ρ μ) (k : Keep h h') : St g L h' ρ μ := by
  obtain ⟨m, F, hr, hm⟩ := S.ex
  refine ⟨m, F.after k, fun x d e => ?_, fun q e => ?_⟩
  · obtain ⟨v, as, a, b, c⟩ := hr x d e
    exact ⟨v, as, a, PyProof.Rows.Reads.keeps k b, c⟩
  · obtain ⟨a, b, c, items, ⟨n, p⟩, r⟩ := hm q e
    exact ⟨a, b, c, items, ⟨n, k _ _ p⟩, r.keep k⟩
theorem St.frK (S : St g L h ρ μ) : Keep g h := by obtain ⟨m, F, _⟩ := S.ex; exact F.keep
def Sub (ρ : Locs) : Locs → Prop
  | [] => True
  | p :: r => ρ.lookup p.1 = some p.2 ∧ Sub ρ r
theorem Sub.at {ρ : Locs} : ∀ {ρ' : Locs}, Sub ρ ρ' → ∀ x d, ρ'.lookup x = some d → ρ.lookup x = some d
  | [], _, _, _, e => nomatch e
  | (y, d') :: r, hs, x, d, e => by
    rw [List.lookup_cons] at e
    cases hb : x == y with
    | true => rw [hb] at e; cases e; rw [eq_of_beq hb]; exact hs.1
    | false => rw [hb] at e; exact hs.2.at x d e
theorem St.pick (S : St g L h ρ μ) (hs : Sub ρ ρ') : St g L h ρ' μ := by
  obtain ⟨m, F, hr, hm⟩ := S.ex
  exact ⟨m, F, fun x d e => hr x d (hs.at x d e), hm⟩
/-- changes at objects that bear nothing known -/
theorem St.odd {a : Addr} (S : St g L h ρ μ) (ho : Odd a h) (hs : ∃ o, h.get? a = some o) (hg : g.get? a = none) (k : Kp [a] h h') : St g L h' ρ μ := by
  obtain ⟨m, F, hr, hm⟩ := S.ex
  obtain ⟨o, hs⟩ := hs
  have hL : L ≠ a := by
    intro e; subst e
    obtain ⟨o', es, ep, ho', hd, _⟩ := F.ns
    exact (ho o' ho').2 _ _ hd
  refine ⟨m, ⟨?_, fun b o e => k b o ?_ (F.keep b o e), F.above⟩, fun x d e => ?_, fun q e => ?_⟩
  · obtain ⟨o', es, ep, ho', r⟩ := F.ns
    exact ⟨o', es, ep, k _ _ (by simp [hL]) ho', r⟩
  · intro hb
    rw [List.mem_singleton] at hb; subst hb; rw [hg] at e; cases e
  · obtain ⟨v, as, a, b, c⟩ := hr x d e
    exact ⟨v, as, a, reads_kp k (fun y hy => by rw [List.mem_singleton] at hy; subst hy; exact .inl ho) b, c⟩
  · obtain ⟨a', b, c, items, p, r⟩ := hm q e
    have hl : q.2.1 ≠ a := by
      intro e; obtain ⟨n, p⟩ := p
      rw [e] at p
      exact (ho _ p).1 _ _ rfl
    refine ⟨a', b, c, items, plain_kp k (by simp [hl]) p, ?_⟩
    obtain ⟨as, r⟩ := r
    exact ⟨as, readsAll_kp k (fun y hy => by rw [List.mem_singleton] at hy; subst hy; exact .inl ho) r⟩
end

/-- statements: whatever stands stays, but for the frame's names and the lists at Ws -/
structure Run (M : Model) (A : Around) (env : Env) (Ws : List Addr) (ss : List Stmt) (h : Heap) (P : Flow → Heap → Prop) (X : Value → Heap → Prop) : Prop where
  go : ∀ (s : Shared) (Q : Flow → Shared → Prop) (E : Value → Shared → Prop), s.heap = h → PassesOwn M A env E →
    (∀ fl h' k, Kp (env.locals :: Ws) h h' → P fl h' → Q fl { s with heap := h', toks := k }) →
    (∀ x h' k, X x h' → E x { s with heap := h', toks := k }) → wpAny M A (execs ss env) Q E s
abbrev NoX : Value → Heap → Prop := fun _ _ => False

section
variable {prog : Program} {w : World} {A : Around} {env : Env} {h : Heap} {X : Value → Heap → Prop} {Ws : List Addr} {P : Flow → Heap → Prop} {rest : List Stmt}
theorem run_nil (p : P .next h) : Run (model prog w) A env Ws [] h P X := by
  refine ⟨fun s Q E e po q x => ?_⟩; subst e
  exact wpAny_execs_nil (q _ s.heap s.toks Kp.rfl p)
theorem run_mono {P' : Flow → Heap → Prop} {ss : List Stmt} (r : Run (model prog w) A env Ws ss h P X) (m : ∀ fl h', P fl h' → P' fl h') : Run (model prog w) A env Ws ss h P' X := by
  refine ⟨fun s Q E e po q x => ?_⟩
  exact r.go s Q E e po (fun fl h' k kp p => q fl h' k kp (m _ _ p)) x
theorem run_ret {e : Expr} {pos : Pos} {R : Value → Heap → Prop} (ev : Ev (model prog w) A env h e R X) (k : ∀ v h', Keep h h' → R v h' → P (.ret v) h') : Run (model prog w) A env Ws (.Return (some e) pos :: rest) h P X := by
  refine ⟨fun s Q E e po q x => ?_⟩; subst e
  refine wpAny_execs_cons (wpAny_Return_some (ev.go s _ E Keep.rfl (fun v h' i k' r => ?_) x))
  exact q _ _ _ k'.kp (k v h' k' r)
theorem run_expr {e : Expr} {pos : Pos} {R : Value → Heap → Prop} (ev : Ev (model prog w) A env h e R X) (k : ∀ v h', Keep h h' → R v h' → Run (model prog w) A env Ws rest h' P X)
    (hi : interactive env = false := by rfl) (hs : pl e = true := by rfl) : Run (model prog w) A env Ws (.Expr e pos :: rest) h P X := by
  refine ⟨fun s Q E e po q x => ?_⟩; subst e
  refine wpAny_execs_cons (wpAny_Expr_any (ev.go s _ E Keep.rfl (fun v h' i k' r => ?_) x) hi (pl_swaps hs))
  exact (k v h' k' r).go _ Q E rfl po (fun fl h2 j kp p => q fl h2 j (k'.kp.trans kp) p) (fun y h2 j r => x y h2 j r)

theorem run_ifH {test : Expr} {body orelse : List Stmt} {pos : Pos} {c : Bool} (t : Tr (model prog w) A env h test c X)
    (k1 : c = true → ∀ h', Keep h h' → Run (model prog w) A env Ws body h' (fun fl h2 => match fl with | .next => Run (model prog w) A env Ws rest h2 P X | fl => P fl h2) X)
    (k2 : c = false → ∀ h', Keep h h' → Run (model prog w) A env Ws orelse h' (fun fl h2 => match fl with | .next => Run (model prog w) A env Ws rest h2 P X | fl => P fl h2) X) :
    Run (model prog w) A env Ws (.If test body orelse pos :: rest) h P X := by
  refine ⟨fun s Q E e po q x => ?_⟩; subst e
  refine wpAny_execs_cons (wpAny_If (t.go s _ E Keep.rfl (fun c' h1 i k' r => ?_) x))
  subst r
  have fin : ∀ (ss : List Stmt), Run (model prog w) A env Ws ss h1 (fun fl h2 => match fl with | .next => Run (model prog w) A env Ws rest h2 P X | fl => P fl h2) X →
      wpAny (model prog w) A (execs ss env) (fun f s' => match f with | .next => wpAny (model prog w) A (execs rest env) Q E s' | f => Q f s') E { s with heap := h1, toks := i } := by
    intro ss r
    refine r.go _ _ E rfl po (fun fl h2 j kp p => ?_) (fun y h2 j r => x y h2 j r)
    cases fl with
    | next => exact p.go _ Q E rfl po (fun fl h3 j kp' p' => q fl h3 j (k'.kp.trans (kp.trans kp')) p') (fun y h2 j r => x y h2 j r)
    | brk => exact q _ _ _ (k'.kp.trans kp) p
    | cont => exact q _ _ _ (k'.kp.trans kp) p
    | ret v => exact q _ _ _ (k'.kp.trans kp) p
  cases c' with
  | true => exact fin _ (k1 rfl h1 k')
  | false => exact fin _ (k2 rfl h1 k')
end

section
variable {prog : Program} {w : World} {A : Around} {nm : Str} {sc : Scope} {L fa : Addr} {cd : Value} {g h : Heap} {ρ : Locs} {μ : Mut} {X : Value → Heap → Prop} {Ws : List Addr} {P : Flow → Heap → Prop} {rest : List Stmt}

theorem ev_var {x : Str} {pos : Pos} {d : PyData} (S : St g L h ρ μ) (hv : ρ.lookup x = some d) (hk : sc.kind = .function := by rfl) (hl : (envOf nm sc L fa cd).kindOf x = some .local := by rfl)
    (hd : (x == ("__debug__" : Str)) = false := by decide) : Ev (model prog w) A (envOf nm sc L fa cd) h (.Name x pos) (Rd d) X :=
  EvT.ofS fun s Q E k q => by
    obtain ⟨m, F, hr, _⟩ := (S.keep k).ex
    obtain ⟨v, as, hm, r, _⟩ := hr x d hv
    exact ld F hm (q v s.toks ⟨as, r⟩) hk hl hd
theorem ev_mutL {x : Str} {pos : Pos} {l : Addr} {ds : List PyData} (S : St g L h ρ (some (x, l, ds))) (hk : sc.kind = .function := by rfl) (hl : (envOf nm sc L fa cd).kindOf x = some .local := by rfl)
    (hd : (x == ("__debug__" : Str)) = false := by decide) : Ev (model prog w) A (envOf nm sc L fa cd) h (.Name x pos) (fun v _ => v = .ref l) X :=
  EvT.ofS fun s Q E k q => by
    obtain ⟨m, F, _, hm⟩ := (S.keep k).ex
    obtain ⟨hv, _⟩ := hm _ rfl
    exact ld F hv (q _ s.toks rfl) hk hl hd

theorem fr_set {m : Str → Option Value} {h' : Heap} {x : Str} {v : Value} (F : Fr g L h m) (hn : h'.Ns L (fun y => if y = x then some v else m y)) (hs : Heap.SameBut L h h') : Fr g L h' (fun y => if y = x then some v else m y) := F.set hn hs
theorem kp_same {a : Addr} {h h' : Heap} (hs : Heap.SameBut a h h') : Kp [a] h h' := fun b o n e => by
  rw [hs.2 b (by simpa using n)]; exact e

/-- a name bound to a datum -/
theorem St.store {x : Str} {v : Value} {d : PyData} {as : List Addr} {h' : Heap} {m : Str → Option Value} (S : St g L h ρ μ) (hμ : ∀ q, μ = some q → q.1 ≠ x) (F₀ : Fr g L h m) (r : Reads h v d as) (nL : L ∉ as) (nl : ∀ q, μ = some q → q.2.1 ∉ as)
    (hn : h'.Ns L (fun y => if y = x then some v else m y)) (hs : Heap.SameBut L h h') : St g L h' ((x, d) :: ρ) μ := by
  obtain ⟨m', F, hr, hm⟩ := S.ex
  have em : m' = m := by
    obtain ⟨o, es, ep, h1, h2, _, h4⟩ := F.ns
    obtain ⟨o', es', ep', h1', h2', _, h4'⟩ := F₀.ns
    rw [h1] at h1'; cases h1'; rw [h2] at h2'; cases h2'
    funext y; rw [← h4, ← h4']
  subst em
  have k := kp_same hs
  have hW : ∀ (bs : List Addr), L ∉ bs → ∀ a ∈ [L], Odd a h ∨ (a ∉ bs ∧ NoTup a h) := fun bs hb a ha => by
    rw [List.mem_singleton] at ha; subst ha; exact .inr ⟨hb, noTup_L F⟩
  refine ⟨_, fr_set F hn hs, fun y d' e => ?_, fun q e => ?_⟩
  · rw [List.lookup_cons] at e
    by_cases hb : y = x
    · subst hb
      rw [beq_self_eq_true] at e; cases e
      exact ⟨v, as, by simp, reads_kp k (hW _ nL) r, nL, nl⟩
    · rw [beq_eq_false_iff_ne.mpr hb] at e
      obtain ⟨v', as', a, b, c, d⟩ := hr y d' e
      exact ⟨v', as', by simp [hb, a], reads_kp k (hW _ c) b, c, d⟩
  · obtain ⟨a, b, c, items, p, r'⟩ := hm q e
    refine ⟨by simp [hμ q e, a], b, c, items, plain_kp k (by simpa using L_ne_list F p) p, rdl_flat_kp k c (fun a ha => ?_) r'⟩
    rw [List.mem_singleton] at ha; subst ha; exact noTup_L F

theorem run_assign {x : Str} {px pos : Pos} {e : Expr} {d : PyData} (S : St g L h ρ μ) (ev : Ev (model prog w) A (envOf nm sc L fa cd) h e (Rf h d) X)
    (k : ∀ h', St g L h' ((x, d) :: ρ) μ → Run (model prog w) A (envOf nm sc L fa cd) Ws rest h' P X)
    (hμ : ∀ q, μ = some q → q.1 ≠ x := by intro q e; first | (cases e; done) | (cases e; dsimp only; decide)) (hk : sc.kind = .function := by rfl) (hl : (envOf nm sc L fa cd).kindOf x = some .local := by rfl)
    (hs : pl e = true := by rfl) : Run (model prog w) A (envOf nm sc L fa cd) Ws (.Assign [.Name x px] e pos :: rest) h P X := by
  refine ⟨fun s Q E e po q x' => ?_⟩; subst e
  refine wpAny_execs_cons (wpAny_Assign_Name (ev.go s _ E Keep.rfl (fun v h1 i k1 r => ?_) x') (pl_swaps hs))
  obtain ⟨m, F, hr, hm⟩ := (S.keep k1).ex
  obtain ⟨as, r, hf⟩ := r
  refine wpAny_storeName_local hl F.ns (fun h' hn hsb => ?_) (by show (sc.kind == .class || (sc.kind == .module && L != mainGlobals)) = false; rw [hk]; rfl)
  have S' : St g L h' ((x, d) :: ρ) μ := by
    refine (S.keep k1).store hμ F r (fun hL => ?_) (fun q e hl => ?_) hn hsb
    · obtain ⟨m0, F0, _⟩ := S.ex
      obtain ⟨o, ho⟩ := L_some F0
      rw [hf L hL] at ho; cases ho
    · obtain ⟨m0, F0, _, hm0⟩ := S.ex
      obtain ⟨_, _, _, items, ⟨n, p⟩, _⟩ := hm0 q e
      rw [hf _ hl] at p; cases p
  exact (k h' S').go _ Q E rfl po (fun fl h2 j kp p => q fl h2 j ((k1.kp.trans ((kp_same hsb).mono fun b hb => by rw [List.mem_singleton] at hb; subst hb; exact .head _)).trans kp) p) (fun y h2 j r => x' y h2 j r)
/-- ... a datum without lists in it -/
theorem run_set {x : Str} {px pos : Pos} {e : Expr} {d : PyData} (S : St g L h ρ μ) (ev : Ev (model prog w) A (envOf nm sc L fa cd) h e (Rd d) X)
    (k : ∀ h', St g L h' ((x, d) :: ρ) μ → Run (model prog w) A (envOf nm sc L fa cd) Ws rest h' P X) (hf : flat d = true := by rfl)
    (hμ : ∀ q, μ = some q → q.1 ≠ x := by intro q e; first | (cases e; done) | (cases e; dsimp only; decide)) (hk : sc.kind = .function := by rfl) (hl : (envOf nm sc L fa cd).kindOf x = some .local := by rfl)
    (hs : pl e = true := by rfl) : Run (model prog w) A (envOf nm sc L fa cd) Ws (.Assign [.Name x px] e pos :: rest) h P X :=
  run_assign S (ev.mono fun _ _ _ r => .of_flat hf r) k hμ hk hl hs
/-- ... a new list that is to be changed -/
theorem run_own {x : Str} {px pos : Pos} {e : Expr} {ds : List PyData} (S : St g L h ρ none) (ev : Ev (model prog w) A (envOf nm sc L fa cd) h e (Rl h ds) X)
    (k : ∀ l h', St g L h' ρ (some (x, l, ds)) → Run (model prog w) A (envOf nm sc L fa cd) (l :: Ws) rest h' P X) (hf : flatL ds = true := by rfl) (hx : ρ.lookup x = none := by rfl)
    (hk : sc.kind = .function := by rfl) (hl : (envOf nm sc L fa cd).kindOf x = some .local := by rfl)
    (hs : pl e = true := by rfl) : Run (model prog w) A (envOf nm sc L fa cd) Ws (.Assign [.Name x px] e pos :: rest) h P X := by
  refine ⟨fun s Q E e po q x' => ?_⟩; subst e
  refine wpAny_execs_cons (wpAny_Assign_Name (ev.go s _ E Keep.rfl (fun v h1 i k1 r => ?_) x') (pl_swaps hs))
  obtain ⟨m, F, hr, hm⟩ := (S.keep k1).ex
  obtain ⟨l, items, rfl, p, r, fresh⟩ := r
  refine wpAny_storeName_local hl F.ns (fun h' hn hsb => ?_) (by show (sc.kind == .class || (sc.kind == .module && L != mainGlobals)) = false; rw [hk]; rfl)
  have kp1 : Kp [L] h1 h' := kp_same hsb
  have S' : St g L h' ρ (some (x, l, ds)) := by
    refine ⟨_, fr_set F hn hsb, fun y d' e => ?_, fun q e => ?_⟩
    · have hy : y ≠ x := fun hb => by subst hb; rw [hx] at e; cases e
      obtain ⟨m0, F0, hr0, _⟩ := S.ex
      obtain ⟨v', as', a, b, c, _⟩ := hr0 y d' e
      have em : m0 = m := by
        obtain ⟨o, es, ep, h1, h2, _, h4⟩ := (F0.after k1).ns
        obtain ⟨o', es', ep', h1', h2', _, h4'⟩ := F.ns
        rw [h1] at h1'; cases h1'; rw [h2] at h2'; cases h2'
        funext y; rw [← h4, ← h4']
      subst em
      refine ⟨v', as', by simp [hy, a], reads_kp kp1 (fun a ha => ?_) (PyProof.Rows.Reads.keeps k1 b), c, fun q e hq => ?_⟩
      · rw [List.mem_singleton] at ha; subst ha; exact .inr ⟨c, noTup_L F⟩
      · cases e
        have : ∃ o, s.heap.get? l = some o := reads_some b l hq
        obtain ⟨o, ho⟩ := this
        rw [fresh] at ho; cases ho
    · cases e
      refine ⟨by simp, ?_, hf, items, plain_kp kp1 (by simpa using L_ne_list F p) p, rdl_flat_kp kp1 hf (fun a ha => ?_) r⟩
      · exact S.frK.none fresh
      · rw [List.mem_singleton] at ha; subst ha; exact noTup_L F
  refine (k l h' S').go _ Q E rfl po (fun fl h2 j kp p' => q fl h2 j ?_ p') (fun y h2 j r => x' y h2 j r)
  intro b o nb eb
  have hbl : b ≠ l := fun e => by subst e; rw [fresh] at eb; cases eb
  have hbL : b ≠ L := fun e => nb (by rw [e]; exact .head _)
  refine kp b o ?_ (kp1 b o (by simpa using hbL) (k1 b o eb))
  intro hb
  cases hb with
  | head => exact nb (.head _)
  | tail _ hb => cases hb with
    | head => exact hbl rfl
    | tail _ hb => exact nb (.tail _ hb)

theorem run_if {test : Expr} {body orelse : List Stmt} {pos : Pos} {c : Bool} (S : St g L h ρ μ) (t : Tr (model prog w) A (envOf nm sc L fa cd) h test c X)
    (k1 : c = true → ∀ h', St g L h' ρ μ → Run (model prog w) A (envOf nm sc L fa cd) Ws body h' (fun fl h2 => match fl with | .next => Run (model prog w) A (envOf nm sc L fa cd) Ws rest h2 P X | fl => P fl h2) X)
    (k2 : c = false → ∀ h', St g L h' ρ μ → Run (model prog w) A (envOf nm sc L fa cd) Ws orelse h' (fun fl h2 => match fl with | .next => Run (model prog w) A (envOf nm sc L fa cd) Ws rest h2 P X | fl => P fl h2) X) :
    Run (model prog w) A (envOf nm sc L fa cd) Ws (.If test body orelse pos :: rest) h P X :=
  run_ifH t (fun e h' kp => k1 e h' (S.keep kp)) (fun e h' kp => k2 e h' (S.keep kp))

theorem run_while {test : Expr} {body : List Stmt} {pos : Pos} (J : Nat → Locs → Mut → Prop) (n : Nat) (S : St g L h ρ μ) (j0 : J n ρ μ)
    (step : ∀ n ρ μ h, J n ρ μ → St g L h ρ μ → ∃ b, Tr (model prog w) A (envOf nm sc L fa cd) h test b X ∧
      (b = true → ∀ h', St g L h' ρ μ → Run (model prog w) A (envOf nm sc L fa cd) Ws body h' (fun fl h2 => match fl with
        | .next | .cont => ∃ m ρ' μ', m < n ∧ J m ρ' μ' ∧ St g L h2 ρ' μ'
        | .brk => Run (model prog w) A (envOf nm sc L fa cd) Ws rest h2 P X
        | .ret v => P (.ret v) h2) X) ∧
      (b = false → ∀ h', St g L h' ρ μ → Run (model prog w) A (envOf nm sc L fa cd) Ws rest h' P X)) :
    Run (model prog w) A (envOf nm sc L fa cd) Ws (.While test body [] pos :: rest) h P X := by
  refine ⟨fun s Q E e po q x => ?_⟩; subst e
  refine wpAny_execs_cons (wpAny_While ?_)
  refine codeAny_whileLoop (I := fun n s' => ∃ h' k ρ μ, s' = { s with heap := h', toks := k } ∧ Kp (L :: Ws) s.heap h' ∧ J n ρ μ ∧ St g L h' ρ μ) (fun n s' hI => ?_) n ⟨s.heap, s.toks, ρ, μ, rfl, Kp.rfl, j0, S⟩
  obtain ⟨h1, k1, ρ1, μ1, rfl, kp1, hJ, S1⟩ := hI
  obtain ⟨b, tr, yes, no⟩ := step n ρ1 μ1 h1 hJ S1
  refine wpAny_mono (tr.seq (s := { s with heap := h1, toks := k1 }) (Q := fun c s' => ∃ h2 k2, c = b ∧ s' = { s with heap := h2, toks := k2 } ∧ Keep h1 h2) (E := E) Keep.rfl (fun c h2 k2 kk r => ⟨h2, k2, r, rfl, kk⟩) (fun y h2 j r => x y h2 j r)) (fun c s' hc => ?_) po
  obtain ⟨h2, k2, r, rfl, kk⟩ := hc
  subst r
  have goOn : ∀ h3, Kp (L :: Ws) s.heap h3 → Run (model prog w) A (envOf nm sc L fa cd) Ws rest h3 P X → ∀ k3, wpAny (model prog w) A (execs rest (envOf nm sc L fa cd)) Q E { s with heap := h3, toks := k3 } := by
    intro h3 kp3 r k3
    exact r.go _ Q E rfl po (fun fl h4 k4 kp4 p => q fl h4 k4 (kp3.trans kp4) p) (fun y h4 k4 r => x y h4 k4 r)
  cases c with
  | true =>
    simp only [if_true]
    refine wpAny_passesOwn po ((yes rfl h2 (S1.keep kk)).go _ _ (E) rfl po (fun fl h3 k3 kp3 p => ?_) (fun y h2 j r => x y h2 j r))
    have kpAll : Kp (L :: Ws) s.heap h3 := (kp1.trans kk.kp).trans kp3
    cases fl with
    | next => obtain ⟨m, ρ', μ', hm, hJ', S'⟩ := p; exact ⟨m, hm, h3, k3, ρ', μ', rfl, kpAll, hJ', S'⟩
    | cont => obtain ⟨m, ρ', μ', hm, hJ', S'⟩ := p; exact ⟨m, hm, h3, k3, ρ', μ', rfl, kpAll, hJ', S'⟩
    | brk => exact goOn h3 kpAll p k3
    | ret v => exact q _ _ _ kpAll p
  | false =>
    simp only [Bool.false_eq_true, if_false]
    exact wpAny_execs_nil (goOn h2 (kp1.trans kk.kp) (no rfl h2 (S1.keep kk)) k2)
end
end Mine

namespace Mine
open PySem PySem.Spec PySem.Calls PyProof.Rows

structure Cx where
  prog : Program
  w : World
  p : Program
  loose : List Str
  mean : ExcName → Option Value
  mg : Str → Option Value
  mb : Str → Option Value
abbrev Cx.T (c : Cx) (h : Heap) : Prop := Top c.p c.loose c.mean c.mg c.mb h
abbrev Cx.M (c : Cx) : Model := model c.prog c.w

/-- room for n more frames -/
structure Rm (A : Around) (n : Nat) : Prop where
  hd : A.handled = none
  dep : A.depth + n < recursionLimit
  un : A.units + 3 * n + 100 < cLine
theorem Rm.deeper {A : Around} {n : Nat} {env : Env} (r : Rm A (n + 1)) : Rm (A.deeper env) n :=
  ⟨r.hd, by have := r.dep; show A.depth + 1 + n < _; (first | lia | omega), by have := r.un; show A.units + 3 + 3 * n + 100 < _; (first | lia | omega)⟩
theorem Rm.less {A : Around} {n m : Nat} (r : Rm A n) (h : m ≤ n) : Rm A m := ⟨r.hd, by have := r.dep; (first | lia | omega), by have := r.un; (first | lia | omega)⟩

def retv : Flow → Value
  | .ret v => v
  | _ => .none

/-- what a call of a def gives -/
structure Fn (c : Cx) (n : Nat) (f : Str) (ds : List PyData) (R : Heap → Value → Heap → Prop) : Prop where
  isDef : ∃ dr ∈ recsOf c.p, dr.name = f
  run : ∀ (A : Around) (h : Heap) (vs : List Value) (a : Addr), c.T h → Rm A n → c.mg f = some (.ref a) → RdL ds vs h → EvT c.M A h (call (.ref a) vs) (R h) NoX
abbrev FnD (c : Cx) (n : Nat) (f : Str) (ds : List PyData) (d : PyData) : Prop := Fn c n f ds fun h => Rf h d
abbrev FnL (c : Cx) (n : Nat) (f : Str) (ds : List PyData) (rs : List PyData) : Prop := Fn c n f ds fun h => Rl h rs

theorem rf_old {d : PyData} : ∀ h0 h1 v h', Keep h0 h1 → Rf h1 d v h' → Rf h0 d v h' := fun _ _ _ _ k r => r.old k
theorem rl_old {ds : List PyData} : ∀ h0 h1 v h', Keep h0 h1 → Rl h1 ds v h' → Rl h0 ds v h' := fun _ _ _ _ k r => r.old k

def zipL : List Str → List PyData → Locs
  | x :: xs, d :: ds => (x, d) :: zipL xs ds
  | _, _ => []
theorem zip_reads {g : Heap} : ∀ {xs : List Str} {ds : List PyData} {vs : List Value}, RdL ds vs g → xs.Nodup → xs.length = ds.length →
    ∀ x d, (zipL xs ds).lookup x = some d → ∃ v as, (xs.zip vs).reverse.lookup x = some v ∧ Reads g v d as
  | [], _, _, _, _, _, x, d, e => by simp [zipL] at e
  | y :: xs, [], _, _, _, hl, x, d, e => by simp at hl
  | y :: xs, d' :: ds, vs, r, hn, hl, x, d, e => by
    obtain ⟨v, vs', rfl, r1, r2⟩ := r.uncons
    rw [List.nodup_cons] at hn
    rw [zipL, List.lookup_cons] at e
    rw [List.zip_cons_cons, List.reverse_cons, List.lookup_append]
    by_cases hb : x = y
    · subst hb
      rw [beq_self_eq_true] at e; cases e
      obtain ⟨as, r1⟩ := r1
      refine ⟨v, as, ?_, r1⟩
      have : (xs.zip vs').reverse.lookup x = none := by
        rw [List.lookup_eq_none_iff]
        intro p hp
        have hp' : p ∈ xs.zip vs' := by simpa using hp
        have := (List.of_mem_zip (a := p.1) (b := p.2) hp').1
        rw [bne_iff_ne]
        intro e; rw [e] at hn; exact hn.1 this
      rw [this]; simp [List.lookup]
    · rw [beq_eq_false_iff_ne.mpr hb] at e
      obtain ⟨v', as, q, r⟩ := zip_reads r2 hn.2 (by simpa using hl) x d e
      exact ⟨v', as, by rw [q]; rfl, r⟩

theorem recs_at {p : Program} {g : Stmt → Option DefRec} (hg : recsOf p = p.main.body.filterMap g) {i : Nat} {st : Stmt} {d : DefRec} (h1 : p.main.body[i]? = some st) (h2 : g st = some d) : d ∈ recsOf p := by
  rw [hg]; exact List.mem_filterMap.mpr ⟨st, List.mem_of_getElem? h1, h2⟩
/-- the def at a place of the top -/
theorem def_at {p q : Program} (hq : recsOf q = recsOf p) {g : Stmt → Option DefRec} (i : Nat) {dn : Str} {dp : Arguments} {db : List Stmt} {dd dr' dt bd ts} {dsc : Scope} {dps : Pos} {f : Str} (h1 : p.main.body[i]? = some (.FunctionDef dn dp db dd dr' dt dsc ts bd dps)) (hn : dn = f) (hg : recsOf p = p.main.body.filterMap g)
    (h2 : g (.FunctionDef dn dp db dd dr' dt dsc ts bd dps) = some ⟨dn, dp, db, dsc, dps⟩) : (⟨dn, dp, db, dsc, dps⟩ : DefRec) ∈ recsOf q ∧ dn = f := ⟨by rw [hq]; exact recs_at hg h1 h2, hn⟩

section
variable {c : Cx} {n : Nat} {f : Str} {ds : List PyData} {R : Heap → Value → Heap → Prop}
theorem fn_core {dn : Str} {dp : Arguments} {db : List Stmt} {dsc : Scope} {dps : Pos} {xs : List Str} (hd : (⟨dn, dp, db, dsc, dps⟩ : DefRec) ∈ recsOf c.p ∧ dn = f)
    (hb : ∀ pm cd doc (vs : List Value), vs.length = ds.length → bindArgs (docDef dn dp db dsc pm cd doc) ⟨vs, []⟩ = pure (xs.zip vs))
    (hlen : xs.length = ds.length) (hnd : xs.Nodup) (hloc : ∀ x ∈ xs, dsc.names.lookup x = some .local)
    (hco : dsc.isCoroutine = false) (hgen : dsc.isGenerator = false) (hk : dsc.kind = .function) (hcell : ∀ x ∈ dsc.names, x.2 ≠ .cell)
    (hR : ∀ h0 h1 v h', Keep h0 h1 → R h1 v h' → R h0 v h')
    (k : ∀ (A : Around) (g h : Heap) (L fa : Addr) (cd : Value), c.T g → Rm A n → St g L h (zipL xs ds) none → Run c.M A (envOf dn dsc L fa cd) [] db h (fun fl h' => R g (retv fl) h') NoX) : Fn c (n + 1) f ds R := by
  obtain ⟨hd, hn⟩ := hd
  refine ⟨⟨_, hd, hn⟩, ?_⟩
  intro A h vs a T rm ha r
  refine ⟨fun s Q E kp q x => ?_⟩
  obtain ⟨a', o, pm, cd, doc, h1, h2, h3, h4⟩ := T.fn ⟨dn, dp, db, dsc, dps⟩ hd
  dsimp only at h1 h3 h4
  rw [hn, ha] at h1; cases h1
  refine wpAny_call (call_plain (by have := rm.dep; (first | lia | omega)) (kp _ _ h2) h3 (T.nolimit.keeps kp) (h4.keeps kp) (hb pm cd doc vs (r.len)) (fun y hy => hloc _ (List.of_mem_zip (a := y.1) (b := y.2) hy).1) (fun h₁ F => ?_) hco hgen hk hcell)
  have S : St s.heap s.heap.objs.size h₁ (zipL xs ds) none := by
    refine ⟨_, F, fun x d e => ?_, fun q e => nomatch e⟩
    obtain ⟨v, as, e', r'⟩ := zip_reads (r.keep kp) hnd hlen x d e
    refine ⟨v, as, e', PyProof.Rows.Reads.keeps F.keep r', fun hL => ?_, fun q e => nomatch e⟩
    obtain ⟨o, ho⟩ := reads_some r' _ hL
    exact absurd (Heap.lt_size ho) (Nat.lt_irrefl _)
  refine (k (A.deeper (envOf dn dsc s.heap.objs.size a cd)) s.heap h₁ _ a cd (T.keeps kp) rm.deeper S).go _ _ _ rfl PassesOwn.leaving (fun fl h' i kp' p => ?_) (fun _ _ _ r => r.elim)
  have kk : Keep s.heap h' := fun b o e => kp' b o (by
    intro hb
    rw [List.mem_singleton] at hb
    rw [hb] at e
    exact absurd (Heap.lt_size e) (Nat.lt_irrefl _)) (F.keep b o e)
  have := q (retv fl) h' i kk (hR _ _ _ _ kp p)
  cases fl <;> exact this
end

theorem lens1 {α : Type} {vs : List α} (h : vs.length = 1) : ∃ a, vs = [a] := by
  match vs, h with
  | [a], _ => exact ⟨a, rfl⟩
theorem lens2 {α : Type} {vs : List α} (h : vs.length = 2) : ∃ a b, vs = [a, b] := by
  match vs, h with
  | [a, b], _ => exact ⟨a, b, rfl⟩
theorem lens3 {α : Type} {vs : List α} (h : vs.length = 3) : ∃ a b c, vs = [a, b, c] := by
  match vs, h with
  | [a, b, c], _ => exact ⟨a, b, c, rfl⟩
theorem lens4 {α : Type} {vs : List α} (h : vs.length = 4) : ∃ a b c d, vs = [a, b, c, d] := by
  match vs, h with
  | [a, b, c, d], _ => exact ⟨a, b, c, d, rfl⟩

section
variable {c : Cx} {n : Nat} {f : Str} {R : Heap → Value → Heap → Prop} {dn : Str} {dp : Arguments} {db : List Stmt} {dsc : Scope} {dps : Pos} {x1 x2 x3 x4 : Str} {d1 d2 d3 d4 : PyData}
theorem fn1 (hd : (⟨dn, dp, db, dsc, dps⟩ : DefRec) ∈ recsOf c.p ∧ dn = f) (hR : ∀ h0 h1 v h', Keep h0 h1 → R h1 v h' → R h0 v h')
    (hb : ∀ pm cd doc (v1 : Value), bindArgs (docDef dn dp db dsc pm cd doc) ⟨[v1], []⟩ = pure [(x1, v1)])
    (k : ∀ (A : Around) (g h : Heap) (L fa : Addr) (cd : Value), c.T g → Rm A n → St g L h [(x1, d1)] none → Run c.M A (envOf dn dsc L fa cd) [] db h (fun fl h' => R g (retv fl) h') NoX)
    (hnd : [x1].Nodup := by decide +kernel) (hloc : ∀ x ∈ [x1], dsc.names.lookup x = some .local := by decide +kernel)
    (hco : dsc.isCoroutine = false := by rfl) (hgen : dsc.isGenerator = false := by rfl) (hk : dsc.kind = .function := by rfl) (hcell : ∀ x ∈ dsc.names, x.2 ≠ .cell := by decide +kernel) : Fn c (n + 1) f [d1] R :=
  fn_core (xs := [x1]) hd (fun pm cd doc vs h => by obtain ⟨v1, rfl⟩ := lens1 h; exact hb pm cd doc v1) rfl hnd hloc hco hgen hk hcell hR k
theorem fn2 (hd : (⟨dn, dp, db, dsc, dps⟩ : DefRec) ∈ recsOf c.p ∧ dn = f) (hR : ∀ h0 h1 v h', Keep h0 h1 → R h1 v h' → R h0 v h')
    (hb : ∀ pm cd doc (v1 v2 : Value), bindArgs (docDef dn dp db dsc pm cd doc) ⟨[v1, v2], []⟩ = pure [(x1, v1), (x2, v2)])
    (k : ∀ (A : Around) (g h : Heap) (L fa : Addr) (cd : Value), c.T g → Rm A n → St g L h [(x1, d1), (x2, d2)] none → Run c.M A (envOf dn dsc L fa cd) [] db h (fun fl h' => R g (retv fl) h') NoX)
    (hnd : [x1, x2].Nodup := by decide +kernel) (hloc : ∀ x ∈ [x1, x2], dsc.names.lookup x = some .local := by decide +kernel)
    (hco : dsc.isCoroutine = false := by rfl) (hgen : dsc.isGenerator = false := by rfl) (hk : dsc.kind = .function := by rfl) (hcell : ∀ x ∈ dsc.names, x.2 ≠ .cell := by decide +kernel) : Fn c (n + 1) f [d1, d2] R :=
  fn_core (xs := [x1, x2]) hd (fun pm cd doc vs h => by obtain ⟨v1, v2, rfl⟩ := lens2 h; exact hb pm cd doc v1 v2) rfl hnd hloc hco hgen hk hcell hR k
theorem fn3 (hd : (⟨dn, dp, db, dsc, dps⟩ : DefRec) ∈ recsOf c.p ∧ dn = f) (hR : ∀ h0 h1 v h', Keep h0 h1 → R h1 v h' → R h0 v h')
    (hb : ∀ pm cd doc (v1 v2 v3 : Value), bindArgs (docDef dn dp db dsc pm cd doc) ⟨[v1, v2, v3], []⟩ = pure [(x1, v1), (x2, v2), (x3, v3)])
    (k : ∀ (A : Around) (g h : Heap) (L fa : Addr) (cd : Value), c.T g → Rm A n → St g L h [(x1, d1), (x2, d2), (x3, d3)] none → Run c.M A (envOf dn dsc L fa cd) [] db h (fun fl h' => R g (retv fl) h') NoX)
    (hnd : [x1, x2, x3].Nodup := by decide +kernel) (hloc : ∀ x ∈ [x1, x2, x3], dsc.names.lookup x = some .local := by decide +kernel)
    (hco : dsc.isCoroutine = false := by rfl) (hgen : dsc.isGenerator = false := by rfl) (hk : dsc.kind = .function := by rfl) (hcell : ∀ x ∈ dsc.names, x.2 ≠ .cell := by decide +kernel) : Fn c (n + 1) f [d1, d2, d3] R :=
  fn_core (xs := [x1, x2, x3]) hd (fun pm cd doc vs h => by obtain ⟨v1, v2, v3, rfl⟩ := lens3 h; exact hb pm cd doc v1 v2 v3) rfl hnd hloc hco hgen hk hcell hR k
theorem fn4 (hd : (⟨dn, dp, db, dsc, dps⟩ : DefRec) ∈ recsOf c.p ∧ dn = f) (hR : ∀ h0 h1 v h', Keep h0 h1 → R h1 v h' → R h0 v h')
    (hb : ∀ pm cd doc (v1 v2 v3 v4 : Value), bindArgs (docDef dn dp db dsc pm cd doc) ⟨[v1, v2, v3, v4], []⟩ = pure [(x1, v1), (x2, v2), (x3, v3), (x4, v4)])
    (k : ∀ (A : Around) (g h : Heap) (L fa : Addr) (cd : Value), c.T g → Rm A n → St g L h [(x1, d1), (x2, d2), (x3, d3), (x4, d4)] none → Run c.M A (envOf dn dsc L fa cd) [] db h (fun fl h' => R g (retv fl) h') NoX)
    (hnd : [x1, x2, x3, x4].Nodup := by decide +kernel) (hloc : ∀ x ∈ [x1, x2, x3, x4], dsc.names.lookup x = some .local := by decide +kernel)
    (hco : dsc.isCoroutine = false := by rfl) (hgen : dsc.isGenerator = false := by rfl) (hk : dsc.kind = .function := by rfl) (hcell : ∀ x ∈ dsc.names, x.2 ≠ .cell := by decide +kernel) : Fn c (n + 1) f [d1, d2, d3, d4] R :=
  fn_core (xs := [x1, x2, x3, x4]) hd (fun pm cd doc vs h => by obtain ⟨v1, v2, v3, v4, rfl⟩ := lens4 h; exact hb pm cd doc v1 v2 v3 v4) rfl hnd hloc hco hgen hk hcell hR k
end

section
variable {c : Cx} {n : Nat} {A : Around} {nm : Str} {sc : Scope} {L fa : Addr} {cd : Value} {g h : Heap} {ρ : Locs} {μ : Mut} {X : Value → Heap → Prop}
/-- a call of a def by its name -/
theorem ev_call {k : Nat} {f : Str} {p pos : Pos} {e : Expr} {es : List Expr} {ds : List PyData} {R : Heap → Value → Heap → Prop} (S : St g L h ρ μ) (T : c.T g) (rm : Rm A n) (F : Fn c k f ds R) (a : EvL c.M A (envOf nm sc L fa cd) h pos (e :: es) ds X)
    (hkn : k ≤ n := by decide) (hR : ∀ h0 h1 v h', Keep h0 h1 → R h1 v h' → R h0 v h' := by first | exact rf_old | exact rl_old)
    (hk : sc.kind = .function := by rfl) (hx : (envOf nm sc L fa cd).kindOf f = some .globalImplicit := by rfl) (hd : (f == ("__debug__" : Str)) = false := by decide)
    (he : pl e = true := by rfl) :
    Ev c.M A (envOf nm sc L fa cd) h (.Call (.Name f p) (e :: es) [] pos) (R h) X := by
  refine ⟨fun s Q E k q x => ?_⟩
  obtain ⟨m, F0, _⟩ := (S.keep k).ex
  obtain ⟨dr, hdr, hn⟩ := F.isDef
  obtain ⟨a', o, pm, cd', doc, h1, h2, h3, h4⟩ := T.fn dr hdr
  rw [hn] at h1
  refine wpAny_Call_NameR (ld_global_at F0 T.g h1 ?_ hk hx hd)
  refine callWith_def h3 (a.seq k (fun vs h' i k' r => ?_) x) (pl_star he)
  refine ⟨k' _ _ (F0.keep _ _ h2), ?_⟩
  have T' : c.T h' := T.keeps fun b o e => k' _ _ (F0.keep b o e)
  exact (F.run A h' vs a' T' (rm.less hkn) h1 r).seq (s := { s with heap := h', toks := i }) Keep.rfl (fun v h2 j k2 r2 => q v h2 j (Keep.trans k' k2) (hR _ _ _ _ (k.trans k') r2)) (fun _ _ _ r => r.elim)
/-- ... a datum comes back -/
theorem ev_calld {k : Nat} {f : Str} {p pos : Pos} {e : Expr} {es : List Expr} {ds : List PyData} {d : PyData} (S : St g L h ρ μ) (T : c.T g) (rm : Rm A n) (F : FnD c k f ds d) (a : EvL c.M A (envOf nm sc L fa cd) h pos (e :: es) ds X)
    (hkn : k ≤ n := by decide)
    (hk : sc.kind = .function := by rfl) (hx : (envOf nm sc L fa cd).kindOf f = some .globalImplicit := by rfl) (hd : (f == ("__debug__" : Str)) = false := by decide)
    (he : pl e = true := by rfl) :
    Ev c.M A (envOf nm sc L fa cd) h (.Call (.Name f p) (e :: es) [] pos) (Rd d) X := (ev_call S T rm F a hkn rf_old hk hx hd he).mono fun _ _ _ r => r.rd
end
end Mine

namespace Mine
open PySem PySem.Spec PySem.Calls PyProof.Rows

theorem pl_plain {pos : Pos} {env : Env} : ∀ {es : List Expr}, es.all pl = true → (backTo pos (starEach es env)).any (·.1) = false
  | [], _ => rfl
  | x :: es, h => by
    simp only [List.all_cons, Bool.and_eq_true] at h
    rw [pl_star h.1]
    show (false || (backTo pos (starEach es env)).any (·.1)) = false
    rw [pl_plain h.2]; rfl
/-- the names that the text does not bind -/
def bnames : List Str := ["isinstance", "int", "bool", "tuple", "list", "str", "len", "abs", "min", "max", "range", "reversed", "ValueError"]
def Bn (c : Cx) : Prop := ∀ x ∈ bnames, c.mg x = none

section
variable {c : Cx} {A : Around} {nm : Str} {sc : Scope} {L fa : Addr} {cd : Value} {g h : Heap} {ρ : Locs} {μ : Mut} {X : Value → Heap → Prop}
theorem ev_bname {x : Str} {pos : Pos} {v : Value} (S : St g L h ρ μ) (T : c.T g) (B : Bn c) (hx : x ∈ bnames) (hv : bootBuiltins x = some v) (hn : x ≠ "__name__" := by decide)
    (hk : sc.kind = .function := by rfl) (hg : (envOf nm sc L fa cd).kindOf x = some .globalImplicit := by rfl) (hd : (x == ("__debug__" : Str)) = false := by decide) :
    Ev c.M A (envOf nm sc L fa cd) h (.Name x pos) (fun v' _ => v' = v) X :=
  EvT.ofS fun s Q E k q => by
    obtain ⟨m, F, _⟩ := (S.keep k).ex
    exact ld_builtin_at F T.g (B x hx) T.b ((T.builtins x hn).trans hv) (q v s.toks rfl) hk hg hd
theorem ev_gname {x : Str} {pos : Pos} {v : Value} (S : St g L h ρ μ) (T : c.T g) (hv : c.mg x = some v)
    (hk : sc.kind = .function := by rfl) (hg : (envOf nm sc L fa cd).kindOf x = some .globalImplicit := by rfl) (hd : (x == ("__debug__" : Str)) = false := by decide) :
    Ev c.M A (envOf nm sc L fa cd) h (.Name x pos) (fun v' _ => v' = v) X :=
  EvT.ofS fun s Q E k q => by
    obtain ⟨m, F, _⟩ := (S.keep k).ex
    exact ld_global_at F T.g hv (q v s.toks rfl) hk hg hd

/-- a built-in function by its name -/
theorem ev_bcall {x : Str} {id : String} {p pos : Pos} {e : Expr} {es : List Expr} {ds : List PyData} {R : Value → Heap → Prop} (S : St g L h ρ μ) (T : c.T g) (B : Bn c) (hx : x ∈ bnames) (hv : bootBuiltins x = some (.builtin id))
    (a : EvL c.M A (envOf nm sc L fa cd) h pos (e :: es) ds X) (o : ∀ vs h', Keep h h' → RdL ds vs h' → EvT c.M A h' (call (.builtin id) vs) R X) (hn : x ≠ "__name__" := by decide)
    (hk : sc.kind = .function := by rfl) (hg : (envOf nm sc L fa cd).kindOf x = some .globalImplicit := by rfl) (hd : (x == ("__debug__" : Str)) = false := by decide)
    (he : pl e = true := by rfl) (hpl : es.all pl = true := by rfl) :
    Ev c.M A (envOf nm sc L fa cd) h (.Call (.Name x p) (e :: es) [] pos) R X := by
  refine ⟨fun s Q E k q x' => ?_⟩
  refine wpAny_Call_NameR ((ev_bname S T B hx hv hn hk hg hd).seq k (fun v h1 i k1 r => ?_) x')
  subst r
  refine callWith_builtin1 ((a.up (k.trans k1)).seq (s := { s with heap := h1, toks := i }) Keep.rfl (fun vs h2 j k2 r2 => ?_) (fun y h2 j r => x' y h2 j r)) (pl_star he) (pl_plain hpl)
  exact (o vs h2 (k.trans (Keep.trans k1 k2)) r2).seq (s := { s with heap := h2, toks := j }) Keep.rfl (fun v h3 j k3 r3 => q v h3 j (Keep.trans k1 (Keep.trans k2 k3)) r3) (fun y h3 j r => x' y h3 j r)
/-- a built-in class by its name -/
theorem ev_tcall {x : Str} {id : String} {p pos : Pos} {e : Expr} {es : List Expr} {ds : List PyData} {R : Value → Heap → Prop} (S : St g L h ρ μ) (T : c.T g) (B : Bn c) (hx : x ∈ bnames) (hv : bootBuiltins x = some (.type id))
    (a : EvL c.M A (envOf nm sc L fa cd) h pos (e :: es) ds X) (o : ∀ vs h', Keep h h' → RdL ds vs h' → EvT c.M A h' (call (.type id) vs) R X) (hn : x ≠ "__name__" := by decide)
    (hk : sc.kind = .function := by rfl) (hg : (envOf nm sc L fa cd).kindOf x = some .globalImplicit := by rfl) (hd : (x == ("__debug__" : Str)) = false := by decide)
    (he : pl e = true := by rfl) (hpl : es.all pl = true := by rfl) :
    Ev c.M A (envOf nm sc L fa cd) h (.Call (.Name x p) (e :: es) [] pos) R X := by
  refine ⟨fun s Q E k q x' => ?_⟩
  refine wpAny_Call_NameR ((ev_bname S T B hx hv hn hk hg hd).seq k (fun v h1 i k1 r => ?_) x')
  subst r
  refine PyProof.Rows.callWith_type1 ((a.up (k.trans k1)).seq (s := { s with heap := h1, toks := i }) Keep.rfl (fun vs h2 j k2 r2 => ?_) (fun y h2 j r => x' y h2 j r)) (pl_star he) (pl_plain hpl)
  exact (o vs h2 (k.trans (Keep.trans k1 k2)) r2).seq (s := { s with heap := h2, toks := j }) Keep.rfl (fun v h3 j k3 r3 => q v h3 j (Keep.trans k1 (Keep.trans k2 k3)) r3) (fun y h3 j r => x' y h3 j r)
end

section
variable {prog : Program} {w : World} {A : Around} {h : Heap} {X : Value → Heap → Prop}
def isiB : PyData → String → Bool
  | .int _, T => T == "int"
  | .bool _, T => T == "bool" || T == "int"
  | .str _, T => T == "str"
  | .none, _ => false
  | .list _, T => T == "list"
  | .tuple _, T => T == "tuple"
  | .dict _, T => T == "dict"
def isiTs : List String := ["int", "bool", "tuple", "list", "str"]
theorem op_isi {d : PyData} {T : String} {v : Value} (hT : T ∈ isiTs) (r : Rd d v h) : EvT (model prog w) A h (call (.builtin "isinstance") [v, .type T]) (Rd (.bool (isiB d T))) X := by
  refine EvT.of fun s Q E k q => ?_
  have qt : ∀ b, Rd (.bool b) (.bool b) s.heap := fun b => ⟨_, .bool _⟩
  obtain ⟨as, r⟩ := r
  simp only [isiTs, List.mem_cons, List.not_mem_nil, or_false] at hT
  cases r with
  | int i t =>
    rcases hT with rfl | rfl | rfl | rfl | rfl
    · exact IsiPair.int_int (q _ s.heap s.toks Keep.rfl (qt _))
    · exact IsiPair.int_bool (q _ s.heap _ Keep.rfl (qt _))
    · exact IsiPair.int_tuple (q _ s.heap _ Keep.rfl (qt _))
    · exact IsiPair.int_list (q _ s.heap _ Keep.rfl (qt _))
    · exact IsiPair.int_str (q _ s.heap _ Keep.rfl (qt _))
  | bool b =>
    rcases hT with rfl | rfl | rfl | rfl | rfl
    · exact IsiPair.bool_int (q _ s.heap s.toks Keep.rfl (qt _))
    · exact IsiPair.bool_bool (q _ s.heap s.toks Keep.rfl (qt _))
    · exact IsiPair.bool_tuple (q _ s.heap _ Keep.rfl (qt _))
    · exact IsiPair.bool_list (q _ s.heap _ Keep.rfl (qt _))
    · exact IsiPair.bool_str (q _ s.heap _ Keep.rfl (qt _))
  | str x t =>
    rcases hT with rfl | rfl | rfl | rfl | rfl
    · exact IsiPair.str_int (q _ s.heap _ Keep.rfl (qt _))
    · exact IsiPair.str_bool (q _ s.heap _ Keep.rfl (qt _))
    · exact IsiPair.str_tuple (q _ s.heap _ Keep.rfl (qt _))
    · exact IsiPair.str_list (q _ s.heap _ Keep.rfl (qt _))
    · exact IsiPair.str_str (q _ s.heap s.toks Keep.rfl (qt _))
  | none =>
    rcases hT with rfl | rfl | rfl | rfl | rfl
    · exact call_isinstance (isinstance_false_none (by decide +kernel) F.isi_meta_int (by kernel_rfl)) (q _ s.heap _ Keep.rfl (qt _))
    · exact call_isinstance (isinstance_false_none (by decide +kernel) F.isi_meta_bool (by kernel_rfl)) (q _ s.heap _ Keep.rfl (qt _))
    · exact call_isinstance (isinstance_false_none (by decide +kernel) F.isi_meta_tuple (by kernel_rfl)) (q _ s.heap _ Keep.rfl (qt _))
    · exact call_isinstance (isinstance_false_none (by decide +kernel) F.isi_meta_list (by kernel_rfl)) (q _ s.heap _ Keep.rfl (qt _))
    · exact call_isinstance (isinstance_false_none (by decide +kernel) F.isi_meta_str (by kernel_rfl)) (q _ s.heap _ Keep.rfl (qt _))
  | list h1 h2 h3 y =>
    rcases hT with rfl | rfl | rfl | rfl | rfl
    · exact IsiPair.list_int (k _ _ h1) h2 (q _ s.heap _ Keep.rfl (qt _))
    · exact IsiPair.list_bool (k _ _ h1) h2 (q _ s.heap _ Keep.rfl (qt _))
    · exact IsiPair.list_tuple (k _ _ h1) h2 (q _ s.heap _ Keep.rfl (qt _))
    · exact IsiPair.list_list (k _ _ h1) h2 (q _ s.heap s.toks Keep.rfl (qt _))
    · exact IsiPair.list_str (k _ _ h1) h2 (q _ s.heap _ Keep.rfl (qt _))
  | tuple h1 h2 h3 y =>
    rcases hT with rfl | rfl | rfl | rfl | rfl
    · exact IsiPair.tuple_int (k _ _ h1) h2 (q _ s.heap _ Keep.rfl (qt _))
    · exact IsiPair.tuple_bool (k _ _ h1) h2 (q _ s.heap _ Keep.rfl (qt _))
    · exact IsiPair.tuple_tuple (k _ _ h1) h2 (q _ s.heap s.toks Keep.rfl (qt _))
    · exact IsiPair.tuple_list (k _ _ h1) h2 (q _ s.heap _ Keep.rfl (qt _))
    · exact IsiPair.tuple_str (k _ _ h1) h2 (q _ s.heap _ Keep.rfl (qt _))
  | dict h1 h2 h3 y z =>
    rcases hT with rfl | rfl | rfl | rfl | rfl
    · exact IsiPair.dict_int (k _ _ h1) h2 (q _ s.heap _ Keep.rfl (qt _))
    · exact IsiPair.dict_bool (k _ _ h1) h2 (q _ s.heap _ Keep.rfl (qt _))
    · exact IsiPair.dict_tuple (k _ _ h1) h2 (q _ s.heap _ Keep.rfl (qt _))
    · exact IsiPair.dict_list (k _ _ h1) h2 (q _ s.heap _ Keep.rfl (qt _))
    · exact IsiPair.dict_str (k _ _ h1) h2 (q _ s.heap _ Keep.rfl (qt _))
theorem op_len {ds : List PyData} {v : Value} (hn : ds.length < 2 ^ 62) (r : Rd (.list ds) v h ∨ Rd (.tuple ds) v h) : EvT (model prog w) A h (call (.builtin "len") [v]) (Rd (.int ds.length)) X := by
  refine EvT.ofS fun s Q E k q => ?_
  rcases r with r | r
  · obtain ⟨a, items, rfl, il, r⟩ := rd_list r
    have e : items.size = ds.length := by have := r.len; simpa using this
    obtain ⟨o, ho, il⟩ := il
    refine PyProof.Rows.len_list (items := items) ⟨o, k _ _ ho, il⟩ (by rw [e]; (first | lia | omega)) ?_
    rw [e]; exact q _ _ ⟨_, .int _ _⟩
  · obtain ⟨a, items, rfl, il, r⟩ := rd_tup r
    have e : items.size = ds.length := by have := r.len; simpa using this
    obtain ⟨o, ho, il⟩ := il
    refine PyProof.Rows.len_tuple (items := items) ⟨o, k _ _ ho, il⟩ (by rw [e]; (first | lia | omega)) ?_
    rw [e]; exact q _ _ ⟨_, .int _ _⟩
theorem op_abs {a : Int} {v : Value} (r : Rd (.int a) v h) : EvT (model prog w) A h (call (.builtin "abs") [v]) (Rd (.int a.natAbs)) X := by
  obtain ⟨t, rfl⟩ := rd_int r
  refine EvT.ofS fun s Q E k q => PyProof.Rows.call_abs_int fun u tk => ?_
  have e : (if a < 0 then -a else a) = (a.natAbs : Int) := by split <;> (first | lia | omega)
  rw [e]; exact q _ _ ⟨_, .int _ _⟩
theorem op_max {a b : Int} {v1 v2 : Value} (hh : A.handled = none) (r1 : Rd (.int a) v1 h) (r2 : Rd (.int b) v2 h) : EvT (model prog w) A h (call (.builtin "max") [v1, v2]) (Rd (.int (max a b))) X := by
  obtain ⟨t, rfl⟩ := rd_int r1; obtain ⟨u, rfl⟩ := rd_int r2
  refine EvT.of fun s Q E k q => max_two_ints hh fun h' tk kk => ?_
  by_cases e : b > a
  · rw [if_pos e]; have e' : max a b = b := by (first | lia | omega)
    rw [e'] at q; exact q _ _ _ kk ⟨_, .int _ _⟩
  · rw [if_neg e]; have e' : max a b = a := by (first | lia | omega)
    rw [e'] at q; exact q _ _ _ kk ⟨_, .int _ _⟩
theorem op_min {a b : Int} {v1 v2 : Value} (hh : A.handled = none) (r1 : Rd (.int a) v1 h) (r2 : Rd (.int b) v2 h) : EvT (model prog w) A h (call (.builtin "min") [v1, v2]) (Rd (.int (min a b))) X := by
  obtain ⟨t, rfl⟩ := rd_int r1; obtain ⟨u, rfl⟩ := rd_int r2
  refine EvT.of fun s Q E k q => min_two_ints hh fun h' tk kk => ?_
  by_cases e : b < a
  · rw [if_pos e]; have e' : min a b = b := by (first | lia | omega)
    rw [e'] at q; exact q _ _ _ kk ⟨_, .int _ _⟩
  · rw [if_neg e]; have e' : min a b = a := by (first | lia | omega)
    rw [e'] at q; exact q _ _ _ kk ⟨_, .int _ _⟩
end
end Mine

namespace Mine
open PySem PySem.Spec PySem.Calls PyProof.Rows

section
variable {prog : Program} {w : World} {A : Around} {env : Env} {h : Heap} {X : Value → Heap → Prop}
/-- an item of a tuple, of a list -/
theorem ev_idx {v i : Expr} {pos : Pos} {ds : List PyData} {k : Int} {d : PyData} (ty : Bool) (e1 : Ev (model prog w) A env h v (Rd (if ty then .tuple ds else .list ds)) X) (e2 : Ev (model prog w) A env h i (Rd (.int k)) X)
    (h0 : 0 ≤ k) (hfit : k < 2 ^ 63) (hx : ds[k.toNat]? = some d)
    (hs : pl i = true := by rfl) :
    Ev (model prog w) A env h (.Subscript v i pos) (Rd d) X := by
  refine ⟨fun s Q E k' q x => ?_⟩
  refine Subscript_ (EvT.two e1 e2 rd_mono (v := fun a b => subscriptTail v i a b) (R' := Rd d) (fun v1 v2 h' kk r1 r2 => ?_) k' q x)
  obtain ⟨u, rfl⟩ := rd_int r2
  cases ty with
  | true =>
    obtain ⟨a, items, rfl, ht, r⟩ := rd_tup r1
    obtain ⟨y, hy, ry⟩ := r.at hx
    obtain ⟨o, ho, ht'⟩ := id ht
    refine EvT.ofS fun s' Q' E' k1 q1 => tail_any (T := "tuple") ⟨o, k1 _ _ ho, ht'.1⟩ slot_tuple_getitem.lookup ?_ (pl_sub hs)
    have hj : seqIndex? k items.size = some k.toNat := by
      have : k.toNat < items.size := by
        have := List.getElem?_eq_some_iff.mp hy
        obtain ⟨h1, _⟩ := this
        simpa using h1
      have h1 : ¬ k < 0 := by (first | lia | omega)
      have h2 : k < (items.size : Int) := by (first | lia | omega)
      simp [seqIndex?, h1, h0, h2]
    exact getItem_tuple (items := items) (j := k.toNat) ⟨o, k1 _ _ ho, ht'⟩ (by (first | lia | omega)) hfit hj (by simpa using hy) (q1 _ s'.toks (ry.keep k1))
  | false =>
    obtain ⟨a, items, rfl, ht, r⟩ := rd_list r1
    obtain ⟨y, hy, ry⟩ := r.at hx
    obtain ⟨o, ho, ht'⟩ := id ht
    refine EvT.ofS fun s' Q' E' k1 q1 => tail_any (T := "list") ⟨o, k1 _ _ ho, ht'.1⟩ slot_list_getitem.lookup ?_ (pl_sub hs)
    exact wpAny_getItem_list (items := items) ⟨o, k1 _ _ ho, ht'⟩ h0 hfit (by simpa using hy) (q1 _ s'.toks (ry.keep k1))
theorem ev_tidx {v i : Expr} {pos : Pos} {ds : List PyData} {k : Int} {d : PyData} (e1 : Ev (model prog w) A env h v (Rd (.tuple ds)) X) (e2 : Ev (model prog w) A env h i (Rd (.int k)) X)
    (hx : ds[k.toNat]? = some d := by rfl) (h0 : 0 ≤ k := by decide) (hfit : k < 2 ^ 63 := by decide)
    (hs : pl i = true := by rfl) :
    Ev (model prog w) A env h (.Subscript v i pos) (Rd d) X := ev_idx true e1 e2 h0 hfit hx hs
theorem ev_lidx {v i : Expr} {pos : Pos} {ds : List PyData} {k : Int} {d : PyData} (e1 : Ev (model prog w) A env h v (Rd (.list ds)) X) (e2 : Ev (model prog w) A env h i (Rd (.int k)) X)
    (hx : ds[k.toNat]? = some d) (h0 : 0 ≤ k) (hfit : k < 2 ^ 63)
    (hs : pl i = true := by rfl) :
    Ev (model prog w) A env h (.Subscript v i pos) (Rd d) X := ev_idx false e1 e2 h0 hfit hx hs

theorem ev_div {l r : Expr} {pos : Pos} {a b : Int} (e1 : Ev (model prog w) A env h l (Rd (.int a)) X) (e2 : Ev (model prog w) A env h r (Rd (.int b)) X) (hb : 0 < b) (hs : b < 10 ^ 250) :
    Ev (model prog w) A env h (.BinOp l .FloorDiv r pos) (Rd (.int (a / b))) X := ev_bin e1 e2 fun v1 v2 h' k r1 r2 => by
  obtain ⟨t, rfl⟩ := rd_int r1; obtain ⟨u, rfl⟩ := rd_int r2
  refine EvT.ofS fun _ _ _ _ q => PyProof.Rows.floordiv_int (by (first | lia | omega)) ?_ (.inl (PyProof.noPylong_of_log2 ?_))
  · rw [Int.fdiv_eq_ediv_of_nonneg _ (by (first | lia | omega))]
    exact q _ _ ⟨_, .int _ _⟩
  · have h1 : b.natAbs < 10 ^ 250 := by (first | lia | omega)
    have h2 : (10 : Nat) ^ 250 ≤ 2 ^ 9000 := by decide +kernel
    have h3 : b.natAbs ≠ 0 := by (first | lia | omega)
    exact (Nat.log2_lt h3).mpr (Nat.lt_of_lt_of_le h1 h2)
theorem ev_pow {l r : Expr} {pos : Pos} {a n : Int} (e1 : Ev (model prog w) A env h l (Rd (.int a)) X) (e2 : Ev (model prog w) A env h r (Rd (.int n)) X) (hn : 0 ≤ n) (hn2 : n ≤ 1000000) (ha : a.natAbs < 2 ^ 64) :
    Ev (model prog w) A env h (.BinOp l .Pow r pos) (Rd (.int (a ^ n.toNat))) X := ev_bin e1 e2 fun v1 v2 h' k r1 r2 => by
  obtain ⟨t, rfl⟩ := rd_int r1; obtain ⟨u, rfl⟩ := rd_int r2
  exact EvT.ofS fun _ _ _ _ q => PyProof.Rows.pow_int_small hn hn2 ha (q _ _ ⟨_, .int _ _⟩)

theorem tr_eq {l r : Expr} {pos : Pos} {d1 d2 : PyData} {n : Nat} (rm : Rm A n) (e1 : Ev (model prog w) A env h l (Rd d1) X) (e2 : Ev (model prog w) A env h r (Rd d2) X) (h1 : SeqAt.shaped d1 = true) (h2 : SeqAt.shaped d2 = true)
    (hm : pl r = true := by rfl) : Tr (model prog w) A env h (.Compare l [.Eq] [r] pos) (PyData.eqv d1 d2) X :=
  tr_cmp e1 e2 (fun v1 v2 h' _ r1 r2 => by
    obtain ⟨as, x⟩ := r1; obtain ⟨bs, y⟩ := r2
    exact EvT.ofS fun s _ _ k q => eq_dataH (PyProof.Rows.Reads.keeps k x) (PyProof.Rows.Reads.keeps k y) h1 h2 (by have := rm.un; (first | lia | omega)) (q _ s.toks ⟨_, .bool _⟩)) hm
theorem tr_ne {l r : Expr} {pos : Pos} {d1 d2 : PyData} {n : Nat} (rm : Rm A n) (e1 : Ev (model prog w) A env h l (Rd d1) X) (e2 : Ev (model prog w) A env h r (Rd d2) X) (h1 : SeqAt.shaped d1 = true) (h2 : SeqAt.shaped d2 = true)
    (hm : pl r = true := by rfl) : Tr (model prog w) A env h (.Compare l [.NotEq] [r] pos) (!PyData.eqv d1 d2) X :=
  tr_cmp e1 e2 (fun v1 v2 h' _ r1 r2 => by
    obtain ⟨as, x⟩ := r1; obtain ⟨bs, y⟩ := r2
    exact EvT.ofS fun s _ _ k q => ne_dataH (PyProof.Rows.Reads.keeps k x) (PyProof.Rows.Reads.keeps k y) h1 h2 (by have := rm.un; (first | lia | omega)) (q _ s.toks ⟨_, .bool _⟩)) hm
end

section
variable {c : Cx} {n : Nat} {A : Around} {nm : Str} {sc : Scope} {L fa : Addr} {cd : Value} {g h : Heap} {ρ : Locs} {μ : Mut} {X : Value → Heap → Prop}
theorem ev_isi {T : String} {e : Expr} {p p2 pos : Pos} {d : PyData} (S : St g L h ρ μ) (Tp : c.T g) (B : Bn c) (e1 : Ev c.M A (envOf nm sc L fa cd) h e (Rd d) X) (hx : Str.ofString T ∈ bnames := by decide) (hv : bootBuiltins (Str.ofString T) = some (.type T) := by decide +kernel) (hT : T ∈ isiTs := by decide)
    (hk : sc.kind = .function := by rfl) (hg : (envOf nm sc L fa cd).kindOf (Str.ofString T) = some .globalImplicit := by rfl) (hgi : (envOf nm sc L fa cd).kindOf (Str.ofString "isinstance") = some .globalImplicit := by rfl) (hn : Str.ofString T ≠ "__name__" := by decide) (hd : (Str.ofString T == ("__debug__" : Str)) = false := by decide)
    (he : pl e = true := by rfl) :
    Ev c.M A (envOf nm sc L fa cd) h (.Call (.Name (Str.ofString "isinstance") p) [e, .Name (Str.ofString T) p2] [] pos) (Rd (.bool (isiB d T))) X := by
  refine ⟨fun s Q E k q x' => ?_⟩
  refine wpAny_Call_NameR ((ev_bname (v := .builtin "isinstance") S Tp B (by decide) (by decide +kernel) (by decide) hk hgi (by decide)).seq k (fun v h1 i k1 r => ?_) x')
  subst r
  refine callWith_builtin1 ?_ (pl_star he) rfl
  refine args_cons ((e1.up (k.trans k1)).seq (s := { s with heap := h1, toks := i }) Keep.rfl (fun v h2 j k2 r2 => ?_) (fun y h2 j r => x' y h2 j r)) (pl_star he)
  refine args_cons (((ev_bname (pos := p2) S Tp B hx hv hn hk hg hd).up (k.trans (Keep.trans k1 k2))).seq (s := { s with heap := h2, toks := j }) Keep.rfl (fun v3 h3 j3 k3 r3 => ?_) (fun y h2 j r => x' y h2 j r)) rfl
  subst r3
  refine args_nil ?_
  exact (op_isi hT (r2.keep k3)).seq (s := { s with heap := h3, toks := j3 }) Keep.rfl (fun c h4 j4 k4 r4 => q c h4 j4 (Keep.trans k1 (Keep.trans k2 (Keep.trans k3 k4))) r4) (fun y h3 j r => x' y h3 j r)
end
end Mine

namespace Mine
open PySem PySem.Spec PySem.Calls PyProof.Rows

section
variable {prog : Program} {w : World} {A : Around} {nm : Str} {sc : Scope} {L fa : Addr} {cd : Value} {g h : Heap} {ρ : Locs} {μ : Mut} {X : Value → Heap → Prop} {Ws : List Addr} {P : Flow → Heap → Prop} {rest : List Stmt}

theorem keep_fresh {h h' : Heap} (e : Heap.ExtBut h.objs.size h h') : Keep h h' := fun b o hb => e b o (Nat.ne_of_lt (Heap.lt_size hb)) hb
theorem kp_ext {a : Addr} {h h' : Heap} (e : Heap.ExtBut a h h') : Kp [a] h h' := fun b o n hb => e b o (by simpa using n) hb

theorem st_name {x : Str} {v : Value} {d : PyData} {s : Shared} {Q : Unit → Shared → Prop} {E : Value → Shared → Prop} (S : St g L s.heap ρ μ) (r : Rd d v s.heap) (hf : flat d = true) (hμ : ∀ q, μ = some q → q.1 ≠ x)
    (q : ∀ h' k, Kp [L] s.heap h' → St g L h' ((x, d) :: ρ) μ → Q () { s with heap := h', toks := k })
    (hk : sc.kind = .function) (hl : (envOf nm sc L fa cd).kindOf x = some .local) : wpAny (model prog w) A (storeName (envOf nm sc L fa cd) x v) Q E s := by
  obtain ⟨m, F, hr, hm⟩ := S.ex
  obtain ⟨as, r⟩ := r
  have e := flat_nil hf r
  subst e
  refine wpAny_storeName_local hl F.ns (fun h' hn hsb => ?_) (by show (sc.kind == .class || (sc.kind == .module && L != mainGlobals)) = false; rw [hk]; rfl)
  exact q h' _ (kp_same hsb) (S.store hμ F r List.not_mem_nil (fun _ _ => List.not_mem_nil) hn hsb)

/-- a pair handed to two names -/
theorem assign2 {x y : Str} {px py tp : Pos} {n : Nat} {v : Value} {d1 d2 : PyData} {s : Shared} {Q : Unit → Shared → Prop} {E : Value → Shared → Prop} (hh : A.handled = none) (S : St g L s.heap ρ μ) (r : Rd (.tuple [d1, d2]) v s.heap)
    (h1 : flat d1 = true) (h2 : flat d2 = true) (hx : ∀ q, μ = some q → q.1 ≠ x) (hy : ∀ q, μ = some q → q.1 ≠ y)
    (q : ∀ h' k, Kp [L] s.heap h' → St g L h' ((y, d2) :: (x, d1) :: ρ) μ → Q () { s with heap := h', toks := k })
    (hk : sc.kind = .function) (hlx : (envOf nm sc L fa cd).kindOf x = some .local) (hly : (envOf nm sc L fa cd).kindOf y = some .local) :
    wpAny (model prog w) A (assign (.Tuple [.Name x px, .Name y py] n tp) (envOf nm sc L fa cd) v) Q E s := by
  obtain ⟨a, items, rfl, ht, r⟩ := rd_tup r
  obtain ⟨v1, r', e1, r1, r'⟩ := r.uncons
  obtain ⟨v2, r'', e2, r2, r''⟩ := r'.uncons
  have e3 := r''.unnil
  subst e3; subst e2
  refine wpAny_assign_Tuple hh ht (by rw [← Array.length_toList, e1]; rfl) rfl (fun h' he => ?_)
  have kk := keep_fresh he
  rw [e1]
  refine wpAny_assignInOrder_more (PyProof.Rows.assign_Name (st_name (s := { s with heap := h' }) (S.keep kk) (r1.keep kk) h1 hx (fun h2' k2 kp2 S2 => ?_) hk hlx))
  have r2' : Rd d2 v2 h2' := by
    obtain ⟨as, z⟩ := r2.keep kk
    have e := flat_nil h2 z
    subst e
    obtain ⟨m, F, _⟩ := (S.keep kk).ex
    exact ⟨_, reads_kp kp2 (fun a ha => by rw [List.mem_singleton] at ha; subst ha; exact .inr ⟨List.not_mem_nil, noTup_L F⟩) z⟩
  refine wpAny_assignInOrder_more (PyProof.Rows.assign_Name (st_name (s := { s with heap := h2', toks := k2 }) S2 r2' h2 hy (fun h3 k3 kp3 S3 => ?_) hk hly))
  exact wpAny_assignInOrder_none (q h3 k3 ((kk.kp.trans kp2).trans kp3) S3)
theorem run_unpack2 {x y : Str} {px py tp pos : Pos} {n : Nat} {e : Expr} {d1 d2 : PyData} (hh : A.handled = none) (S : St g L h ρ μ) (ev : Ev (model prog w) A (envOf nm sc L fa cd) h e (Rd (.tuple [d1, d2])) X)
    (k : ∀ h', St g L h' ((y, d2) :: (x, d1) :: ρ) μ → Run (model prog w) A (envOf nm sc L fa cd) Ws rest h' P X) (h1 : flat d1 = true := by rfl) (h2 : flat d2 = true := by rfl)
    (hx : ∀ q, μ = some q → q.1 ≠ x := by intro q e; first | (cases e; done) | (cases e; dsimp only; decide)) (hy : ∀ q, μ = some q → q.1 ≠ y := by intro q e; first | (cases e; done) | (cases e; dsimp only; decide))
    (hk : sc.kind = .function := by rfl) (hlx : (envOf nm sc L fa cd).kindOf x = some .local := by rfl) (hly : (envOf nm sc L fa cd).kindOf y = some .local := by rfl)
    (hs : swapsWithSole [.Tuple [.Name x px, .Name y py] n tp] e pos.line (envOf nm sc L fa cd) = pure false := by rfl) (hw : swappedStores [.Tuple [.Name x px, .Name y py] n tp] e (envOf nm sc L fa cd) = pure none := by rfl) :
    Run (model prog w) A (envOf nm sc L fa cd) Ws (.Assign [.Tuple [.Name x px, .Name y py] n tp] e pos :: rest) h P X := by
  refine ⟨fun s Q E e po q x' => ?_⟩; subst e
  refine wpAny_execs_cons (Assign_Tuple (ev.go s _ E Keep.rfl (fun v h1' i k1 r => ?_) x') hs hw)
  refine assign2 (s := { s with heap := h1', toks := i }) hh (S.keep k1) r h1 h2 hx hy (fun h' k' kp S' => ?_) hk hlx hly
  exact (k h' S').go _ Q E rfl po (fun fl h2 j kp' p => q fl h2 j ((k1.kp.trans (kp.mono fun b hb => by rw [List.mem_singleton] at hb; subst hb; exact .head _)).trans kp') p) (fun y h2 j r => x' y h2 j r)
/-- x, y = e1, e2: the stores go from behind -/
theorem run_swap2 {x y : Str} {px py tp pos vp : Pos} {n n' : Nat} {es : List Expr} {d1 d2 : PyData} (hh : A.handled = none) (S : St g L h ρ μ) (ev : EvL (model prog w) A (envOf nm sc L fa cd) h vp es [d1, d2] X)
    (k : ∀ h', St g L h' ((x, d1) :: (y, d2) :: ρ) μ → Run (model prog w) A (envOf nm sc L fa cd) Ws rest h' P X) (h1 : flat d1 = true := by rfl) (h2 : flat d2 = true := by rfl)
    (hx : ∀ q, μ = some q → q.1 ≠ x := by intro q e; first | (cases e; done) | (cases e; dsimp only; decide)) (hy : ∀ q, μ = some q → q.1 ≠ y := by intro q e; first | (cases e; done) | (cases e; dsimp only; decide))
    (hk : sc.kind = .function := by rfl) (hlx : (envOf nm sc L fa cd).kindOf x = some .local := by rfl) (hly : (envOf nm sc L fa cd).kindOf y = some .local := by rfl)
    (hs : swapsWithSole [.Tuple [.Name x px, .Name y py] n tp] (.Tuple es n' vp) pos.line (envOf nm sc L fa cd) = pure false := by rfl) (hw : swappedStores [.Tuple [.Name x px, .Name y py] n tp] (.Tuple es n' vp) (envOf nm sc L fa cd) = pure (some [x, y]) := by rfl) :
    Run (model prog w) A (envOf nm sc L fa cd) Ws (.Assign [.Tuple [.Name x px, .Name y py] n tp] (.Tuple es n' vp) pos :: rest) h P X := by
  refine ⟨fun s Q E e po q x' => ?_⟩; subst e
  refine wpAny_execs_cons (Assign_Tuple_swapped (names := [x, y]) ((ev_tup ev).go s _ E Keep.rfl (fun v h1' i k1 r => ?_) x') hs hw)
  obtain ⟨a, items, rfl, ht, r⟩ := rd_tup r
  obtain ⟨v1, r', e1, r1, r'⟩ := r.uncons
  obtain ⟨v2, r'', e2, r2, r''⟩ := r'.uncons
  have e3 := r''.unnil
  subst e3; subst e2
  have hsz : ([x, y] : List Str).length = items.size := by rw [← Array.length_toList, e1]; rfl
  rw [hsz]
  refine wpAny_unpackItems_tuple (s := { s with heap := h1', toks := i }) hh ht (fun h' he => ?_)
  have kk := keep_fresh he
  rw [e1]
  refine wpAny_assignInOrder_more (wpAny_bindName (st_name (s := { s with heap := h', toks := i }) ((S.keep k1).keep kk) (r2.keep kk) h2 hy (fun h2' k2 kp2 S2 => ?_) hk hly))
  have r1' : Rd d1 v1 h2' := by
    obtain ⟨as, z⟩ := r1.keep kk
    have e := flat_nil h1 z
    subst e
    obtain ⟨m, F, _⟩ := ((S.keep k1).keep kk).ex
    exact ⟨_, reads_kp kp2 (fun a ha => by rw [List.mem_singleton] at ha; subst ha; exact .inr ⟨List.not_mem_nil, noTup_L F⟩) z⟩
  refine wpAny_assignInOrder_more (wpAny_bindName (st_name (s := { s with heap := h2', toks := k2 }) S2 r1' h1 hx (fun h3 k3 kp3 S3 => ?_) hk hlx))
  refine wpAny_assignInOrder_none ?_
  have kpA : Kp (L :: Ws) s.heap h3 := (k1.kp.trans ((kk.kp.trans kp2).trans kp3 |>.mono fun b hb => by rw [List.mem_singleton] at hb; subst hb; exact .head _))
  exact (k h3 S3).go _ Q E rfl po (fun fl h2 j kp' p => q fl h2 j (kpA.trans kp') p) (fun y h2 j r => x' y h2 j r)
end

/-- an iterator that is at its i-th thing -/
structure Itr (prog : Program) (w : World) (A : Around) (W : List Addr) (it : Addr) (ds : List PyData) (I : Nat → Heap → Prop) : Prop where
  item : ∀ {i d} {s : Shared} {Q : Option Value → Shared → Prop} {E : Value → Shared → Prop}, ds[i]? = some d → I i s.heap →
    (∀ v h' k, I (i + 1) h' → Kp [it] s.heap h' → Rd d v h' → Q (some v) { s with heap := h', toks := k }) → wpAny (model prog w) A (pyNext (.ref it)) Q E s
  stop : ∀ {s : Shared} {Q : Option Value → Shared → Prop} {E : Value → Shared → Prop}, I ds.length s.heap →
    (∀ h' k, Kp [it] s.heap h' → Q none { s with heap := h', toks := k }) → wpAny (model prog w) A (pyNext (.ref it)) Q E s
  stay : ∀ {i h h'}, I i h → Kp W h h' → I i h'
  odd : ∀ {i h}, I i h → Odd it h ∧ ∃ o, h.get? it = some o
  go : ∀ {i} {s : Shared} {elts x1 pos T} {Q : Unit → Shared → Prop} {E : Value → Shared → Prop}, I i s.heap → Q () s → wpAny (model prog w) A (letOwnedTupleGo (.Tuple elts x1 pos) (.ref it) (.ref T)) Q E s
/-- what a for goes over -/
def Iter (prog : Program) (w : World) (A : Around) (env : Env) (W : List Addr) (h : Heap) (e : Expr) (ds : List PyData) (X : Value → Heap → Prop) : Prop :=
  ∀ (s : Shared) (Q : Value → Shared → Prop) (E : Value → Shared → Prop), Keep h s.heap →
    (∀ it I h' k, Keep s.heap h' → Itr prog w A W it ds I → I 0 h' → s.heap.get? it = none → Q (.ref it) { s with heap := h', toks := k }) →
    (∀ x h' k, X x h' → E x { s with heap := h', toks := k }) →
    wpAny (model prog w) A (eval e env) (fun x s₁ => wpAny (model prog w) A (pyIter x) Q E s₁) E s

section
variable {prog : Program} {w : World} {A : Around} {nm : Str} {sc : Scope} {L fa : Addr} {cd : Value} {g h : Heap} {ρ : Locs} {μ : Mut} {X : Value → Heap → Prop} {Ws : List Addr} {P : Flow → Heap → Prop} {rest : List Stmt}

/-- the loop, whatever the target -/
theorem run_forG {target : Expr} {iter : Expr} {body : List Stmt} {pos : Pos} {ds : List PyData} (J : Nat → Locs → Mut → Prop) (S : St g L h ρ μ) (it : Iter prog w A (envOf nm sc L fa cd) (L :: Ws) h iter ds X) (j0 : J 0 ρ μ)
    (hold : ∀ b ∈ L :: Ws, ∃ o, h.get? b = some o)
    (asg : ∀ {i d ρ μ} {s : Shared} {Q : Unit → Shared → Prop} {E : Value → Shared → Prop} {it' : Addr} {I : Nat → Heap → Prop} {v : Value}, ds[i]? = some d → J i ρ μ → St g L s.heap ρ μ → Rd d v s.heap → Itr prog w A (L :: Ws) it' ds I → I (i + 1) s.heap →
      (∀ h' k, Kp [L] s.heap h' → (Run (model prog w) A (envOf nm sc L fa cd) Ws body h' (fun fl h2 => match fl with
        | .next | .cont => ∃ ρ' μ', J (i + 1) ρ' μ' ∧ St g L h2 ρ' μ'
        | .brk => Run (model prog w) A (envOf nm sc L fa cd) Ws rest h2 P X
        | .ret v => P (.ret v) h2) X) → Q () { s with heap := h', toks := k }) →
      wpAny (model prog w) A (letOwnedTupleGo target (.ref it') v) (fun _ s' => wpAny (model prog w) A (assign target (envOf nm sc L fa cd) v) Q E s') E s)
    (fin : ∀ ρ μ h, J ds.length ρ μ → St g L h ρ μ → Run (model prog w) A (envOf nm sc L fa cd) Ws rest h P X)
    (hs : pl iter = true := by rfl) :
    Run (model prog w) A (envOf nm sc L fa cd) Ws (.For target iter body [] pos :: rest) h P X := by
  refine ⟨fun s Q E e po q x => ?_⟩; subst e
  refine wpAny_execs_cons (wpAny_For (it s _ E Keep.rfl (fun it' I h1 k1 kk hit hI hnew => ?_) x) (pl_fold hs))
  have hitW : ∀ b ∈ L :: Ws, b ≠ it' := fun b hb e => by
    obtain ⟨o, ho⟩ := hold b hb
    subst e; rw [hnew] at ho; cases ho
  have hg : g.get? it' = none := S.frK.none hnew
  -- what changes at the iterator alone was not there before
  have goOn : ∀ h3, Kp (it' :: L :: Ws) s.heap h3 → Run (model prog w) A (envOf nm sc L fa cd) Ws rest h3 P X → ∀ k3, wpAny (model prog w) A (execs rest (envOf nm sc L fa cd)) Q E { s with heap := h3, toks := k3 } := by
    intro h3 kp3 r k3
    refine r.go _ Q E rfl po (fun fl h4 k4 kp4 p => q fl h4 k4 ?_ p) (fun y h4 k4 r => x y h4 k4 r)
    intro b o nb eb
    refine kp4 b o nb (kp3 b o (fun hb => ?_) eb)
    cases hb with
    | head => rw [hnew] at eb; cases eb
    | tail _ hb => exact nb hb
  refine codeAny_forLoop_any (I := fun n s' => ∃ i h' k ρ μ, n = ds.length - i ∧ i ≤ ds.length ∧ s' = { s with heap := h', toks := k } ∧ Kp (it' :: L :: Ws) s.heap h' ∧ I i h' ∧ J i ρ μ ∧ St g L h' ρ μ) (fun n s' hI' => ?_) ds.length
    ⟨0, h1, k1, ρ, μ, rfl, Nat.zero_le _, rfl, kk.kp, hI, j0, S.keep kk⟩
  obtain ⟨i, h2, k2, ρ2, μ2, rfl, hi, rfl, kp2, hI2, hJ2, S2⟩ := hI'
  have kpIt : ∀ {ha hb : Heap}, Kp (it' :: L :: Ws) s.heap ha → Kp [it'] ha hb → Kp (it' :: L :: Ws) s.heap hb := fun k1 k2 => k1.trans (k2.mono fun b hb => by rw [List.mem_singleton] at hb; subst hb; exact .head _)
  by_cases hlt : i < ds.length
  · have hd : ds[i]? = some ds[i] := List.getElem?_eq_getElem hlt
    refine hit.item (s := { s with heap := h2, toks := k2 }) hd hI2 (fun v h3 k3 hI3 kp3 r3 => ?_)
    have S3 : St g L h3 ρ2 μ2 := S2.odd (hit.odd hI2).1 (hit.odd hI2).2 hg kp3
    refine wpAny_mono (asg (s := { s with heap := h3, toks := k3 }) hd hJ2 S3 r3 hit hI3 (Q := fun _ s' => ∃ h4 k4, s' = { s with heap := h4, toks := k4 } ∧ Kp [L] h3 h4 ∧ Run (model prog w) A (envOf nm sc L fa cd) Ws body h4 (fun fl h2 => match fl with
        | .next | .cont => ∃ ρ' μ', J (i + 1) ρ' μ' ∧ St g L h2 ρ' μ'
        | .brk => Run (model prog w) A (envOf nm sc L fa cd) Ws rest h2 P X
        | .ret v => P (.ret v) h2) X) (E := E) (fun h4 k4 kp4 R4 => ⟨h4, k4, rfl, kp4, R4⟩)) (fun _ s' hs' => wpAny_mono hs' (fun _ s'' hq => ?_) po) po
    obtain ⟨h4, k4, rfl, kp4, R4⟩ := hq
    have hI4 : I (i + 1) h4 := hit.stay hI3 (kp4.mono fun b hb => by rw [List.mem_singleton] at hb; subst hb; exact .head _)
    have kpA : Kp (it' :: L :: Ws) s.heap h4 := (kpIt kp2 kp3).trans (kp4.mono fun b hb => by rw [List.mem_singleton] at hb; subst hb; exact .tail _ (.head _))
    refine wpAny_passesOwn po (R4.go _ _ (E) rfl po (fun fl h5 k5 kp5 p => ?_) (fun y h2 j r => x y h2 j r))
    have kpB : Kp (it' :: L :: Ws) s.heap h5 := kpA.trans (kp5.mono fun b hb => .tail _ hb)
    have kpC : Kp (L :: Ws) s.heap h5 := fun b o nb eb => kpB b o (fun hb => by
      cases hb with
      | head => rw [hnew] at eb; cases eb
      | tail _ hb => exact nb hb) eb
    cases fl with
    | next => obtain ⟨ρ', μ', hJ', S'⟩ := p; exact ⟨ds.length - (i + 1), by (first | lia | omega), i + 1, h5, k5, ρ', μ', rfl, by (first | lia | omega), rfl, kpB, hit.stay hI4 kp5, hJ', S'⟩
    | cont => obtain ⟨ρ', μ', hJ', S'⟩ := p; exact ⟨ds.length - (i + 1), by (first | lia | omega), i + 1, h5, k5, ρ', μ', rfl, by (first | lia | omega), rfl, kpB, hit.stay hI4 kp5, hJ', S'⟩
    | brk => exact goOn h5 kpB p k5
    | ret v => exact q _ _ _ kpC p
  · have e : i = ds.length := by (first | lia | omega)
    subst e
    refine hit.stop (s := { s with heap := h2, toks := k2 }) hI2 (fun h3 k3 kp3 => ?_)
    have S3 : St g L h3 ρ2 μ2 := S2.odd (hit.odd hI2).1 (hit.odd hI2).2 hg kp3
    exact wpAny_execs_nil (goOn h3 (kpIt kp2 kp3) (fin ρ2 μ2 h3 hJ2 S3) k3)

/-- for x in .. -/
theorem run_for {x : Str} {px : Pos} {iter : Expr} {body : List Stmt} {pos : Pos} {ds : List PyData} (J : Nat → Locs → Mut → Prop) (S : St g L h ρ μ) (it : Iter prog w A (envOf nm sc L fa cd) (L :: Ws) h iter ds X) (j0 : J 0 ρ μ)
    (hold : ∀ b ∈ L :: Ws, ∃ o, h.get? b = some o)
    (step : ∀ i d ρ μ h, ds[i]? = some d → J i ρ μ → St g L h ((x, d) :: ρ) μ → Run (model prog w) A (envOf nm sc L fa cd) Ws body h (fun fl h2 => match fl with
        | .next | .cont => ∃ ρ' μ', J (i + 1) ρ' μ' ∧ St g L h2 ρ' μ'
        | .brk => Run (model prog w) A (envOf nm sc L fa cd) Ws rest h2 P X
        | .ret v => P (.ret v) h2) X)
    (fin : ∀ ρ μ h, J ds.length ρ μ → St g L h ρ μ → Run (model prog w) A (envOf nm sc L fa cd) Ws rest h P X)
    (hf : ∀ d ∈ ds, flat d = true) (hμ : ∀ i ρ μ, J i ρ μ → ∀ q, μ = some q → q.1 ≠ x)
    (hs : pl iter = true := by rfl) (hk : sc.kind = .function := by rfl) (hl : (envOf nm sc L fa cd).kindOf x = some .local := by rfl) :
    Run (model prog w) A (envOf nm sc L fa cd) Ws (.For (.Name x px) iter body [] pos :: rest) h P X := by
  refine run_forG J S it j0 hold ?_ fin hs
  intro i d ρ μ s Q E it' I v hd hJ S r hit hI q
  refine wpAny_of_eq (a := ()) rfl ?_
  refine PyProof.Rows.assign_Name (st_name S r (hf d (List.mem_of_getElem? hd)) (hμ i ρ μ hJ) (fun h' k kp S' => q h' k kp (step i d ρ μ h' hd hJ S')) hk hl)
/-- for x, y in .. -/
theorem run_for2 {x y : Str} {px py tp : Pos} {n : Nat} {iter : Expr} {body : List Stmt} {pos : Pos} {ds : List PyData} (hh : A.handled = none) (J : Nat → Locs → Mut → Prop) (S : St g L h ρ μ) (it : Iter prog w A (envOf nm sc L fa cd) (L :: Ws) h iter ds X) (j0 : J 0 ρ μ)
    (hold : ∀ b ∈ L :: Ws, ∃ o, h.get? b = some o)
    (step : ∀ i d1 d2 ρ μ h, ds[i]? = some (.tuple [d1, d2]) → J i ρ μ → St g L h ((y, d2) :: (x, d1) :: ρ) μ → Run (model prog w) A (envOf nm sc L fa cd) Ws body h (fun fl h2 => match fl with
        | .next | .cont => ∃ ρ' μ', J (i + 1) ρ' μ' ∧ St g L h2 ρ' μ'
        | .brk => Run (model prog w) A (envOf nm sc L fa cd) Ws rest h2 P X
        | .ret v => P (.ret v) h2) X)
    (fin : ∀ ρ μ h, J ds.length ρ μ → St g L h ρ μ → Run (model prog w) A (envOf nm sc L fa cd) Ws rest h P X)
    (hf : ∀ d ∈ ds, ∃ d1 d2, d = .tuple [d1, d2] ∧ flat d1 = true ∧ flat d2 = true) (hx : ∀ i ρ μ, J i ρ μ → ∀ q, μ = some q → q.1 ≠ x ∧ q.1 ≠ y)
    (hs : pl iter = true := by rfl) (hk : sc.kind = .function := by rfl) (hlx : (envOf nm sc L fa cd).kindOf x = some .local := by rfl) (hly : (envOf nm sc L fa cd).kindOf y = some .local := by rfl) :
    Run (model prog w) A (envOf nm sc L fa cd) Ws (.For (.Tuple [.Name x px, .Name y py] n tp) iter body [] pos :: rest) h P X := by
  refine run_forG J S it j0 hold ?_ fin hs
  intro i d ρ μ s Q E it' I v hd hJ S r hit hI q
  obtain ⟨d1, d2, rfl, h1, h2⟩ := hf d (List.mem_of_getElem? hd)
  obtain ⟨a, items, rfl, _⟩ := rd_tup r
  refine hit.go hI ?_
  exact assign2 hh S r h1 h2 (fun q e => (hx i ρ μ hJ q e).1) (fun q e => (hx i ρ μ hJ q e).2) (fun h' k kp S' => q h' k kp (step i d1 d2 ρ μ h' hd hJ S')) hk hlx hly
end
end Mine

namespace Mine
open PySem PySem.Spec PySem.Calls PyProof.Rows

theorem flatL_append {ds es : List PyData} (h : flatL ds = true) (h' : flatL es = true) : flatL (ds ++ es) = true := by
  induction ds with
  | nil => exact h'
  | cons a r ih =>
    simp only [flatL, Bool.and_eq_true] at h
    simp only [List.cons_append, flatL, Bool.and_eq_true]
    exact ⟨h.1, ih h.2⟩
theorem flatL_snoc {ds : List PyData} {d : PyData} (h : flatL ds = true) (h' : flat d = true) : flatL (ds ++ [d]) = true := flatL_append h (by simp [flatL, h'])
/-- a list that is not written to by the loop -/
def SrcL (W : List Addr) (ds : List PyData) (v : Value) (h : Heap) : Prop := ∃ l items, v = .ref l ∧ h.IsList l items ∧ l ∉ W ∧ ∀ h', Kp W h h' → RdL ds items.toList h'
def SrcT (W : List Addr) (ds : List PyData) (v : Value) (h : Heap) : Prop := ∃ l items, v = .ref l ∧ h.IsTuple l items ∧ l ∉ W ∧ ∀ h', Kp W h h' → RdL ds items.toList h'

section
variable {g h : Heap} {L : Addr} {ρ : Locs} {μ : Mut} {Ws : List Addr}
/-- the places that may be written are the frame and its own list -/
def Wok (μ : Mut) (Ws : List Addr) : Prop := ∀ a ∈ Ws, ∃ q, μ = some q ∧ q.2.1 = a
theorem wok_nil : Wok μ [] := fun _ h => nomatch h
theorem w_noTup (S : St g L h ρ μ) (hW : Wok μ Ws) : ∀ a ∈ L :: Ws, NoTup a h ∧ ∃ o, h.get? a = some o := by
  obtain ⟨m, F, _, hm⟩ := S.ex
  intro a ha
  cases ha with
  | head => exact ⟨noTup_L F, L_some F⟩
  | tail _ ha =>
    obtain ⟨q, e, rfl⟩ := hW a ha
    obtain ⟨_, _, _, items, p, _⟩ := hm q e
    exact ⟨noTup_list p, let ⟨_, p⟩ := p; ⟨_, p⟩⟩
theorem w_hold (S : St g L h ρ μ) (hW : Wok μ Ws) : ∀ b ∈ L :: Ws, ∃ o, h.get? b = some o := fun b hb => (w_noTup S hW b hb).2
end

theorem listIter_kp {W : List Addr} {h h' : Heap} {it l : Addr} {i : Nat} (k : Kp W h h') (n : it ∉ W) (x : h.IsListIter it l i) : h'.IsListIter it l i := let ⟨o, ho, r⟩ := x; ⟨o, k _ _ n ho, r⟩
theorem isList_kp {W : List Addr} {h h' : Heap} {l : Addr} {items} (k : Kp W h h') (n : l ∉ W) (x : h.IsList l items) : h'.IsList l items := let ⟨o, ho, r⟩ := x; ⟨o, k _ _ n ho, r⟩
theorem isTuple_kp {W : List Addr} {h h' : Heap} {l : Addr} {items} (k : Kp W h h') (n : l ∉ W) (x : h.IsTuple l items) : h'.IsTuple l items := let ⟨o, ho, r⟩ := x; ⟨o, k _ _ n ho, r⟩
theorem tupIter_kp {W : List Addr} {h h' : Heap} {it l : Addr} {i : Nat} (k : Kp W h h') (n : it ∉ W) (x : h.IsTupleIter it l i) : h'.IsTupleIter it l i := let ⟨o, ho, r⟩ := x; ⟨o, k _ _ n ho, r⟩
theorem size_none (h : Heap) : h.get? h.objs.size = none := by
  cases hq : h.get? h.objs.size with
  | none => rfl
  | some o => exact absurd (Heap.lt_size hq) (Nat.lt_irrefl _)
theorem kp_push {W : List Addr} {h h' : Heap} {o : Obj} (k : Kp (h.objs.size :: W) (h.push o) h') : Kp W h h' := fun b o' n e => k b o' (fun hb => by
  cases hb with
  | head => rw [size_none] at e; cases e
  | tail _ hb => exact n hb) (Heap.get?_push_of_some _ e)

section
variable {prog : Program} {w : World} {A : Around} {env : Env} {W : List Addr} {h : Heap} {X : Value → Heap → Prop}

theorem odd_fields {h : Heap} {a : Addr} {o : Obj} {fs : Array Value} (ho : h.get? a = some o) (hd : o.data = .fields fs) : Odd a h ∧ ∃ o, h.get? a = some o :=
  ⟨fun o' e => by rw [ho] at e; cases e; rw [hd]; exact ⟨(fun _ _ e => by cases e), (fun _ _ e => by cases e)⟩, o, ho⟩

theorem iter_list {e : Expr} {ds : List PyData} (hh : A.handled = none) (ev : Ev (model prog w) A env h e (SrcL W ds) X) (hold : ∀ b ∈ W, ∃ o, h.get? b = some o) : Iter prog w A env W h e ds X := by
  intro s Q E k q x
  refine ev.go s _ E k (fun v h1 i k1 r => ?_) x
  obtain ⟨l, items, rfl, hl, hlW, st⟩ := r
  refine wpAny_pyIter_list (s := { s with heap := h1, toks := i }) hl ?_
  have hitW : h1.objs.size ∉ W := fun hm => by
    obtain ⟨o, ho⟩ := hold _ hm
    have := k1 _ _ (k _ _ ho)
    rw [size_none] at this; cases this
  have hlit : l ≠ h1.objs.size := fun e => by
    obtain ⟨o, ho, _⟩ := hl
    rw [e, size_none] at ho; cases ho
  have hlen : items.size = ds.length := by
    have := (st h1 Kp.rfl).len
    simpa using this
  refine q h1.objs.size (fun i h' => h'.IsListIter h1.objs.size l i ∧ h'.IsList l items ∧ ∀ h'', Kp (h1.objs.size :: W) h' h'' → RdL ds items.toList h'') _ _ (Keep.push k1 _) ?_ ⟨⟨_, Heap.get?_push_size _ rfl, rfl, rfl⟩, hl.push _, fun h'' kp => st h'' (kp_push kp)⟩ ?_
  · refine ⟨?_, ?_, ?_, ?_, ?_⟩
    · intro i d s' Q' E' hd hI q'
      obtain ⟨h1', h2', h3'⟩ := hI
      obtain ⟨v, hv, _⟩ := (h3' s'.heap Kp.rfl).at hd
      refine wpAny_pyNext_list_item h1' h2' (x := v) (by simpa using hv) (fun h'' hit'' hsb => ?_)
      have kp := kp_same hsb
      have r'' : RdL ds items.toList h'' := h3' h'' (kp.mono fun b hb => by rw [List.mem_singleton] at hb; subst hb; exact .head _)
      obtain ⟨v', hv', rv⟩ := r''.at hd
      rw [hv] at hv'; cases hv'
      exact q' v h'' s'.toks ⟨hit'', isList_kp kp (by simpa using hlit) h2', fun h3 kp3 => h3' h3 ((kp.mono fun b hb => by rw [List.mem_singleton] at hb; subst hb; exact .head _).trans kp3)⟩ kp rv
    · intro s' Q' E' hI q'
      obtain ⟨h1', h2', h3'⟩ := hI
      refine wpAny_pyNext_list_end hh h1' h2' (by simp [hlen]) (fun h'' he => q' h'' s'.toks (kp_ext he))
    · intro i ha hb hI kp
      obtain ⟨h1', h2', h3'⟩ := hI
      exact ⟨listIter_kp kp hitW h1', isList_kp kp hlW h2', fun h3 kp3 => h3' h3 ((kp.mono fun b hb => .tail _ hb).trans kp3)⟩
    · intro i ha hI
      obtain ⟨⟨o, ho, hc, hd⟩, _⟩ := hI
      exact odd_fields ho hd
    · intro i s' elts x1 pos T Q' E' hI q'
      exact wpAny_letOwnedTupleGo_listiter hI.1 q'
  · exact k1.none (size_none h1)

theorem iter_tuple {e : Expr} {ds : List PyData} (hh : A.handled = none) (ev : Ev (model prog w) A env h e (SrcT W ds) X) (hold : ∀ b ∈ W, ∃ o, h.get? b = some o) : Iter prog w A env W h e ds X := by
  intro s Q E k q x
  refine ev.go s _ E k (fun v h1 i k1 r => ?_) x
  obtain ⟨l, items, rfl, hl, hlW, st⟩ := r
  refine wpAny_pyIter_tuple (s := { s with heap := h1, toks := i }) hl ?_
  have hitW : h1.objs.size ∉ W := fun hm => by
    obtain ⟨o, ho⟩ := hold _ hm
    have := k1 _ _ (k _ _ ho)
    rw [size_none] at this; cases this
  have hlit : l ≠ h1.objs.size := fun e => by
    obtain ⟨o, ho, _⟩ := hl
    rw [e, size_none] at ho; cases ho
  have hlen : items.size = ds.length := by
    have := (st h1 Kp.rfl).len
    simpa using this
  refine q h1.objs.size (fun i h' => h'.IsTupleIter h1.objs.size l i ∧ h'.IsTuple l items ∧ ∀ h'', Kp (h1.objs.size :: W) h' h'' → RdL ds items.toList h'') _ _ (Keep.push k1 _) ?_ ⟨⟨_, Heap.get?_push_size _ rfl, rfl, rfl⟩, hl.push _, fun h'' kp => st h'' (kp_push kp)⟩ ?_
  · refine ⟨?_, ?_, ?_, ?_, ?_⟩
    · intro i d s' Q' E' hd hI q'
      obtain ⟨h1', h2', h3'⟩ := hI
      obtain ⟨v, hv, _⟩ := (h3' s'.heap Kp.rfl).at hd
      refine wpAny_pyNext_tuple_item h1' h2' (x := v) (by simpa using hv) (fun h'' hit'' hsb => ?_)
      have kp := kp_same hsb
      have r'' : RdL ds items.toList h'' := h3' h'' (kp.mono fun b hb => by rw [List.mem_singleton] at hb; subst hb; exact .head _)
      obtain ⟨v', hv', rv⟩ := r''.at hd
      rw [hv] at hv'; cases hv'
      exact q' v h'' s'.toks ⟨hit'', isTuple_kp kp (by simpa using hlit) h2', fun h3 kp3 => h3' h3 ((kp.mono fun b hb => by rw [List.mem_singleton] at hb; subst hb; exact .head _).trans kp3)⟩ kp rv
    · intro s' Q' E' hI q'
      obtain ⟨h1', h2', h3'⟩ := hI
      refine wpAny_pyNext_tuple_end hh h1' h2' (by simp [hlen]) (fun h'' he => q' h'' s'.toks (kp_ext he))
    · intro i ha hb hI kp
      obtain ⟨h1', h2', h3'⟩ := hI
      exact ⟨tupIter_kp kp hitW h1', isTuple_kp kp hlW h2', fun h3 kp3 => h3' h3 ((kp.mono fun b hb => .tail _ hb).trans kp3)⟩
    · intro i ha hI
      obtain ⟨⟨o, ho, hc, hd⟩, _⟩ := hI
      exact odd_fields ho hd
    · intro i s' elts x1 pos T Q' E' hI q'
      obtain ⟨⟨o, ho, hc, hd⟩, _⟩ := hI
      unfold letOwnedTupleGo
      refine wpAny_bind (wpAny_load ho ?_)
      rw [hc, hd]
      refine wpAny_ite_false ?_ (wpAny_pure q')
      simp
  · exact k1.none (size_none h1)

def rangeD (a : Int) (n : Nat) : List PyData := (List.range n).map fun (i : Nat) => PyData.int (a + i)
theorem rangeD_len (a : Int) (n : Nat) : (rangeD a n).length = n := by simp [rangeD]
theorem rangeD_at (a : Int) (n i : Nat) : (rangeD a n)[i]? = if i < n then some (.int (a + i)) else none := by
  unfold rangeD
  by_cases h : i < n
  · simp [h]
  · simp [h]
theorem rangeD_flat (a : Int) (n : Nat) : ∀ d ∈ rangeD a n, flat d = true := by
  intro d hd
  simp only [rangeD, List.mem_map] at hd
  obtain ⟨i, _, rfl⟩ := hd
  rfl
/-- a range by ones, from its iterator on -/
theorem iter_rangeC {e : Expr} {a b : Int} (hh : A.handled = none) (ha : -(2 ^ 61) ≤ a ∧ a ≤ 2 ^ 61) (hb : -(2 ^ 61) ≤ b ∧ b ≤ 2 ^ 61)
    (ev : Ev (model prog w) A env h e (fun v h' => ∃ r t u y, v = .ref r ∧ IsRange h' r a b 1 t u y) X) (hold : ∀ b ∈ W, ∃ o, h.get? b = some o) : Iter prog w A env W h e (rangeD a (b - a).toNat) X := by
  intro s Q E k q x
  refine ev.go s _ E k (fun v h1 i k1 r => ?_) x
  obtain ⟨r, t, u, y, rfl, hr⟩ := r
  have hsz : Builtin.Range.rangeSize a b 1 = ((b - a).toNat : Int) := by
    unfold Builtin.Range.rangeSize
    simp only [show (1 : Int) > 0 from by decide, if_true]
    split
    · rw [Int.ediv_one]; (first | lia | omega)
    · (first | lia | omega)
  have hsm : Builtin.Range.small a b 1 = true := by
    unfold Builtin.Range.small
    rw [hsz]
    simp only [Builtin.Range.rangeFitsLong, Bool.and_eq_true, Bool.or_eq_true, decide_eq_true_eq, beq_iff_eq]
    refine ⟨⟨⟨⟨⟨by (first | lia | omega), by (first | lia | omega)⟩, by (first | lia | omega), by (first | lia | omega)⟩, by decide, by decide⟩, by (first | lia | omega), by (first | lia | omega)⟩, ?_⟩
    right
    simp only [show (1 : Int) > 0 from by decide, if_true, Bool.and_eq_true, decide_eq_true_eq]
    (first | lia | omega)
  refine wpAny_pyIter_range (s := { s with heap := h1, toks := i }) hr hsm ?_
  rw [hsz]
  have hitW : h1.objs.size ∉ W := fun hm => by
    obtain ⟨o, ho⟩ := hold _ hm
    have := k1 _ _ (k _ _ ho)
    rw [size_none] at this; cases this
  refine q h1.objs.size (fun i h' => IsRangeIter h' h1.objs.size (a + i) (((b - a).toNat : Int) - i) 1) _ _ (Keep.push k1 _) ?_ ?_ ?_
  · refine ⟨?_, ?_, ?_, ?_, ?_⟩
    · intro i d s' Q' E' hd hI q'
      rw [rangeD_at] at hd
      by_cases hi : i < (b - a).toNat
      · rw [if_pos hi] at hd; cases hd
        refine wpAny_pyNext_range_item hI (by (first | lia | omega)) (fun h'' hit'' hsb => ?_)
        refine q' _ h'' _ ?_ (kp_same hsb) ⟨_, .int _ _⟩
        have e1 : a + ((i + 1 : Nat) : Int) = a + i + 1 := by (first | lia | omega)
        have e2 : ((b - a).toNat : Int) - ((i + 1 : Nat) : Int) = ((b - a).toNat : Int) - i - 1 := by (first | lia | omega)
        rw [e1, e2]; exact hit''
      · rw [if_neg hi] at hd; cases hd
    · intro s' Q' E' hI q'
      rw [rangeD_len] at hI
      refine wpAny_pyNext_range_end hh hI (by (first | lia | omega)) (fun h'' he => q' h'' s'.toks (kp_ext he))
    · intro i ha hb hI kp
      exact kp _ _ hitW hI
    · intro i ha hI
      exact odd_fields hI rfl
    · intro i s' elts x1 pos T Q' E' hI q'
      unfold letOwnedTupleGo
      refine wpAny_bind (wpAny_load hI ?_)
      refine wpAny_ite_false ?_ (wpAny_pure q')
      simp
  · show IsRangeIter _ _ (a + ((0 : Nat) : Int)) (((b - a).toNat : Int) - ((0 : Nat) : Int)) 1
    simp only [Int.natCast_zero, Int.add_zero, Int.sub_zero]
    exact Heap.get?_push_size _ rfl
  · exact k1.none (size_none h1)
end

section
variable {prog : Program} {w : World} {A : Around} {nm : Str} {sc : Scope} {L fa : Addr} {cd : Value} {g h : Heap} {ρ : Locs} {μ : Mut} {X : Value → Heap → Prop} {Ws : List Addr} {P : Flow → Heap → Prop} {rest : List Stmt}
/-- a list of the frame's names, to be gone over -/
theorem src_var {x : Str} {pos : Pos} {ds : List PyData} (S : St g L h ρ μ) (hv : ρ.lookup x = some (.list ds)) (hW : Wok μ Ws) (hk : sc.kind = .function := by rfl) (hl : (envOf nm sc L fa cd).kindOf x = some .local := by rfl)
    (hd : (x == ("__debug__" : Str)) = false := by decide) : Ev (model prog w) A (envOf nm sc L fa cd) h (.Name x pos) (SrcL (L :: Ws) ds) X :=
  EvT.ofS fun s Q E k q => by
    have S' := S.keep k
    have hnt := w_noTup S' hW
    obtain ⟨m, F, hr, _⟩ := S'.ex
    obtain ⟨v, as, hm, r, nL, nl⟩ := hr x _ hv
    refine ld F hm (q v s.toks ?_) hk hl hd
    cases r with
    | list h1 h2 h3 y =>
      have hW' : ∀ a ∈ L :: Ws, a ∉ _ := fun a ha => by
        cases ha with
        | head => exact nL
        | tail _ ha => obtain ⟨p, e, rfl⟩ := hW a ha; exact nl p e
      exact ⟨_, _, rfl, ⟨_, h1, h2, _, h3⟩, fun ha => hW' _ ha (.head _), fun h' kp => ⟨_, readsAll_kp kp (fun a ha => .inr ⟨fun e => hW' a ha (.tail _ e), (hnt a ha).1⟩) y⟩⟩
theorem src_tup {e : Expr} {ds : List PyData} (S : St g L h ρ μ) (ev : Ev (model prog w) A (envOf nm sc L fa cd) h e (Rd (.tuple ds)) X) (hf : flatL ds = true) (hW : Wok μ Ws) : Ev (model prog w) A (envOf nm sc L fa cd) h e (SrcT (L :: Ws) ds) X :=
  ev.mono fun v h' k r => by
    obtain ⟨a, items, rfl, p, r⟩ := rd_tup r
    have hnt := w_noTup (S.keep k) hW
    refine ⟨a, items, rfl, p, fun ha => ?_, fun h'' kp => rdl_flat_kp kp hf (fun a ha => (hnt a ha).1) r⟩
    obtain ⟨o, ho, hc, n, hd⟩ := p
    exact (hnt a ha).1 o ho hc _ _ hd
/-- a list of g's, handed on by an argument's name or not: any list that is read and not among W -/
theorem run_append {x : Str} {l : Addr} {ds : List PyData} {d : PyData} {e : Expr} {px ap pos ep : Pos} (S : St g L h ρ (some (x, l, ds))) (ev : Ev (model prog w) A (envOf nm sc L fa cd) h e (Rd d) X) (hf : flat d = true) (hl : l ∈ Ws) (hsz : ds.length ≤ 2 ^ 20)
    (k : ∀ h', St g L h' ρ (some (x, l, ds ++ [d])) → Run (model prog w) A (envOf nm sc L fa cd) Ws rest h' P X)
    (hbase : attributeBase (.Name x px) "append" (envOf nm sc L fa cd) (eval (.Name x px) (envOf nm sc L fa cd)) = eval (.Name x px) (envOf nm sc L fa cd) := by rfl) (hline : (ap.endLine == pos.line) = true := by rfl)
    (hk : sc.kind = .function := by rfl) (hloc : (envOf nm sc L fa cd).kindOf x = some .local := by rfl) (hd : (x == ("__debug__" : Str)) = false := by decide)
    (htr0 : pl e = true := by rfl)
    (hi : interactive (envOf nm sc L fa cd) = false := by rfl) (hs : True := trivial) :
    Run (model prog w) A (envOf nm sc L fa cd) Ws (.Expr (.Call (.Attribute (.Name x px) "append" ap) [e] [] pos) ep :: rest) h P X := by
  refine ⟨fun s Q E e' po q x' => ?_⟩; subst e'
  have htr : backTo pos (starEach [e] (envOf nm sc L fa cd)) = [(false, eval e (envOf nm sc L fa cd))] := by rw [pl_star htr0]; rfl
  refine wpAny_execs_cons (wpAny_Expr_any ?_ hi (pl_swaps rfl))
  refine wpAny_Call_append hbase (by rw [htr]; rfl) hline htr ?_
  refine (ev_mutL S hk hloc hd).seq Keep.rfl (fun v h1 i k1 r => ?_) x'
  subst r
  have S1 := S.keep k1
  obtain ⟨m, F, _, hm⟩ := S1.ex
  obtain ⟨_, _, _, items, ⟨n, p⟩, _⟩ := hm _ rfl
  refine ⟨l, items, rfl, ⟨_, n, p, rfl, rfl, rfl⟩, ?_⟩
  refine (ev.up k1).seq (s := { s with heap := h1, toks := i }) Keep.rfl (fun y h2 j k2 r2 => ?_) (fun y h2 j r => x' y h2 j r)
  have S2 := S1.keep k2
  obtain ⟨m2, F2, hr2, hm2⟩ := S2.ex
  obtain ⟨hx2, hg2, hf2, items2, p2, rr2⟩ := hm2 _ rfl
  have hlen : items2.size = ds.length := by have := rr2.len; simpa using this
  refine wpAny_list_append_plain (s := { s with heap := h2, toks := j }) (hsz := by rw [hlen]; have e : sizeLine = 2 ^ 24 := rfl; (first | lia | omega)) p2 (fun h3 p3 hsb => ?_)
  have kp := kp_same hsb
  have hlL : l ≠ L := L_ne_list F2 p2
  have wok : ∀ (bs : List Addr), l ∉ bs → ∀ a ∈ [l], Odd a h2 ∨ (a ∉ bs ∧ NoTup a h2) := fun bs hb a ha => by
    rw [List.mem_singleton] at ha; subst ha; exact .inr ⟨hb, noTup_list p2⟩
  have S3 : St g L h3 ρ (some (x, l, ds ++ [d])) := by
    refine ⟨m2, ⟨?_, fun b o e => kp b o (fun hb => ?_) (F2.keep b o e), F2.above⟩, fun y d' e => ?_, fun q e => ?_⟩
    · obtain ⟨o, es, ep, ho, r⟩ := F2.ns
      exact ⟨o, es, ep, kp _ _ (by simpa using hlL.symm) ho, r⟩
    · rw [List.mem_singleton] at hb; subst hb; rw [hg2] at e; cases e
    · obtain ⟨v, as, a, b, c, dd⟩ := hr2 y d' e
      exact ⟨v, as, a, reads_kp kp (wok _ (dd _ rfl)) b, c, fun q e => by cases e; exact dd (x, l, ds) rfl⟩
    · cases e
      refine ⟨hx2, hg2, ?_, _, p3, ?_⟩
      · show flatL (ds ++ [d]) = true
        exact flatL_snoc hf2 hf
      · rw [Array.toList_push]
        have ra : RdL ds items2.toList h3 := rdl_flat_kp kp hf2 (fun a ha => by rw [List.mem_singleton] at ha; subst ha; exact noTup_list p2) rr2
        have rb : Rd d y h3 := by
          obtain ⟨as, z⟩ := r2
          have e := flat_nil hf z
          subst e
          exact ⟨_, reads_kp kp (wok _ List.not_mem_nil) z⟩
        exact ra.append (RdL.cons rb RdL.nil)
  refine (k h3 S3).go _ Q E rfl po (fun fl h4 j4 kp4 p4 => q fl h4 j4 (((Keep.trans k1 k2).kp.trans (kp.mono fun b hb => ?_)).trans kp4) p4) (fun y h2 j r => x' y h2 j r)
  rw [List.mem_singleton] at hb; subst hb; exact .tail _ hl
/-- an if whose two ways meet behind it -/
theorem run_ifJ {test : Expr} {body : List Stmt} {pos : Pos} {b : Bool} (J : Heap → Prop) (S : St g L h ρ μ) (t : Tr (model prog w) A (envOf nm sc L fa cd) h test b X)
    (k1 : b = true → ∀ h', St g L h' ρ μ → Run (model prog w) A (envOf nm sc L fa cd) Ws body h' (fun fl h2 => fl = .next ∧ J h2) X)
    (k2 : b = false → ∀ h', St g L h' ρ μ → J h') (k : ∀ h', J h' → Run (model prog w) A (envOf nm sc L fa cd) Ws rest h' P X) :
    Run (model prog w) A (envOf nm sc L fa cd) Ws (.If test body [] pos :: rest) h P X := by
  refine run_if S t (fun e h' S' => run_mono (k1 e h' S') fun fl h2 q => ?_) (fun e h' S' => run_nil (k h' (k2 e h' S')))
  obtain ⟨rfl, j⟩ := q
  exact k h2 j
/-- a statement by what holds behind it -/
theorem run_cut {st : Stmt} (J : Heap → Prop) (a : Run (model prog w) A (envOf nm sc L fa cd) Ws [st] h (fun fl h2 => fl = .next ∧ J h2) X) (k : ∀ h', J h' → Run (model prog w) A (envOf nm sc L fa cd) Ws rest h' P X) :
    Run (model prog w) A (envOf nm sc L fa cd) Ws (st :: rest) h P X := by
  refine ⟨fun s Q E e po q x => ?_⟩; subst e
  have h1 := a.go s (fun f s' => ∃ h' j, f = .next ∧ s' = { s with heap := h', toks := j } ∧ Kp (L :: Ws) s.heap h' ∧ J h') E rfl po (fun fl h' j kp p => ⟨h', j, p.1, rfl, kp, p.2⟩) x
  have h2 : wpAny (model prog w) A (exec st (envOf nm sc L fa cd)) (fun f s' => ∃ h' j, f = .next ∧ s' = { s with heap := h', toks := j } ∧ Kp (L :: Ws) s.heap h' ∧ J h') E s := by
    intro Γ p hΓ
    have := h1 Γ p hΓ
    rw [execs_cons, Sem.wp_bind'] at this
    refine Sem.wp_mono _ Γ _ (fun f p' s' h' => ?_) (fun _ _ _ h' => h') _ _ this
    cases f <;> exact h'
  refine wpAny_execs_cons (wpAny_mono h2 (fun f s' hq => ?_) fun _ _ y => y)
  obtain ⟨h', j, rfl, rfl, kp, hJ⟩ := hq
  exact (k h' hJ).go _ Q E rfl po (fun fl h2 j2 kp2 p => q fl h2 j2 (kp.trans kp2) p) (fun y h2 j2 r => x y h2 j2 r)
end
end Mine

namespace Mine
open PySem PySem.Spec PySem.Calls PyProof.Rows PySem.W

/-- sizes -/
def Sz (n : Nat) (a : Int) : Prop := -(10 ^ n : Int) < a ∧ a < (10 ^ n : Int)
theorem pow_pos10 (n : Nat) : (0 : Int) < 10 ^ n := Int.pow_pos (by decide)
theorem pow_mono10 {n m : Nat} (h : n ≤ m) : (10 : Int) ^ n ≤ 10 ^ m := by
  have : (10 : Nat) ^ n ≤ 10 ^ m := Nat.pow_le_pow_right (by decide) h
  exact_mod_cast this
theorem Sz.mono {n m : Nat} {a : Int} (h : Sz n a) (hm : n ≤ m) : Sz m a := by
  have := pow_mono10 hm
  obtain ⟨h1, h2⟩ := h
  exact ⟨by (first | lia | omega), by (first | lia | omega)⟩
theorem Sz.natAbs {n : Nat} {a : Int} (h : Sz n a) : a.natAbs < 10 ^ n := by
  obtain ⟨h1, h2⟩ := h
  have e : ((10 ^ n : Nat) : Int) = (10 : Int) ^ n := by simp
  (first | lia | omega)
theorem Sz.of_natAbs {n : Nat} {a : Int} (h : a.natAbs < 10 ^ n) : Sz n a := by
  have e : ((10 ^ n : Nat) : Int) = (10 : Int) ^ n := by simp
  exact ⟨by (first | lia | omega), by (first | lia | omega)⟩
theorem Sz.mul {n m : Nat} {a b : Int} (ha : Sz n a) (hb : Sz m b) : Sz (n + m) (a * b) := by
  refine Sz.of_natAbs ?_
  rw [Int.natAbs_mul, Nat.pow_add]
  exact Nat.mul_lt_mul'' ha.natAbs hb.natAbs
theorem Sz.add {n m : Nat} {a b : Int} (ha : Sz n a) (hb : Sz m b) : Sz (max n m + 1) (a + b) := by
  refine Sz.of_natAbs ?_
  have h1 := (ha.mono (Nat.le_max_left n m)).natAbs
  have h2 := (hb.mono (Nat.le_max_right n m)).natAbs
  have h3 := Int.natAbs_add_le a b
  rw [Nat.pow_succ]; (first | lia | omega)
theorem Sz.neg {n : Nat} {a : Int} (ha : Sz n a) : Sz n (-a) := ⟨by have := ha.2; (first | lia | omega), by have := ha.1; (first | lia | omega)⟩
theorem Sz.sub {n m : Nat} {a b : Int} (ha : Sz n a) (hb : Sz m b) : Sz (max n m + 1) (a - b) := by rw [Int.sub_eq_add_neg]; exact ha.add hb.neg
theorem Sz.le {n : Nat} {a b : Int} (hb : Sz n b) (h0 : 0 ≤ a) (h : a ≤ b) : Sz n a := ⟨by have := pow_pos10 n; (first | lia | omega), by have := hb.2; (first | lia | omega)⟩
theorem Sz.abs {n : Nat} {a : Int} (ha : Sz n a) : Sz n a.natAbs := Sz.of_natAbs (by simpa using ha.natAbs)
theorem intBits_le {n : Nat} {a : Int} (h : Sz n a) (hn : n ≤ 1000) : Builtin.Int.intBits a ≤ 2 ^ 20 := by
  unfold Builtin.Int.intBits
  split
  · exact Nat.zero_le _
  · rename_i h0
    have ha : a.natAbs ≠ 0 := by
      intro e; apply h0; simp; (first | lia | omega)
    have h1 := h.natAbs
    have h2 : (10 : Nat) ^ n ≤ 2 ^ (4 * n) := by
      rw [Nat.pow_mul]; exact Nat.pow_le_pow_left (by decide) n
    have h3 : a.natAbs.log2 < 4 * n := (Nat.log2_lt ha).mpr (Nat.lt_of_lt_of_le h1 h2)
    (first | lia | omega)
theorem mul_ok {n m : Nat} {a b : Int} (ha : Sz n a) (hb : Sz m b) (hn : n ≤ 1000 := by decide) (hm : m ≤ 1000 := by decide) : IntMulOk a b := IntMulOk.of_bits (intBits_le ha hn) (intBits_le hb hm)
theorem div_ok {n : Nat} {b : Int} (hb : Sz n b) (hn : n ≤ 250 := by decide) : b < 10 ^ 250 := by have := (hb.mono hn).2; exact this

theorem rm_caller {n : Nat} (h : n ≤ 600 := by decide) : Rm callerA n := ⟨rfl, by show 1 + claimMargin + n < recursionLimit; simp only [claimMargin, recursionLimit]; (first | lia | omega), by show 4 + 3 * n + 100 < cLine; simp only [cLine]; (first | lia | omega)⟩

section
variable {c : Cx} {n : Nat} {A : Around} {nm : Str} {sc : Scope} {L fa : Addr} {cd : Value} {g h : Heap} {ρ : Locs} {μ : Mut} {X : Value → Heap → Prop} {p pos : Pos}
theorem ev_lenl {e : Expr} {ds : List PyData} (S : St g L h ρ μ) (T : c.T g) (B : Bn c) (e1 : Ev c.M A (envOf nm sc L fa cd) h e (Rd (.list ds)) X) (hn : ds.length < 2 ^ 62) (hk : sc.kind = .function := by rfl) (hg : (envOf nm sc L fa cd).kindOf (Str.ofString "len") = some .globalImplicit := by rfl)
    (he : pl e = true := by rfl) : Ev c.M A (envOf nm sc L fa cd) h (.Call (.Name (Str.ofString "len") p) [e] [] pos) (Rd (.int ds.length)) X :=
  ev_bcall (id := "len") S T B (by decide) (by decide +kernel) (evl_cons e1 evl_nil he) (fun vs h' k r => by
    obtain ⟨v, r', rfl, r1, r2⟩ := r.uncons
    cases r2.unnil
    exact op_len hn (.inl r1)) (by decide) hk hg (by decide) he rfl
theorem ev_lent {e : Expr} {ds : List PyData} (S : St g L h ρ μ) (T : c.T g) (B : Bn c) (e1 : Ev c.M A (envOf nm sc L fa cd) h e (Rd (.tuple ds)) X) (hn : ds.length < 2 ^ 62) (hk : sc.kind = .function := by rfl) (hg : (envOf nm sc L fa cd).kindOf (Str.ofString "len") = some .globalImplicit := by rfl)
    (he : pl e = true := by rfl) : Ev c.M A (envOf nm sc L fa cd) h (.Call (.Name (Str.ofString "len") p) [e] [] pos) (Rd (.int ds.length)) X :=
  ev_bcall (id := "len") S T B (by decide) (by decide +kernel) (evl_cons e1 evl_nil he) (fun vs h' k r => by
    obtain ⟨v, r', rfl, r1, r2⟩ := r.uncons
    cases r2.unnil
    exact op_len hn (.inr r1)) (by decide) hk hg (by decide) he rfl
theorem ev_abs {e : Expr} {a : Int} (S : St g L h ρ μ) (T : c.T g) (B : Bn c) (e1 : Ev c.M A (envOf nm sc L fa cd) h e (Rd (.int a)) X) (hk : sc.kind = .function := by rfl) (hg : (envOf nm sc L fa cd).kindOf (Str.ofString "abs") = some .globalImplicit := by rfl)
    (he : pl e = true := by rfl) : Ev c.M A (envOf nm sc L fa cd) h (.Call (.Name (Str.ofString "abs") p) [e] [] pos) (Rd (.int a.natAbs)) X :=
  ev_bcall (id := "abs") S T B (by decide) (by decide +kernel) (evl_cons e1 evl_nil he) (fun vs h' k r => by
    obtain ⟨v, r', rfl, r1, r2⟩ := r.uncons
    cases r2.unnil
    exact op_abs r1) (by decide) hk hg (by decide) he rfl
theorem ev_max {e e' : Expr} {a b : Int} (S : St g L h ρ μ) (T : c.T g) (B : Bn c) (hh : A.handled = none) (e1 : Ev c.M A (envOf nm sc L fa cd) h e (Rd (.int a)) X) (e2 : Ev c.M A (envOf nm sc L fa cd) h e' (Rd (.int b)) X) (hk : sc.kind = .function := by rfl) (hg : (envOf nm sc L fa cd).kindOf (Str.ofString "max") = some .globalImplicit := by rfl)
    (he : pl e = true := by rfl) (he2 : pl e' = true := by rfl) :
    Ev c.M A (envOf nm sc L fa cd) h (.Call (.Name (Str.ofString "max") p) [e, e'] [] pos) (Rd (.int (max a b))) X :=
  ev_bcall (id := "max") S T B (by decide) (by decide +kernel) (evl_cons e1 (evl_cons e2 evl_nil he2) he) (fun vs h' k r => by
    obtain ⟨v, r', rfl, r1, r2⟩ := r.uncons
    obtain ⟨v2, r3, rfl, r4, r5⟩ := r2.uncons
    cases r5.unnil
    exact op_max hh r1 r4) (by decide) hk hg (by decide) he (by simp [he2])
theorem ev_min {e e' : Expr} {a b : Int} (S : St g L h ρ μ) (T : c.T g) (B : Bn c) (hh : A.handled = none) (e1 : Ev c.M A (envOf nm sc L fa cd) h e (Rd (.int a)) X) (e2 : Ev c.M A (envOf nm sc L fa cd) h e' (Rd (.int b)) X) (hk : sc.kind = .function := by rfl) (hg : (envOf nm sc L fa cd).kindOf (Str.ofString "min") = some .globalImplicit := by rfl)
    (he : pl e = true := by rfl) (he2 : pl e' = true := by rfl) :
    Ev c.M A (envOf nm sc L fa cd) h (.Call (.Name (Str.ofString "min") p) [e, e'] [] pos) (Rd (.int (min a b))) X :=
  ev_bcall (id := "min") S T B (by decide) (by decide +kernel) (evl_cons e1 (evl_cons e2 evl_nil he2) he) (fun vs h' k r => by
    obtain ⟨v, r', rfl, r1, r2⟩ := r.uncons
    obtain ⟨v2, r3, rfl, r4, r5⟩ := r2.uncons
    cases r5.unnil
    exact op_min hh r1 r4) (by decide) hk hg (by decide) he (by simp [he2])
end
theorem sz_lit {a : Int} (h : decide (-(10 ^ 10 : Int) < a ∧ a < 10 ^ 10) = true) : Sz 10 a := by have := of_decide_eq_true h; exact this
end Mine

namespace Mine
open PySem PySem.Spec PySem.Calls PyProof.Rows PySem.W
def bnOk (p : Program) (loose : List Str) : Bool := bnames.all fun x => !(startupNames.contains x || loose.contains x || ((recsOf p).map (·.name)).contains x || ((litsOf p).map (·.1)).contains x || ((clssOf p loose).map (·.name)).contains x)
theorem bn_of {prog p : Program} {w : World} {loose : List Str} {mean : ExcName → Option Value} {mg mb : Str → Option Value} {h : Heap} (T : Top p loose mean mg mb h) (hb : bnOk p loose = true) : Bn ⟨prog, w, p, loose, mean, mg, mb⟩ := by
  intro x hx
  have := List.all_eq_true.mp hb x hx
  simp only [Bool.not_eq_true', Bool.or_eq_false_iff] at this
  obtain ⟨⟨⟨⟨h1, h2⟩, h3⟩, h4⟩, h5⟩ := this
  have no : ∀ {l : List Str}, l.contains x = false → x ∉ l := fun e hm => by rw [List.contains_iff_mem.mpr hm] at e; cases e
  exact T.free x (no h1) (no h2) (no h3) (no h4) (no h5)
end Mine

namespace Mine
open PySem PySem.Spec PySem.Calls PyProof.Rows PySem.W PySem.Builtin PySem.Builtin.ObjectAttr PySem.Builtin.Getset_descriptor

/-- an object of the class C -/
def Ex (h : Heap) (x C : Addr) : Prop := ∃ o, h.get? x = some o ∧ o.cls = .ref C
theorem Ex.keep {h h' : Heap} {x C : Addr} (i : Ex h x C) (k : Keep h h') : Ex h' x C := let ⟨o, a, b⟩ := i; ⟨o, k _ _ a, b⟩
theorem Ex.type {M : Model} {h : Heap} {x C : Addr} (i : Ex h x C) : Looks M h (typeOf (.ref x)) (.ref C) := by
  obtain ⟨o, a, b⟩ := i
  exact b ▸ (Looks.ld a).andThen .now

section
variable {prog : Program} {w : World} {A : Around} {E : Value → Shared → Prop} {s : Shared} {K : Frag} {x C : Addr} {name : Str}

theorem looks_bind {M : Model} {h : Heap} {a g : Value} (X : K.In h) (ha : findIn K (.ref C) name = some (some a)) (hg : specialIn K a "__get__" = some (some g)) (ht : takesIn K a = some true) : Looks M h (find (.ref x) (.ref C) name) (.bind g a) := by
  refine (looks_findIn X ha).andThen ?_
  have L2 : Looks M h (getOf (some a)) (some g) := looks_specialIn X hg
  refine L2.andThen ?_
  exact (show Looks M h (dataDescriptor? (some a) (some g)) (some (g, a)) from (looks_takesIn X ht).andThen .now).andThen (Looks.tag .now)

/-- what is asked of a class for its objects' «__class__» -/
structure ClsAttr (K : Frag) (C : Addr) : Prop where
  ga : findIn K (.ref C) "__getattribute__" = some (some (.builtin "BaseException.__getattribute__"))
  gk : findIn K (.ref C) "__getattr__" = some none
  at_ : findIn K (.ref C) "__class__" = some (some (.builtin "object.__class__"))
  get : specialIn K (.builtin "object.__class__") "__get__" = some (some (.builtin "getset_descriptor.__get__"))
  data : takesIn K (.builtin "object.__class__") = some true
  obj : mroIn K C (.type "object") = some true
  be : mroIn K C (.type "BaseException") = some true
  cls : (clsIn K C).isSome = true

theorem the_class_get {tp : Value} {R : Except Value Flow → Shared → Prop} (X : K.In s.heap) (I : Ex s.heap x C) (hm : mroIn K C (.type "object") = some true)
    (h : R (.ok (.ret (.ref C))) s) : codeAny (model prog w) A (.call (.builtin "getset_descriptor.__get__") ⟨[.builtin "object.__class__", .ref x, tp], []⟩) R s := by
  obtain ⟨hh, g, dr, t, os⟩ := s
  have L0 := I.type (M := model prog w)
  have L1 := looks_mroIn (M := model prog w) X hm
  refine codeAny_call_builtin KF.slot_gs.plain KF.entry_gs (KF.slot_gs.check _ _ _ _ _ _ _ _ KF.type_class (KF.args_gs _ _ _) ?_)
  unfold Builtin.«getset_descriptor.__get__» descrGet
  rw [dga_obj]
  refine wpAny_bind (wpAny_pure ?_)
  unfold descrGetter descrCheckInstance descrNameAndClass isInstance
  simp only [KF.owner_class]
  repeat lk
  refine ⟨Code.quiet_builtin _ (by decide +kernel), codeAny_builtin KF.entry_class ?_⟩
  unfold Builtin.«object.__class__» shownTypeOf
  repeat lk
  exact h

theorem bexc_class {tk : Tok} {R : Except Value Flow → Shared → Prop} (X : K.In s.heap) (I : Ex s.heap x C) (H : ClsAttr K C)
    (h : R (.ok (.ret (.ref C))) s) : codeAny (model prog w) A (.call (.builtin "BaseException.__getattribute__") ⟨[.ref x, .str "__class__" tk], []⟩) R s := by
  obtain ⟨hh, g, d, t, os⟩ := s
  have L0 := I.type (M := model prog w)
  have L1 := looks_mroIn (M := model prog w) X H.be
  have L3 := looks_bind (M := model prog w) (x := x) X H.at_ H.get H.data
  have hk : builtinKind "BaseException.__getattribute__" = some .slot := by decide +kernel
  have hsplit : splitId "BaseException.__getattribute__" = some ("BaseException", "__getattribute__") := by decide +kernel
  have ha := PySem.F.args_bexc_ga (.ref x) (.str "__class__" tk)
  refine codeAny_call_builtin PySem.F.excAttr_ValueError.ga.plain PySem.F.entry_bexc_ga ?_
  simp only [checkBuiltinCall, hk, hsplit]
  unfold isInstance
  repeat (first | with_reducible refine wpAny_call ?_ | lk)
  refine the_class_get X I H.obj ?_
  exact wpAny_pure h

theorem the_class {Q : Option Value → Shared → Prop} (X : K.In s.heap) (I : Ex s.heap x C) (H : ClsAttr K C) (h : Q (some (.ref C)) { s with toks := s.toks + 1 }) : wpAny (model prog w) A (getAttr? (.ref x) "__class__") Q E s := by
  obtain ⟨hh, g, d, t, os⟩ := s
  have L0 := I.type (M := model prog w)
  have L1 := looks_findIn (M := model prog w) X H.ga
  have L2 := looks_findIn (M := model prog w) X H.gk
  have f3 := PySem.F.excAttr_ValueError.ga.bind (.ref x)
  have hx2 : (Value.builtin "BaseException.__getattribute__" == Value.builtin "object.__getattribute__") = false := by decide +kernel
  have hx1 : (onTheHeap (Value.ref C) && Value.builtin "BaseException.__getattribute__" == Value.builtin "object.__getattribute__") = false := by rw [hx2]; rfl
  have hx0 : (false && onTheHeap (Value.builtin "BaseException.__getattribute__")) = false := rfl
  unfold getAttr? getAttrBy? getAttrBy
  refine wpAny_bind (wpAny_mkText (wpAny_bind (wpAny_attempt (wpAny_holding (wpAny_bind (L0.at (wpAny_bind (L1.at ?_))))))))
  simp only [hx1, Bool.false_eq_true, if_false]
  unfold getAttrByItsOwn hookBefore callGetattribute boundAndCalled
  repeat (first | with_reducible refine wpAny_attempt ?_ | with_reducible refine wpAny_call ?_ | lk)
  refine bexc_class (s := ⟨hh, g, d, t + 1, os⟩) X I H ?_
  exact handed_on rfl (wpAny_pure h)

theorem looks_isType {M : Model} {h : Heap} (X : K.In h) (e : (clsIn K C).isSome = true) : Looks M h (isType (.ref C)) true := by
  unfold clsIn at e
  split at e
  · rename_i ho
    intro A' Q' E' s' k q
    unfold isType loadHead
    exact wpAny_bind (wpAny_loadPart (k _ _ (X _ _ ho)) (wpAny_pure q))
  · cases e

theorem isx_nested {c : Value} {b : Bool} {dep : Int} {tk : Tok} {Q : Fin → Shared → Prop} (X : K.In s.heap) (I : Ex s.heap x C) (H : ClsAttr K C) (hty : Looks (model prog w) s.heap (typeOf c) (.type "type")) (his : Looks (model prog w) s.heap (isType c) true)
    (hself : (Value.ref C == c) = true → b = true) (hsub : Looks (model prog w) s.heap (isSubtype (.ref C) c) b) (h : ∀ k, Q (.done (.ret (.bool b))) { s with toks := k }) :
    wpAny (model prog w) A (Builtin.«isinstance.nested» ⟨[.ref x, c, .int dep tk], []⟩) Q E s := by
  have hisD := looks_isType (M := model prog w) X H.cls
  obtain ⟨h0, g, d, tt, os⟩ := s
  have L0 := I.type (M := model prog w)
  have LI : Looks (model prog w) h0 (isInstance (.ref x) c) b := L0.andThen hsub
  unfold Builtin.«isinstance.nested»
  refine wpAny_bind (L0.at ?_)
  by_cases q : (Value.ref C == c) = true
  · rw [if_pos q]
    have hb := hself q
    subst hb
    exact wpAny_bind (wpAny_rule (wpAny_bind (wpAny_pure (wpAny_pure (h tt)))))
  · rw [if_neg q]
    refine wpAny_bind (hty.at ?_)
    rw [if_pos (by decide)]
    k_delta "plainIsInstance"
    refine wpAny_bind (wpAny_bind (his.at ?_))
    simp only [Bool.not_true, Bool.false_eq_true, if_false]
    refine wpAny_bind (LI.at ?_)
    cases b with
    | true =>
      simp only [if_true]
      exact wpAny_pure (wpAny_pure (h tt))
    | false =>
      simp only [Bool.false_eq_true, if_false]
      refine wpAny_bind (the_class X I H ?_)
      refine wpAny_bind (hisD.at ?_)
      simp only [Bool.not_true, Bool.false_eq_true, if_false]
      refine wpAny_bind (wpAny_rule ?_)
      refine hsub.at ?_
      first
        | exact wpAny_pure (h _)
        | exact wpAny_pure (wpAny_pure (h _))
        | exact wpAny_bind (wpAny_pure (wpAny_pure (h _)))

theorem isx_call {c : Value} {b : Bool} {Q : Value → Shared → Prop} (X : K.In s.heap) (I : Ex s.heap x C) (H : ClsAttr K C) (hty : ∀ (M : Model) h', K.In h' → Looks M h' (typeOf c) (.type "type")) (his : ∀ (M : Model) h', K.In h' → Looks M h' (isType c) true)
    (hself : (Value.ref C == c) = true → b = true) (hsub : mroIn K C c = some b) (h : ∀ k, Q (.bool b) { s with toks := k }) : wpAny (model prog w) A (call (.builtin "isinstance") [.ref x, c]) Q E s :=
  call_isinstance (S := fun _ R s => (K.In s.heap ∧ Ex s.heap x C) ∧ ∀ k, R (.ok (.ret (.bool b))) { s with toks := k })
    (fun _ _ _ _ _ hs => isinstance_outer (isx_nested hs.1.1 hs.1.2 H (hty _ _ hs.1.1) (his _ _ hs.1.1) hself (looks_mroIn hs.1.1 hsub) hs.2) (by intro q; cases q)) ⟨⟨X, I⟩, h⟩
end

/-- where the frames lie below -/
structure Pt (c : Cx) (K : Frag) (A : Around) (base : Heap) (outer : List Env) (g : Heap) : Prop where
  bel : Below A base outer g
  kin : K.In base
  top : c.T base

/-- an exception that has left the frames ahead of l -/
def Rz (base : Heap) (l : List Env) (G : Heap) (C e : Addr) (h' : Heap) : Prop := ∃ t vs, RaisedS base G l e (.ref C) t vs [] h' ∧ G.UpToSlots h'
/-- an exception on its way out of a frame -/
def Xb (base : Heap) (outer : List Env) (env : Env) (g : Heap) (L C : Addr) (x : Value) (h' : Heap) : Prop :=
  ∃ e, x = .ref e ∧ ((∃ h m vs, Heap.MadeExcOf h h' e (.ref C) vs ∧ Fr g L h m) ∨ (∃ G m, Rz base (env :: outer) G C e h' ∧ Fr g L G m))

/-- a call that raises an exception of the class C -/
structure FnR (c : Cx) (K : Frag) (n : Nat) (f : Str) (ds : List PyData) (C : Addr) : Prop where
  isDef : ∃ dr ∈ recsOf c.p, dr.name = f
  run : ∀ (A : Around) (base : Heap) (outer : List Env) (h : Heap) (vs : List Value) (a : Addr), Pt c K A base outer h → Rm A n → c.mg f = some (.ref a) → RdL ds vs h → ∀ (s : Shared) (Q : Value → Shared → Prop) (E : Value → Shared → Prop), s.heap = h →
    (∀ e h' k, Rz base outer h C e h' → E (.ref e) { s with heap := h', toks := k }) → wpAny c.M A (call (.ref a) vs) Q E s

section
variable {c : Cx} {K : Frag} {n : Nat} {f : Str} {ds : List PyData} {C : Addr}
theorem fnr_core {dn : Str} {dp : Arguments} {db : List Stmt} {dsc : Scope} {dps : Pos} {xs : List Str} (hd : (⟨dn, dp, db, dsc, dps⟩ : DefRec) ∈ recsOf c.p ∧ dn = f)
    (hb : ∀ pm cd doc (vs : List Value), vs.length = ds.length → bindArgs (docDef dn dp db dsc pm cd doc) ⟨vs, []⟩ = pure (xs.zip vs))
    (hlen : xs.length = ds.length) (hnd : xs.Nodup) (hloc : ∀ x ∈ xs, dsc.names.lookup x = some .local)
    (hco : dsc.isCoroutine = false) (hgen : dsc.isGenerator = false) (hk : dsc.kind = .function) (hcell : ∀ x ∈ dsc.names, x.2 ≠ .cell)
    (k : ∀ (A : Around) (base : Heap) (outer : List Env) (g h : Heap) (L fa : Addr) (cd : Value), Pt c K A base outer g → Rm (A.deeper (envOf dn dsc L fa cd)) n → St g L h (zipL xs ds) none →
      Run c.M (A.deeper (envOf dn dsc L fa cd)) (envOf dn dsc L fa cd) [] db h (fun _ _ => False) (Xb base outer (envOf dn dsc L fa cd) g L C)) : FnR c K (n + 1) f ds C := by
  obtain ⟨hd, hn⟩ := hd
  refine ⟨⟨_, hd, hn⟩, ?_⟩
  intro A base outer h vs a PT rm ha r s Q E es x
  subst es
  have T : c.T s.heap := PT.top.keeps PT.bel.stays
  obtain ⟨a', o, pm, cd, doc, h1, h2, h3, h4⟩ := T.fn ⟨dn, dp, db, dsc, dps⟩ hd
  dsimp only at h1 h3 h4
  rw [hn, ha] at h1; cases h1
  refine wpAny_call (call_plain (by have := rm.dep; (first | lia | omega)) h2 h3 T.nolimit h4 (hb pm cd doc vs (r.len)) (fun y hy => hloc _ (List.of_mem_zip (a := y.1) (b := y.2) hy).1) (fun h₁ F => ?_) hco hgen hk hcell)
  have S : St s.heap s.heap.objs.size h₁ (zipL xs ds) none := by
    refine ⟨_, F, fun x d e => ?_, fun q e => nomatch e⟩
    obtain ⟨v, as, e', r'⟩ := zip_reads r hnd hlen x d e
    refine ⟨v, as, e', PyProof.Rows.Reads.keeps F.keep r', fun hL => ?_, fun q e => nomatch e⟩
    obtain ⟨o, ho⟩ := reads_some r' _ hL
    exact absurd (Heap.lt_size ho) (Nat.lt_irrefl _)
  refine (k A base outer s.heap h₁ _ a cd PT rm.deeper S).go _ _ _ rfl PassesOwn.leaving (fun fl h' i kp' p => p.elim) (fun y h' i xb => ?_)
  obtain ⟨e, rfl, ⟨h₂, m, ws, hm, F₂⟩ | ⟨G, m, ⟨t, ws, R, U⟩, F₂⟩⟩ := xb
  · exact leave_raiseS (s' := { s with heap := h', toks := i }) PT.bel hm F₂ News.nil (fun h'' t R _ U => x e h'' i ⟨t, ws, R, U⟩) hk
  · exact leave_onS (s' := { s with heap := h', toks := i }) PT.bel F₂ R U (fun h'' R _ U => x e h'' i ⟨t, ws, R, U⟩)
end
end Mine

namespace Mine
open PySem PySem.Spec PySem.Calls PyProof.Rows PySem.W

section
variable {M : Model} {A : Around} {E : Value → Shared → Prop} {K : Frag} {e C D : Addr} {h : Heap} {g : Array GenState} {d : Drawn} {t : Nat} {os : OsState}
theorem exc_matches {Q : Bool → Shared → Prop} (X : K.In h) (I : Ex h e C) (hD : typeIn K (.ref D) = some (.type "type")) (hc : (clsIn K D).isSome = true) (hB : mroIn K D (.type "BaseException") = some true) (hs : mroIn K C (.ref D) = some true)
    (hq : Q true ⟨h, g, d, t, os⟩) : wpAny M A (excMatches (.ref e) (.ref D)) Q E ⟨h, g, d, t, os⟩ := by
  have LY := I.type (M := M)
  have LS := looks_mroIn (M := M) X hs
  have L0 : Looks M h (isSubtype (.type "type") (.type "tuple")) false := Looks.of_pure (by rw [isSubtype_type]; kernel_rfl)
  have LT : Looks M h (isInstance (.ref D) (.type "tuple")) false := (looks_typeIn (M := M) X hD).andThen L0
  have LE : Looks M h (isExcClass (.ref D)) true := by
    unfold isExcClass
    exact (looks_isType (M := M) X hc).andThen (looks_mroIn (M := M) X hB)
  unfold excMatches
  repeat (first | with_reducible refine Looks.at (by assumption) ?_ | wp_step)
  exact hq
end

abbrev bmV : List Value := [.type "ValueError", .type "Exception", .type "BaseException", .type "object"]
/-- an exception class of the text, under ValueError -/
structure EC (K : Frag) (x : Str) (C : Addr) : Prop where
  ns : nsIn K mainGlobals x = some (some (.ref C))
  attr : ClsAttr K C
  ty : typeIn K (.ref C) = some (.type "type")
  be : mroIn K C (.type "BaseException") = some true
  ve : mroIn K C (.type "ValueError") = some true
  exc : excIn K C bmV "ValueError.__new__" = true
theorem EC.mg {c : Cx} {K : Frag} {x : Str} {C : Addr} {h : Heap} (X : K.In h) (T : c.T h) (e : EC K x C) : c.mg x = some (.ref C) := mg_of X T.g e.ns
theorem EC.own {c : Cx} {K : Frag} {x : Str} {C : Addr} {h : Heap} (X : K.In h) (T : c.T h) (e : EC K x C) : OwnCls x C bmV "ValueError.__new__" c.mg h := own_of_in X (topRead_of T) e.ns e.exc

/-- ... that comes from a call -/
def Xp (base : Heap) (outer : List Env) (env : Env) (g : Heap) (L C : Addr) (x : Value) (h' : Heap) : Prop := ∃ e, x = .ref e ∧ ∃ G m, Rz base (env :: outer) G C e h' ∧ Fr g L G m
theorem Xp.b {base : Heap} {outer : List Env} {env : Env} {g : Heap} {L C : Addr} {x : Value} {h' : Heap} (r : Xp base outer env g L C x h') : Xb base outer env g L C x h' := let ⟨e, a, b⟩ := r; ⟨e, a, .inr b⟩
theorem Pt.t {c : Cx} {K : Frag} {A : Around} {base : Heap} {outer : List Env} {g : Heap} (P : Pt c K A base outer g) : c.T g := P.top.keeps P.bel.stays
theorem Pt.k {c : Cx} {K : Frag} {A : Around} {base : Heap} {outer : List Env} {g : Heap} (P : Pt c K A base outer g) : K.In g := P.kin.keeps P.bel.stays

section
variable {c : Cx} {K : Frag} {n : Nat} {f : Str} {C : Addr} {dn : Str} {dp : Arguments} {db : List Stmt} {dsc : Scope} {dps : Pos} {x1 x2 x3 x4 : Str} {d1 d2 d3 d4 : PyData}
theorem fnr1 (hd : (⟨dn, dp, db, dsc, dps⟩ : DefRec) ∈ recsOf c.p ∧ dn = f)
    (hb : ∀ pm cd doc (v1 : Value), bindArgs (docDef dn dp db dsc pm cd doc) ⟨[v1], []⟩ = pure [(x1, v1)])
    (k : ∀ (A : Around) (base : Heap) (outer : List Env) (g h : Heap) (L fa : Addr) (cd : Value), Pt c K A base outer g → Rm (A.deeper (envOf dn dsc L fa cd)) n → St g L h [(x1, d1)] none →
      Run c.M (A.deeper (envOf dn dsc L fa cd)) (envOf dn dsc L fa cd) [] db h (fun _ _ => False) (Xb base outer (envOf dn dsc L fa cd) g L C))
    (hnd : [x1].Nodup := by decide +kernel) (hloc : ∀ x ∈ [x1], dsc.names.lookup x = some .local := by decide +kernel)
    (hco : dsc.isCoroutine = false := by rfl) (hgen : dsc.isGenerator = false := by rfl) (hk : dsc.kind = .function := by rfl) (hcell : ∀ x ∈ dsc.names, x.2 ≠ .cell := by decide +kernel) : FnR c K (n + 1) f [d1] C :=
  fnr_core (xs := [x1]) hd (fun pm cd doc vs h => by obtain ⟨v1, rfl⟩ := lens1 h; exact hb pm cd doc v1) rfl hnd hloc hco hgen hk hcell k
theorem fnr2 (hd : (⟨dn, dp, db, dsc, dps⟩ : DefRec) ∈ recsOf c.p ∧ dn = f)
    (hb : ∀ pm cd doc (v1 v2 : Value), bindArgs (docDef dn dp db dsc pm cd doc) ⟨[v1, v2], []⟩ = pure [(x1, v1), (x2, v2)])
    (k : ∀ (A : Around) (base : Heap) (outer : List Env) (g h : Heap) (L fa : Addr) (cd : Value), Pt c K A base outer g → Rm (A.deeper (envOf dn dsc L fa cd)) n → St g L h [(x1, d1), (x2, d2)] none →
      Run c.M (A.deeper (envOf dn dsc L fa cd)) (envOf dn dsc L fa cd) [] db h (fun _ _ => False) (Xb base outer (envOf dn dsc L fa cd) g L C))
    (hnd : [x1, x2].Nodup := by decide +kernel) (hloc : ∀ x ∈ [x1, x2], dsc.names.lookup x = some .local := by decide +kernel)
    (hco : dsc.isCoroutine = false := by rfl) (hgen : dsc.isGenerator = false := by rfl) (hk : dsc.kind = .function := by rfl) (hcell : ∀ x ∈ dsc.names, x.2 ≠ .cell := by decide +kernel) : FnR c K (n + 1) f [d1, d2] C :=
  fnr_core (xs := [x1, x2]) hd (fun pm cd doc vs h => by obtain ⟨v1, v2, rfl⟩ := lens2 h; exact hb pm cd doc v1 v2) rfl hnd hloc hco hgen hk hcell k
end

section
variable {c : Cx} {K : Frag} {n : Nat} {A : Around} {nm : Str} {sc : Scope} {L fa : Addr} {cd : Value} {g h base : Heap} {outer : List Env} {ρ : Locs} {μ : Mut} {C : Addr} {X : Value → Heap → Prop}
/-- a call that raises -/
theorem ev_callr {k : Nat} {f : Str} {p pos : Pos} {e : Expr} {es : List Expr} {ds : List PyData} {R : Value → Heap → Prop} (S : St g L h ρ μ) (PT : Pt c K A base outer g) (rm : Rm (A.deeper (envOf nm sc L fa cd)) n) (F : FnR c K k f ds C)
    (a : EvL c.M (A.deeper (envOf nm sc L fa cd)) (envOf nm sc L fa cd) h pos (e :: es) ds X)
    (hkn : k ≤ n := by decide) (hX : ∀ y h', Xp base outer (envOf nm sc L fa cd) g L C y h' → X y h' := by first | exact fun _ _ r => r | exact fun _ _ r => Xp.b r)
    (hk : sc.kind = .function := by rfl) (hx : (envOf nm sc L fa cd).kindOf f = some .globalImplicit := by rfl) (hd : (f == ("__debug__" : Str)) = false := by decide)
    (he : pl e = true := by rfl) :
    Ev c.M (A.deeper (envOf nm sc L fa cd)) (envOf nm sc L fa cd) h (.Call (.Name f p) (e :: es) [] pos) R X := by
  refine ⟨fun s Q E k q x => ?_⟩
  obtain ⟨m, F0, _⟩ := (S.keep k).ex
  obtain ⟨dr, hdr, hn⟩ := F.isDef
  obtain ⟨a', o, pm, cd', doc, h1, h2, h3, h4⟩ := PT.t.fn dr hdr
  rw [hn] at h1
  refine wpAny_Call_NameR (ld_global_at F0 PT.t.g h1 ?_ hk hx hd)
  refine callWith_def h3 (a.seq k (fun vs h' i k' r => ?_) x) (pl_star he)
  refine ⟨k' _ _ (F0.keep _ _ h2), ?_⟩
  have F1 := F0.after k'
  exact F.run (A.deeper (envOf nm sc L fa cd)) base (envOf nm sc L fa cd :: outer) h' vs a' ⟨PT.bel.push F1 hk, PT.kin, PT.top⟩ (rm.less hkn) h1 r { s with heap := h', toks := i } Q E rfl (fun e h2 j rz => x (.ref e) h2 j (hX _ _ ⟨e, rfl, h', m, rz, F1⟩))
variable {Ws : List Addr} {P : Flow → Heap → Prop} {rest : List Stmt}
theorem run_unpackx {ts : List Expr} {tp pos : Pos} {n : Nat} {e : Expr} (ev : Ev c.M A (envOf nm sc L fa cd) h e (fun _ _ => False) X)
    (hs : swapsWithSole [.Tuple ts n tp] e pos.line (envOf nm sc L fa cd) = pure false := by rfl) (hw : swappedStores [.Tuple ts n tp] e (envOf nm sc L fa cd) = pure none := by rfl) :
    Run c.M A (envOf nm sc L fa cd) Ws (.Assign [.Tuple ts n tp] e pos :: rest) h P X := by
  refine ⟨fun s Q E e po q x' => ?_⟩; subst e
  exact wpAny_execs_cons (Assign_Tuple (ev.go s _ E Keep.rfl (fun v h1 i k1 r => r.elim) x') hs hw)
theorem run_exprx {pos : Pos} {e : Expr} (ev : Ev c.M A (envOf nm sc L fa cd) h e (fun _ _ => False) X) (hi : interactive (envOf nm sc L fa cd) = false := by rfl) (hs : pl e = true := by rfl) : Run c.M A (envOf nm sc L fa cd) Ws (.Expr e pos :: rest) h P X := run_expr ev (fun _ _ _ r => r.elim) hi hs

/-- raise -/
theorem run_raise {x : Str} {np cpos pos : Pos} {e : Expr} {d : PyData} (S : St g L h ρ μ) (T : c.T g) (X : K.In g) (O : EC K x C) (hh : A.handled = none) (ev : Ev c.M A (envOf nm sc L fa cd) h e (Rd d) (Xb base outer (envOf nm sc L fa cd) g L C))
    (hk : sc.kind = .function := by rfl) (hx : (envOf nm sc L fa cd).kindOf x = some .globalImplicit := by rfl) (hd : (x == ("__debug__" : Str)) = false := by decide) (he : pl e = true := by rfl) :
    Run c.M A (envOf nm sc L fa cd) Ws (.Raise (some (.Call (.Name x np) [e] [] cpos)) none pos :: rest) h P (Xb base outer (envOf nm sc L fa cd) g L C) := by
  refine ⟨fun s Q E es po q x' => ?_⟩; subst es
  obtain ⟨m, F, _⟩ := S.ex
  refine wpAny_execs_cons (Raise_own F T.g (O.own X T) PySem.F.excBase_ValueError hh ?_ (pl_star he) rfl hk hx hd)
  refine (evl_cons ev evl_nil he).go s _ E Keep.rfl (fun vs h' i k r => ⟨?_, ?_, fun h2 e' hm => ?_⟩) x'
  · rw [r.len]; show 1 ≤ sizeLine; decide
  · exact fun b o hb => k b o (F.keep b o hb)
  · exact x' (.ref e') h2 i ⟨e', rfl, .inl ⟨h', m, vs, hm, F.after k⟩⟩
end
end Mine

namespace Mine
open PySem PySem.Spec PySem.Calls PyProof.Rows PySem.W

/-- all stands as it stood, but for the slots of the frames -/
def Tn (fs : List Addr) (h h' : Heap) : Prop := (∀ b o, h.get? b = some o → b ∉ fs → h'.get? b = some o) ∧ (∀ b o, h.get? b = some o → b ∈ fs → ∃ sl, h'.get? b = some { o with slots := sl })
theorem Keep.tn {fs : List Addr} {h h' : Heap} (k : Keep h h') : Tn fs h h' := ⟨fun b o e _ => k b o e, fun b o e _ => ⟨o.slots, k b o e⟩⟩
abbrev frs (l : List Env) : List Addr := l.filterMap (·.frame)

/-- a frame's name that holds an object -/
def Sv (g : Heap) (L : Addr) (h : Heap) (x : Str) (v : Value) : Prop := ∃ m, Fr g L h m ∧ m x = some v
theorem Sv.keep {g : Heap} {L : Addr} {h h' : Heap} {x : Str} {v : Value} (S : Sv g L h x v) (k : Keep h h') : Sv g L h' x v := let ⟨m, F, e⟩ := S; ⟨m, F.after k, e⟩
theorem Sv.st {g : Heap} {L : Addr} {h : Heap} {x : Str} {v : Value} (S : Sv g L h x v) : St g L h [] none := let ⟨m, F, _⟩ := S; ⟨m, F, fun _ _ e => (nomatch e), fun _ e => (nomatch e)⟩

/-- a call that catches what is raised within -/
structure FnC (c : Cx) (K : Frag) (n : Nat) (f : Str) (ds : List PyData) (d : PyData) : Prop where
  isDef : ∃ dr ∈ recsOf c.p, dr.name = f
  run : ∀ (A : Around) (base : Heap) (outer : List Env) (h : Heap) (vs : List Value) (a : Addr), Pt c K A base outer h → Rm A n → c.mg f = some (.ref a) → RdL ds vs h → ∀ (s : Shared) (Q : Value → Shared → Prop) (E : Value → Shared → Prop), s.heap = h →
    (∀ v h' k, Tn (frs outer) h h' → Rd d v h' → Q v { s with heap := h', toks := k }) → wpAny c.M A (call (.ref a) vs) Q E s
/-- statements that catch -/
structure RunC (M : Model) (A : Around) (env : Env) (fs : List Addr) (g : Heap) (ss : List Stmt) (h : Heap) (d : PyData) : Prop where
  go : ∀ (s : Shared) (Q : Flow → Shared → Prop) (E : Value → Shared → Prop), s.heap = h → (∀ v h' k, Tn fs g h' → Rd d v h' → Q (.ret v) { s with heap := h', toks := k }) → wpAny M A (execs ss env) Q E s

section
variable {c : Cx} {K : Frag} {n : Nat} {f : Str} {ds : List PyData} {d : PyData}
theorem fnc_core {dn : Str} {dp : Arguments} {db : List Stmt} {dsc : Scope} {dps : Pos} {xs : List Str} (hd : (⟨dn, dp, db, dsc, dps⟩ : DefRec) ∈ recsOf c.p ∧ dn = f)
    (hb : ∀ pm cd doc (vs : List Value), vs.length = ds.length → bindArgs (docDef dn dp db dsc pm cd doc) ⟨vs, []⟩ = pure (xs.zip vs))
    (hlen : xs.length = ds.length) (hnd : xs.Nodup) (hloc : ∀ x ∈ xs, dsc.names.lookup x = some .local)
    (hco : dsc.isCoroutine = false) (hgen : dsc.isGenerator = false) (hk : dsc.kind = .function) (hcell : ∀ x ∈ dsc.names, x.2 ≠ .cell)
    (k : ∀ (A : Around) (base : Heap) (outer : List Env) (g h : Heap) (L fa : Addr) (cd : Value), Pt c K A base outer g → Rm (A.deeper (envOf dn dsc L fa cd)) n → St g L h (zipL xs ds) none →
      RunC c.M (A.deeper (envOf dn dsc L fa cd)) (envOf dn dsc L fa cd) (frs outer) g db h d) : FnC c K (n + 1) f ds d := by
  obtain ⟨hd, hn⟩ := hd
  refine ⟨⟨_, hd, hn⟩, ?_⟩
  intro A base outer h vs a PT rm ha r s Q E es x
  subst es
  have T : c.T s.heap := PT.t
  obtain ⟨a', o, pm, cd, doc, h1, h2, h3, h4⟩ := T.fn ⟨dn, dp, db, dsc, dps⟩ hd
  dsimp only at h1 h3 h4
  rw [hn, ha] at h1; cases h1
  refine wpAny_call (call_plain (by have := rm.dep; (first | lia | omega)) h2 h3 T.nolimit h4 (hb pm cd doc vs (r.len)) (fun y hy => hloc _ (List.of_mem_zip (a := y.1) (b := y.2) hy).1) (fun h₁ F => ?_) hco hgen hk hcell)
  have S : St s.heap s.heap.objs.size h₁ (zipL xs ds) none := by
    refine ⟨_, F, fun x d e => ?_, fun q e => nomatch e⟩
    obtain ⟨v, as, e', r'⟩ := zip_reads r hnd hlen x d e
    refine ⟨v, as, e', PyProof.Rows.Reads.keeps F.keep r', fun hL => ?_, fun q e => nomatch e⟩
    obtain ⟨o, ho⟩ := reads_some r' _ hL
    exact absurd (Heap.lt_size ho) (Nat.lt_irrefl _)
  exact (k A base outer s.heap h₁ _ a cd PT rm.deeper S).go _ _ _ rfl (fun v h' i tn rd => x v h' i tn rd)
end

section
variable {c : Cx} {K : Frag} {n : Nat} {A : Around} {nm : Str} {sc : Scope} {L fa : Addr} {cd : Value} {g h base : Heap} {outer : List Env} {ρ : Locs} {μ : Mut} {C D : Addr} {d : PyData}
theorem rc_try {e : Expr} {x : Str} {np ep hp pos : Pos} {rest suite : List Stmt} {s₀ : Stmt} (S : St g L h ρ μ) (PT : Pt c K A base outer g) (OD : EC K x D) (hsub : mroIn K C (.ref D) = some true)
    (ev : Ev c.M (A.deeper (envOf nm sc L fa cd)) (envOf nm sc L fa cd) h e (fun _ _ => False) (Xp base outer (envOf nm sc L fa cd) g L C))
    {v : Str} (k : ∀ x' g' h', Pt c K A base outer g' → Sv g' L h' v (.ref x') → Ex h' x' C →
      Run c.M ((A.deeper (envOf nm sc L fa cd)).mark (some (.ref x'))) (envOf nm sc L fa cd) [] (s₀ :: suite) h' (fun fl h2 => ∃ u, fl = .ret u ∧ Rd d u h2 ∧ St g' L h2 [] none) NoX)
    (hf : flat d = true := by rfl) (hk : sc.kind = .function := by rfl) (hlo : (envOf nm sc L fa cd).kindOf v = some .local := by rfl) (hx : (envOf nm sc L fa cd).kindOf x = some .globalImplicit := by rfl) (hd : (x == ("__debug__" : Str)) = false := by decide)
    (hi : interactive (envOf nm sc L fa cd) = false := by rfl) (hs : pl e = true := by rfl) :
    RunC c.M (A.deeper (envOf nm sc L fa cd)) (envOf nm sc L fa cd) (frs outer) g (.Try [.Expr e ep] [.ExceptHandler (some (.Name x np)) (some v) (s₀ :: suite) hp] [] [] pos :: rest) h d := by
  refine ⟨fun s Q E es q => ?_⟩
  subst es
  refine wpAny_execs_cons (wpAny_Try_except (wpAny_execs_cons (wpAny_Expr_any (ev.go s _ _ Keep.rfl (fun _ _ _ _ r => r.elim) (fun z h' i r => ?_)) hi (pl_swaps hs))))
  obtain ⟨ex, rfl, G, m, ⟨t, ws, ⟨⟨B, hB, hBG, hl, hfl, hnew⟩, htup⟩, hsm⟩, F⟩ := r
  refine wpAny_looks_onW (Around.frames_deeper PT.bel.stack) rfl hfl fun h₄ hheld₄ hsm₄ => ?_
  refine wpAny_landsW hheld₄ fun h₅ hheld hsm₅' => ?_
  have hsm₅ := hsm₄.trans hsm₅'
  obtain ⟨g₅, T₅, F₅, K₅⟩ := kts_ground PT.bel F hBG hheld.1 (hsm.trans hsm₅)
  have X₅ : K.In g₅ := PT.kin.keeps K₅.stays
  have P₅ : c.T g₅ := PT.top.keeps K₅.stays
  obtain ⟨ob, hob, hobc⟩ := hheld.there
  refine wpAny_handleBy_cons (codeAny_handlers_test (name_K F₅ X₅ (topRead_of P₅) OD.ns ?_ hk hx hd)) (by intro q; cases q)
  refine exc_matches (X₅.keeps F₅.keep) ⟨ob, hob, hobc⟩ OD.ty OD.attr.cls OD.be hsub (codeAny_handlers_suite_as ?_)
  refine lands_againW hheld fun h₆ hfl₆ hsm₆ => ?_
  obtain ⟨g₆, T₆, F₆, K₆⟩ := kts_ground PT.bel F hBG hfl₆.1 ((hsm.trans hsm₅).trans hsm₆)
  obtain ⟨oe, hoe, hoec⟩ := hfl₆.there
  have hne : ∀ h7, Heap.SameBut L h₆ h7 → Ex h7 ex C := fun h7 sb => by
    refine ⟨oe, ?_, hoec⟩
    rw [sb.2 ex ?_]; exact hoe
    intro eL
    obtain ⟨oe', ws', T', oT, ts, a1, a2, a3, _⟩ := hfl₆.2.2.2
    obtain ⟨o, es', ep', ho, hdt, _⟩ := F₆.ns
    rw [← eL, a1] at ho; cases ho
    rw [a3] at hdt; cases hdt
  refine wpAny_storeName_local hlo F₆.ns (fun h₇ hn₇ hs₇ => ?_) (by show (sc.kind == .class || (sc.kind == .module && L != mainGlobals)) = false; rw [hk]; rfl)
  have F₇ := F₆.set hn₇ hs₇
  refine wpAny_noRaise ((k ex g₆ h₇ ⟨K₆, PT.kin, PT.top⟩ ⟨_, F₇, by simp⟩ (hne _ hs₇)).go _ _ _ rfl PassesOwn.never (fun fl h₈ i₈ kp₈ p => ?_) (fun _ _ _ r => r))
  obtain ⟨u, rfl, ⟨as, ru⟩, S₈⟩ := p
  have eas := flat_nil hf ru
  subst eas
  obtain ⟨m₈, F₈, _⟩ := S₈.ex
  refine wpAny_nameGoes hlo F₈.ns (by show (sc.kind == .class || (sc.kind == .module && L != mainGlobals)) = false; rw [hk]; rfl) (fun h₉ m₉ hn₉ hs₉ => ?_)
  have kp₉ : Kp [L] h₈ h₉ := kp_same hs₉
  have k₉ : Keep g₆ h₉ := fun b o e => kp₉ b o (by
    intro hb
    rw [List.mem_singleton] at hb
    rw [hb, kts_self F₈] at e; cases e) (F₈.keep b o e)
  refine q u h₉ _ ⟨fun b o e nb => k₉ b o (T₆.other b o e nb), fun b o e hb => ?_⟩ ⟨[], reads_kp kp₉ (fun a ha => ?_) ru⟩
  · obtain ⟨sl, hsl⟩ := T₆.frame b o e hb
    exact ⟨sl, k₉ _ _ hsl⟩
  · rw [List.mem_singleton] at ha; subst ha
    exact .inr ⟨List.not_mem_nil, noTup_L F₈⟩
/-- the name of the object that was caught -/
theorem ev_exv {x : Str} {pos : Pos} {v : Value} {A' : Around} {X : Value → Heap → Prop} (S : Sv g L h x v) (hk : sc.kind = .function := by rfl) (hl : (envOf nm sc L fa cd).kindOf x = some .local := by rfl)
    (hd : (x == ("__debug__" : Str)) = false := by decide) : Ev c.M A' (envOf nm sc L fa cd) h (.Name x pos) (fun u _ => u = v) X :=
  EvT.ofS fun s Q E k q => by
    obtain ⟨m, F, hm⟩ := S.keep k
    exact ld F hm (q v s.toks rfl) hk hl hd
end

section
variable {c : Cx} {K : Frag} {n : Nat} {f : Str} {d : PyData} {dn : Str} {dp : Arguments} {db : List Stmt} {dsc : Scope} {dps : Pos} {x1 x2 x3 x4 : Str} {d1 d2 d3 d4 : PyData}
theorem fnc2 (hd : (⟨dn, dp, db, dsc, dps⟩ : DefRec) ∈ recsOf c.p ∧ dn = f)
    (hb : ∀ pm cd doc (v1 v2 : Value), bindArgs (docDef dn dp db dsc pm cd doc) ⟨[v1, v2], []⟩ = pure [(x1, v1), (x2, v2)])
    (k : ∀ (A : Around) (base : Heap) (outer : List Env) (g h : Heap) (L fa : Addr) (cd : Value), Pt c K A base outer g → Rm (A.deeper (envOf dn dsc L fa cd)) n → St g L h [(x1, d1), (x2, d2)] none →
      RunC c.M (A.deeper (envOf dn dsc L fa cd)) (envOf dn dsc L fa cd) (frs outer) g db h d)
    (hnd : [x1, x2].Nodup := by decide +kernel) (hloc : ∀ x ∈ [x1, x2], dsc.names.lookup x = some .local := by decide +kernel)
    (hco : dsc.isCoroutine = false := by rfl) (hgen : dsc.isGenerator = false := by rfl) (hk : dsc.kind = .function := by rfl) (hcell : ∀ x ∈ dsc.names, x.2 ≠ .cell := by decide +kernel) : FnC c K (n + 1) f [d1, d2] d :=
  fnc_core (xs := [x1, x2]) hd (fun pm cd doc vs h => by obtain ⟨v1, v2, rfl⟩ := lens2 h; exact hb pm cd doc v1 v2) rfl hnd hloc hco hgen hk hcell k
end

section
variable {c : Cx} {K : Frag} {A : Around} {nm : Str} {sc : Scope} {L fa : Addr} {cd : Value} {g h : Heap} {ρ : Locs} {μ : Mut} {X : Value → Heap → Prop} {C D : Addr}
/-- isinstance of what was caught, by a class of the text -/
theorem ev_isx {v x y : Str} {fp vp xp pos : Pos} {e : Addr} {b : Bool} (T : c.T g) (B : Bn c) (KX : K.In g) (S : Sv g L h v (.ref e)) (I : Ex h e C) (OC : EC K y C) (OD : EC K x D) (hsub : mroIn K C (.ref D) = some b) (hself : C = D → b = true)
    (hk : sc.kind = .function := by rfl) (hg : (envOf nm sc L fa cd).kindOf (Str.ofString "isinstance") = some .globalImplicit := by rfl) (hl : (envOf nm sc L fa cd).kindOf v = some .local := by rfl)
    (hx : (envOf nm sc L fa cd).kindOf x = some .globalImplicit := by rfl) (hdv : (v == ("__debug__" : Str)) = false := by decide) (hdx : (x == ("__debug__" : Str)) = false := by decide) :
    Ev c.M A (envOf nm sc L fa cd) h (.Call (.Name (Str.ofString "isinstance") fp) [.Name v vp, .Name x xp] [] pos) (Rd (.bool b)) X := by
  refine ⟨fun s Q E k q x' => ?_⟩
  have S' := S.keep k
  refine wpAny_Call_NameR ((ev_bname (x := "isinstance") S'.st T B (by decide) (v := .builtin "isinstance") (by decide +kernel) (by decide) hk hg (by decide)).seq (E := E) Keep.rfl (fun u h1 i k1 r => ?_) x')
  subst r
  refine callWith_builtin1 ?_ rfl rfl
  refine PyProof.Rows.args_cons ((ev_exv (c := c) (S'.keep k1) hk hl hdv (X := X)).go _ _ E Keep.rfl (fun u h2 j k2 r => ?_) (fun y h' i r => x' y h' i r)) rfl
  subst r
  refine PyProof.Rows.args_cons ((ev_gname ((S'.keep k1).keep k2).st T (OD.mg KX T) hk hx hdx (X := X)).go _ _ E Keep.rfl (fun u h3 j k3 r => ?_) (fun y h' i r => x' y h' i r)) rfl
  subst r
  refine PyProof.Rows.args_nil ?_
  have k123 := k1.trans (k2.trans k3)
  have kk := k.trans k123
  obtain ⟨m, F, _⟩ := S'.keep k123
  have KX3 : K.In h3 := KX.keeps F.keep
  refine isx_call (s := { s with heap := h3, toks := j }) KX3 (I.keep kk) OC.attr (fun _ _ X' => looks_typeIn X' OD.ty) (fun _ _ X' => looks_isType X' OD.attr.cls) (fun e => hself ?_) hsub (fun i' => q _ h3 i' k123 ⟨_, .bool b⟩)
  have := beq_iff_eq.mp e
  cases this; rfl
/-- ... by ValueError -/
theorem ev_isv {v y : Str} {fp vp xp pos : Pos} {e : Addr} (T : c.T g) (B : Bn c) (KX : K.In g) (S : Sv g L h v (.ref e)) (I : Ex h e C) (OC : EC K y C)
    (hk : sc.kind = .function := by rfl) (hg : (envOf nm sc L fa cd).kindOf (Str.ofString "isinstance") = some .globalImplicit := by rfl) (hl : (envOf nm sc L fa cd).kindOf v = some .local := by rfl)
    (hx : (envOf nm sc L fa cd).kindOf (Str.ofString "ValueError") = some .globalImplicit := by rfl) (hdv : (v == ("__debug__" : Str)) = false := by decide) :
    Ev c.M A (envOf nm sc L fa cd) h (.Call (.Name (Str.ofString "isinstance") fp) [.Name v vp, .Name (Str.ofString "ValueError") xp] [] pos) (Rd (.bool true)) X := by
  refine ⟨fun s Q E k q x' => ?_⟩
  have S' := S.keep k
  refine wpAny_Call_NameR ((ev_bname (x := "isinstance") S'.st T B (by decide) (v := .builtin "isinstance") (by decide +kernel) (by decide) hk hg (by decide)).seq (E := E) Keep.rfl (fun u h1 i k1 r => ?_) x')
  subst r
  refine callWith_builtin1 ?_ rfl rfl
  refine PyProof.Rows.args_cons ((ev_exv (c := c) (S'.keep k1) hk hl hdv (X := X)).go _ _ E Keep.rfl (fun u h2 j k2 r => ?_) (fun y h' i r => x' y h' i r)) rfl
  subst r
  refine PyProof.Rows.args_cons ((ev_bname (x := "ValueError") ((S'.keep k1).keep k2).st T B (by decide) (v := .type "ValueError") (by decide +kernel) (by decide) hk hx (by decide) (X := X)).go _ _ E Keep.rfl (fun u h3 j k3 r => ?_) (fun y h' i r => x' y h' i r)) rfl
  subst r
  refine PyProof.Rows.args_nil ?_
  have k123 := k1.trans (k2.trans k3)
  have kk := k.trans k123
  obtain ⟨m, F, _⟩ := S'.keep k123
  have KX3 : K.In h3 := KX.keeps F.keep
  exact isx_call (s := { s with heap := h3, toks := j }) KX3 (I.keep kk) OC.attr (fun _ _ _ => Looks.of_pure (by kernel_rfl)) (fun _ _ _ => Looks.of_pure rfl) (fun _ => rfl) OC.ve (fun i' => q _ h3 i' k123 ⟨_, .bool true⟩)
end

/-- the law's own statements: in the end a True, and what stood stands -/
structure RunW (M : Model) (A : Around) (env : Env) (g : Heap) (ss : List Stmt) (h : Heap) : Prop where
  go : ∀ (s : Shared) (Q : Flow → Shared → Prop) (E : Value → Shared → Prop), s.heap = h → PassesOwn M A env E → (∀ h' k, Keep g h' → Q (.ret (.bool true)) { s with heap := h', toks := k }) → wpAny M A (execs ss env) Q E s
structure FnW (c : Cx) (K : Frag) (f : Str) (ds : List PyData) : Prop where
  run : ∀ (h : Heap) (vs : List Value) (a : Addr), c.T h → K.In h → c.mg f = some (.ref a) → RdL ds vs h → ∀ (s : Shared) (Q : Value → Shared → Prop) (E : Value → Shared → Prop), s.heap = h →
    (∀ h' k, Keep h h' → Q (.bool true) { s with heap := h', toks := k }) → wpAny c.M callerA (call (.ref a) vs) Q E s

section
variable {c : Cx} {K : Frag} {n : Nat} {f : Str} {dn : Str} {dp : Arguments} {db : List Stmt} {dsc : Scope} {dps : Pos} {x1 : Str} {d1 : PyData}
theorem fnw1 (hd : (⟨dn, dp, db, dsc, dps⟩ : DefRec) ∈ recsOf c.p ∧ dn = f)
    (hb : ∀ pm cd doc (v1 : Value), bindArgs (docDef dn dp db dsc pm cd doc) ⟨[v1], []⟩ = pure [(x1, v1)])
    (k : ∀ (g h : Heap) (L fa : Addr) (cd : Value), Pt c K callerA g [] g → Rm (callerA.deeper (envOf dn dsc L fa cd)) n → St g L h [(x1, d1)] none →
      RunW c.M (callerA.deeper (envOf dn dsc L fa cd)) (envOf dn dsc L fa cd) g db h)
    (hr : n + 1 ≤ 600 := by decide)
    (hnd : [x1].Nodup := by decide +kernel) (hloc : ∀ x ∈ [x1], dsc.names.lookup x = some .local := by decide +kernel)
    (hco : dsc.isCoroutine = false := by rfl) (hgen : dsc.isGenerator = false := by rfl) (hk : dsc.kind = .function := by rfl) (hcell : ∀ x ∈ dsc.names, x.2 ≠ .cell := by decide +kernel) : FnW c K f [d1] := by
  obtain ⟨hd, hn⟩ := hd
  refine ⟨fun h vs a T KX ha r s Q E es q => ?_⟩
  subst es
  have rm : Rm callerA (n + 1) := rm_caller hr
  obtain ⟨a', o, pm, cd, doc, h1, h2, h3, h4⟩ := T.fn ⟨dn, dp, db, dsc, dps⟩ hd
  dsimp only at h1 h3 h4
  rw [hn, ha] at h1; cases h1
  refine wpAny_call (call_plain (binds := [x1].zip vs) (by have := rm.dep; (first | lia | omega)) h2 h3 T.nolimit h4 (by obtain ⟨v1, rfl⟩ := lens1 r.len; exact hb pm cd doc v1) (fun y hy => hloc _ (List.of_mem_zip (a := y.1) (b := y.2) hy).1) (fun h₁ F => ?_) hco hgen hk hcell)
  have S : St s.heap s.heap.objs.size h₁ [(x1, d1)] none := by
    refine ⟨_, F, fun x d e => ?_, fun q e => nomatch e⟩
    obtain ⟨v, as, e', r'⟩ := zip_reads (xs := [x1]) (ds := [d1]) r hnd rfl x d e
    refine ⟨v, as, e', PyProof.Rows.Reads.keeps F.keep r', fun hL => ?_, fun q e => nomatch e⟩
    obtain ⟨o, ho⟩ := reads_some r' _ hL
    exact absurd (Heap.lt_size ho) (Nat.lt_irrefl _)
  exact (k s.heap h₁ _ a cd ⟨below_caller _, KX, T⟩ rm.deeper S).go _ _ _ rfl PassesOwn.leaving (fun h' i kp => q h' i kp)
theorem law_endW {s₁ : Shared} {fa l : Addr} {d : PyData} {as : List Addr} {cl : Str → Option Addr} {mean : ExcName → Option Value} {args : List WData} {cm : ClaimW} {nm : Str} (F : FnW c K nm [d]) (T : c.T s₁.heap) (KX : K.In s₁.heap) (hmg : c.mg nm = some (.ref fa))
    (r0 : Reads s₁.heap (.ref l) d as) (hg : s₁.gens = #[]) (hn : ∀ cls, cm.raises args cls = false) (hp : cm.post args (.bool true) args = true) :
    wpAny c.M callerA (call (.ref fa) [.ref l]) (fun v s' => GoodWG cm cl mean args s₁ (.ok (.ret v)) s') (fun e s' => GoodWG cm cl mean args s₁ (.error e) s') s₁ := by
  refine F.run s₁.heap [.ref l] fa T KX hmg ⟨_, .cons r0 .nil⟩ s₁ _ _ rfl (fun h' k kk => ?_)
  exact GoodW.toG ⟨.inl ⟨_, .bool true, [], rfl, hn, .bool true, hp, fun _ => ⟨.nil, fun _ ha => nomatch ha⟩⟩, kk, rfl, hg⟩
end

section
variable {c : Cx} {K : Frag} {n : Nat} {A : Around} {nm : Str} {sc : Scope} {L fa : Addr} {cd : Value} {g h : Heap} {ρ : Locs} {μ : Mut} {rest : List Stmt}
/-- ... the usual end -/
theorem rw_run {ss : List Stmt} (S : St g L h ρ μ) (r : Run c.M A (envOf nm sc L fa cd) [] ss h (fun fl h' => Rd (.bool true) (retv fl) h') NoX) : RunW c.M A (envOf nm sc L fa cd) g ss h := by
  refine ⟨fun s Q E es po q => r.go s Q E es po (fun fl h' k kp p => ?_) (fun _ _ _ x => x.elim)⟩
  have hv := rd_bool p
  obtain ⟨m, F, _⟩ := S.ex
  have kk : Keep g h' := fun b o e => kp b o (by
    intro hb
    rw [List.mem_singleton] at hb
    have hb' : b = L := hb
    rw [hb', kts_self F] at e; cases e) (F.keep b o e)
  cases fl with
  | ret v => cases hv; exact q h' k kk
  | next => cases hv
  | brk => cases hv
  | cont => cases hv
/-- ... by a call that catches -/
theorem rw_retc {k : Nat} {f : Str} {p pos rp : Pos} {e : Expr} {es : List Expr} {ds : List PyData} (S : St g L h ρ μ) (PT : Pt c K callerA g [] g) (rm : Rm (callerA.deeper (envOf nm sc L fa cd)) n) (F : FnC c K k f ds (.bool true))
    (a : EvL c.M (callerA.deeper (envOf nm sc L fa cd)) (envOf nm sc L fa cd) h pos (e :: es) ds NoX)
    (hkn : k ≤ n := by decide)
    (hk : sc.kind = .function := by rfl) (hx : (envOf nm sc L fa cd).kindOf f = some .globalImplicit := by rfl) (hd : (f == ("__debug__" : Str)) = false := by decide)
    (he : pl e = true := by rfl) :
    RunW c.M (callerA.deeper (envOf nm sc L fa cd)) (envOf nm sc L fa cd) g (.Return (some (.Call (.Name f p) (e :: es) [] pos)) rp :: rest) h := by
  refine ⟨fun s Q E es po q => ?_⟩; subst es
  refine wpAny_execs_cons (wpAny_Return_some ?_)
  obtain ⟨m, F0, _⟩ := S.ex
  obtain ⟨dr, hdr, hn⟩ := F.isDef
  obtain ⟨a', o, pm, cd', doc, h1, h2, h3, h4⟩ := PT.t.fn dr hdr
  rw [hn] at h1
  refine wpAny_Call_NameR (ld_global_at F0 PT.t.g h1 ?_ hk hx hd)
  refine callWith_def h3 (a.seq Keep.rfl (fun vs h' i k' r => ?_) (fun _ _ _ x => x.elim)) (pl_star he)
  refine ⟨k' _ _ (F0.keep _ _ h2), ?_⟩
  have F1 := F0.after k'
  refine F.run (callerA.deeper (envOf nm sc L fa cd)) g [envOf nm sc L fa cd] h' vs a' ⟨PT.bel.push F1 hk, PT.kin, PT.top⟩ (rm.less hkn) h1 r { s with heap := h', toks := i } _ _ rfl (fun v h2 j tn rd => ?_)
  cases rd_bool rd
  refine q h2 j (fun b o e => tn.1 b o (F1.keep b o e) fun hb => ?_)
  have hb' : b ∈ [L] := hb
  rw [List.mem_singleton] at hb'
  rw [hb', kts_self F1] at e; cases e
/-- ... a name -/
theorem rw_assign {x : Str} {px pos : Pos} {e : Expr} {d : PyData} (S : St g L h ρ μ) (ev : Ev c.M A (envOf nm sc L fa cd) h e (Rf h d) NoX)
    (k : ∀ h', St g L h' ((x, d) :: ρ) μ → RunW c.M A (envOf nm sc L fa cd) g rest h')
    (hμ : ∀ q, μ = some q → q.1 ≠ x := by intro q e; first | (cases e; done) | (cases e; dsimp only; decide)) (hk : sc.kind = .function := by rfl) (hl : (envOf nm sc L fa cd).kindOf x = some .local := by rfl)
    (hs : pl e = true := by rfl) : RunW c.M A (envOf nm sc L fa cd) g (.Assign [.Name x px] e pos :: rest) h := by
  refine ⟨fun s Q E es po q => ?_⟩; subst es
  refine wpAny_execs_cons (wpAny_Assign_Name (ev.go s _ E Keep.rfl (fun v h1 i k1 r => ?_) (fun _ _ _ x => x.elim)) (pl_swaps hs))
  obtain ⟨m, F, hr, hm⟩ := (S.keep k1).ex
  obtain ⟨as, r, hf⟩ := r
  refine wpAny_storeName_local hl F.ns (fun h' hn hsb => ?_) (by show (sc.kind == .class || (sc.kind == .module && L != mainGlobals)) = false; rw [hk]; rfl)
  have S' : St g L h' ((x, d) :: ρ) μ := by
    refine (S.keep k1).store hμ F r (fun hL => ?_) (fun q e hl => ?_) hn hsb
    · obtain ⟨m0, F0, _⟩ := S.ex
      obtain ⟨o, ho⟩ := L_some F0
      rw [hf L hL] at ho; cases ho
    · obtain ⟨m0, F0, _, hm0⟩ := S.ex
      obtain ⟨_, _, _, items, ⟨n, p⟩, _⟩ := hm0 q e
      rw [hf _ hl] at p; cases p
  exact (k h' S').go _ Q E rfl po (fun h2 j kp => q h2 j kp)
theorem rw_set {x : Str} {px pos : Pos} {e : Expr} {d : PyData} (S : St g L h ρ μ) (ev : Ev c.M A (envOf nm sc L fa cd) h e (Rd d) NoX)
    (k : ∀ h', St g L h' ((x, d) :: ρ) μ → RunW c.M A (envOf nm sc L fa cd) g rest h') (hf : flat d = true := by rfl)
    (hμ : ∀ q, μ = some q → q.1 ≠ x := by intro q e; first | (cases e; done) | (cases e; dsimp only; decide)) (hk : sc.kind = .function := by rfl) (hl : (envOf nm sc L fa cd).kindOf x = some .local := by rfl)
    (hs : pl e = true := by rfl) : RunW c.M A (envOf nm sc L fa cd) g (.Assign [.Name x px] e pos :: rest) h :=
  rw_assign S (ev.mono fun _ _ _ r => .of_flat hf r) k hμ hk hl hs
/-- ... a branch that ends the law -/
theorem rw_if {test : Expr} {body : List Stmt} {pos : Pos} {b : Bool} (S : St g L h ρ μ) (t : Tr c.M A (envOf nm sc L fa cd) h test b NoX)
    (k1 : b = true → ∀ h', St g L h' ρ μ → RunW c.M A (envOf nm sc L fa cd) g body h')
    (k2 : b = false → ∀ h', St g L h' ρ μ → RunW c.M A (envOf nm sc L fa cd) g rest h') :
    RunW c.M A (envOf nm sc L fa cd) g (.If test body [] pos :: rest) h := by
  refine ⟨fun s Q E es po q => ?_⟩; subst es
  refine wpAny_execs_cons (wpAny_If (t.go s _ E Keep.rfl (fun c' h1 i k' r => ?_) (fun _ _ _ x => x.elim)))
  subst r
  cases c' with
  | true => exact (k1 rfl h1 (S.keep k')).go _ _ E rfl po (fun h2 j kp => q h2 j kp)
  | false => exact wpAny_execs_nil ((k2 rfl h1 (S.keep k')).go _ Q E rfl po (fun h2 j kp => q h2 j kp))
/-- ... a branch that goes on -/
theorem rw_ifJ {test : Expr} {body orelse : List Stmt} {pos : Pos} {b : Bool} (J : Heap → Prop) (S : St g L h ρ μ) (t : Tr c.M A (envOf nm sc L fa cd) h test b NoX)
    (k1 : b = true → ∀ h', St g L h' ρ μ → Run c.M A (envOf nm sc L fa cd) [] body h' (fun fl h2 => fl = .next ∧ J h2) NoX)
    (k2 : b = false → ∀ h', St g L h' ρ μ → Run c.M A (envOf nm sc L fa cd) [] orelse h' (fun fl h2 => fl = .next ∧ J h2) NoX)
    (k3 : ∀ h', J h' → RunW c.M A (envOf nm sc L fa cd) g rest h') :
    RunW c.M A (envOf nm sc L fa cd) g (.If test body orelse pos :: rest) h := by
  refine ⟨fun s Q E es po q => ?_⟩; subst es
  refine wpAny_execs_cons (wpAny_If (t.go s _ E Keep.rfl (fun c' h1 i k' r => ?_) (fun _ _ _ x => x.elim)))
  subst r
  have fin : ∀ (ss : List Stmt), Run c.M A (envOf nm sc L fa cd) [] ss h1 (fun fl h2 => fl = .next ∧ J h2) NoX →
      wpAny c.M A (execs ss (envOf nm sc L fa cd)) (fun f s' => match f with | .next => wpAny c.M A (execs rest (envOf nm sc L fa cd)) Q E s' | f => Q f s') E { s with heap := h1, toks := i } := by
    intro ss r
    refine r.go _ _ E rfl po (fun fl h2 j kp p => ?_) (fun _ _ _ x => x.elim)
    obtain ⟨rfl, hj⟩ := p
    exact (k3 h2 hj).go _ Q E rfl po (fun h3 j kp => q h3 j kp)
  cases c' with
  | true => exact fin _ (k1 rfl h1 (S.keep k'))
  | false => exact fin _ (k2 rfl h1 (S.keep k'))
end
end Mine

namespace Mine
open PySem PySem.Spec PySem.Calls PyProof.Rows PySem.W

section
variable {prog : Program} {w : World} {A : Around} {env : Env} {h : Heap} {X : Value → Heap → Prop} {n : Nat}
theorem dmin {a b c : Nat} (h : b ≤ c) : min a b ≤ c := Nat.le_trans (Nat.min_le_right _ _) h
theorem op_notin {d : PyData} {xs : List PyData} {v1 v2 : Value} {h' : Heap} (rm : Rm A n) (r1 : Rd d v1 h') (r2 : Rd (.tuple xs) v2 h') (hxs : PyData.canLayAll0 xs = true) (hd : SeqAt.shaped d = true) :
    EvT (model prog w) A h' (compareOp .NotIn v1 v2) (Rd (.bool (!xs.any fun y => PyData.eqv y d))) X := by
  obtain ⟨as, x⟩ := r1; obtain ⟨bs, y⟩ := r2
  have := rm.un
  have := dmin (a := PyData.depthAll xs) (SeqAt.depth_of_shaped hd)
  exact EvT.ofS fun s _ _ k q => SeqAt.notIn_tuple_reads (PyProof.Rows.Reads.keeps k y) (PyProof.Rows.Reads.keeps k x) hxs (SeqAt.canLay_of_shaped hd) (by (first | lia | omega)) (q _ s.toks ⟨_, .bool _⟩)
theorem tr_notin {l r : Expr} {pos : Pos} {d : PyData} {xs : List PyData} (rm : Rm A n) (e1 : Ev (model prog w) A env h l (Rd d) X) (e2 : Ev (model prog w) A env h r (Rd (.tuple xs)) X) (hxs : PyData.canLayAll0 xs = true) (hd : SeqAt.shaped d = true)
    (hm : pl r = true := by rfl) : Tr (model prog w) A env h (.Compare l [.NotIn] [r] pos) (!xs.any fun y => PyData.eqv y d) X := tr_cmp e1 e2 (fun _ _ _ _ r1 r2 => op_notin rm r1 r2 hxs hd) hm
end

section
variable {prog : Program} {w : World} {A : Around} {nm : Str} {sc : Scope} {L fa : Addr} {cd : Value} {g h : Heap} {ρ : Locs} {X : Value → Heap → Prop}
/-- the own list, handed back -/
theorem ev_own {x : Str} {pos : Pos} {l : Addr} {ds : List PyData} (S : St g L h ρ (some (x, l, ds))) (hk : sc.kind = .function := by rfl) (hl : (envOf nm sc L fa cd).kindOf x = some .local := by rfl)
    (hd : (x == ("__debug__" : Str)) = false := by decide) : Ev (model prog w) A (envOf nm sc L fa cd) h (.Name x pos) (Rl g ds) X :=
  EvT.ofS fun s Q E k q => by
    obtain ⟨m, F, _, hm⟩ := (S.keep k).ex
    obtain ⟨hv, hg, _, items, p, r⟩ := hm _ rfl
    exact ld F hv (q _ s.toks ⟨l, items, rfl, p, r, hg⟩) hk hl hd
end

/-- an own class under another -/
structure EU (K : Frag) (x : Str) (C D : Addr) : Prop where
  ec : EC K x C
  sub : mroIn K C (.ref D) = some true
  self : mroIn K C (.ref C) = some true
def wd (b : Bool) : Str := if b then "right" else "left"
def aw : Option Bool → Str
  | none => ""
  | some b => wd b
def runD (s : Bool × Int) : PyData := .tuple [.str (wd s.1), .int s.2]
def pathD (p : Path) : List PyData := p.map runD
theorem pathD_len (p : Path) : (pathD p).length = p.length := by simp [pathD]
theorem pathD_snoc (p : Path) (s : Bool × Int) : pathD (p ++ [s]) = pathD p ++ [runD s] := by simp [pathD]
abbrev PD (a b : Int) : PyData := .tuple [.int a, .int b]
theorem drop_at {α : Type} {l : List α} {i : Nat} {x : α} (h : l[i]? = some x) : l.drop i = x :: l.drop (i + 1) := by
  obtain ⟨hi, rfl⟩ := List.getElem?_eq_some_iff.mp h
  exact List.drop_eq_getElem_cons hi
end Mine

namespace Mine
open PySem PySem.Spec PySem.Calls PyProof.Rows PySem.W

section
variable {prog : Program} {w : World} {A : Around} {env : Env} {h : Heap} {X : Value → Heap → Prop}
end

section
variable {prog : Program} {w : World} {A : Around} {nm : Str} {sc : Scope} {L fa : Addr} {cd : Value} {g h : Heap} {ρ : Locs} {μ : Mut} {X : Value → Heap → Prop}
end

section
variable {prog : Program} {w : World} {A : Around} {nm : Str} {sc : Scope} {L fa : Addr} {cd : Value} {g h : Heap} {ρ : Locs} {X : Value → Heap → Prop} {Ws : List Addr} {P : Flow → Heap → Prop} {rest : List Stmt}
end

theorem Sv.ex {g : Heap} {L : Addr} {h : Heap} {x : Str} {v : Value} {e C : Addr} (S : Sv g L h x v) (I : Ex g e C) : Ex h e C := let ⟨_, F, _⟩ := S; I.keep F.keep
/-- room, whatever is being handled -/
structure Rv (A : Around) (n : Nat) : Prop where
  dep : A.depth + n < recursionLimit
  un : A.units + 3 * n + 100 < cLine
theorem Rm.v {A : Around} {n : Nat} (r : Rm A n) : Rv A n := ⟨r.dep, r.un⟩
theorem Rv.mark {A : Around} {n : Nat} {x : Option Value} (r : Rv A n) : Rv (A.mark x) n := ⟨r.dep, r.un⟩
theorem Rv.less {A : Around} {n m : Nat} (r : Rv A n) (h : m ≤ n) : Rv A m := ⟨by have := r.dep; (first | lia | omega), by have := r.un; (first | lia | omega)⟩
section
variable {c : Cx} {K : Frag} {n : Nat} {f : Str} {C : Addr} {b : Bool} {dn : Str} {dp : Arguments} {db : List Stmt} {dsc : Scope} {dps : Pos} {x1 : Str}
end

section
variable {c : Cx} {K : Frag} {n : Nat} {A : Around} {nm : Str} {sc : Scope} {L fa : Addr} {cd : Value} {g h : Heap} {X : Value → Heap → Prop} {C : Addr} {b : Bool}
end
end Mine

namespace Mine
open PySem PySem.Spec PySem.Calls PyProof.Rows PySem.W

/-- read, with no list or dict at L -/
def Rn (L : Addr) (d : PyData) (v : Value) (h : Heap) : Prop := ∃ as, Reads h v d as ∧ L ∉ as
def RnL (L : Addr) (ds : List PyData) (vs : List Value) (h : Heap) : Prop := ∃ as, ReadsAll h vs ds as ∧ L ∉ as
theorem Rn.keep {L : Addr} {d : PyData} {v : Value} {h h' : Heap} (r : Rn L d v h) (k : Keep h h') : Rn L d v h' := let ⟨as, x, n⟩ := r; ⟨as, PyProof.Rows.Reads.keeps k x, n⟩
theorem Rn.rd {L : Addr} {d : PyData} {v : Value} {h : Heap} (r : Rn L d v h) : Rd d v h := let ⟨as, x, _⟩ := r; ⟨as, x⟩
theorem RnL.cons {L : Addr} {d ds v vs} {h : Heap} (a : Rn L d v h) (b : RnL L ds vs h) : RnL L (d :: ds) (v :: vs) h := by
  obtain ⟨as, x, n⟩ := a; obtain ⟨bs, y, m⟩ := b
  exact ⟨_, .cons x y, fun ha => (List.mem_append.mp ha).elim n m⟩
theorem RnL.append {L : Addr} {h : Heap} : ∀ {ds es vs us}, RnL L ds vs h → RnL L es us h → RnL L (ds ++ es) (vs ++ us) h
  | [], es, vs, us, a, b => by
    have e : vs = [] := (show RdL [] vs h from let ⟨as, x, _⟩ := a; ⟨as, x⟩).unnil
    subst e; exact b
  | d :: ds, es, vs, us, a, b => by
    obtain ⟨as, x, n⟩ := a
    cases x with
    | cons x1 x2 => exact RnL.cons ⟨_, x1, fun q => n (List.mem_append_left _ q)⟩ (RnL.append ⟨_, x2, fun q => n (List.mem_append_right _ q)⟩ b)
theorem RnL.keep {L : Addr} {ds : List PyData} {vs : List Value} {h h' : Heap} (r : RnL L ds vs h) (k : Keep h h') : RnL L ds vs h' := let ⟨as, x, n⟩ := r; ⟨as, PyProof.Rows.ReadsAll.keeps k x, n⟩
theorem RnL.rdl {L : Addr} {ds : List PyData} {vs : List Value} {h : Heap} (r : RnL L ds vs h) : RdL ds vs h := let ⟨as, x, _⟩ := r; ⟨as, x⟩
section
variable {prog : Program} {w : World} {A : Around} {env : Env} {h : Heap} {L : Addr} {X : Value → Heap → Prop}
abbrev EvLn (M : Model) (A : Around) (env : Env) (L : Addr) (h : Heap) (pos : Pos) (es : List Expr) (ds : List PyData) (X : Value → Heap → Prop) : Prop := EvT M A h (spliced (backTo pos (starEach es env))) (RnL L ds) X
theorem evn {e : Expr} {d : PyData} (r : Ev (model prog w) A env h e (Rd d) X) (hf : flat d = true := by rfl) : Ev (model prog w) A env h e (Rn L d) X := r.mono fun _ _ _ r => by
  obtain ⟨as, x⟩ := r
  have := flat_nil hf x
  subst this
  exact ⟨_, x, List.not_mem_nil⟩
theorem evln_nil {pos : Pos} : EvLn (model prog w) A env L h pos [] [] X := EvT.ofS fun s _ _ _ q => PyProof.Rows.args_nil (q _ s.toks ⟨[], .nil, List.not_mem_nil⟩)
theorem evln_cons {pos : Pos} {x : Expr} {es : List Expr} {d : PyData} {ds : List PyData} (e : Ev (model prog w) A env h x (Rn L d) X) (e2 : EvLn (model prog w) A env L h pos es ds X)
    (he : pl x = true := by rfl) : EvLn (model prog w) A env L h pos (x :: es) (d :: ds) X := by
  refine ⟨fun s Q E k q x => ?_⟩
  refine PyProof.Rows.args_cons (e.go s _ E k (fun v h1 i k1 r1 => ?_) x) (pl_star he)
  exact (e2.up (k.trans k1)).seq (s := { s with heap := h1, toks := i }) Keep.rfl (fun c h2 j k2 r2 => q _ h2 j (Keep.trans k1 k2) (RnL.cons (r1.keep k2) r2)) (fun y h2 j r => x y h2 j r)
theorem size_ne {h h' : Heap} {L : Addr} (hL : ∃ o, h.get? L = some o) (k : Keep h h') : L ≠ h'.objs.size := by
  intro e
  obtain ⟨o, ho⟩ := hL
  have := Heap.lt_size (k _ _ ho)
  rw [e] at this
  exact Nat.lt_irrefl _ this
theorem evn_list {es : List Expr} {pos : Pos} {ds : List PyData} (hL : ∃ o, h.get? L = some o) (e : EvLn (model prog w) A env L h pos es ds X) (hn : ds.length ≤ sizeLine := by simp only [List.length_cons, List.length_nil]; decide) : Ev (model prog w) A env h (.List es pos) (Rn L (.list ds)) X := by
  refine ⟨fun s Q E k q x => ?_⟩
  refine wpAny_List (e.go s _ E k (fun vs h1 i k1 r1 => ⟨by rw [r1.rdl.len]; exact hn, ?_⟩) x)
  obtain ⟨as, y, m⟩ := r1.keep (Keep.push Keep.rfl { cls := .type "list", data := .seq vs.toArray })
  refine q _ _ _ (Keep.push k1 _) ⟨_, .list (Heap.get?_push_size _ rfl) rfl rfl (by simpa using y), fun ha => ?_⟩
  rcases List.mem_cons.mp ha with e | ha
  · exact size_ne hL (k.trans k1) e
  · exact m ha
theorem evn_dict {pos : Pos} (hL : ∃ o, h.get? L = some o) : Ev (model prog w) A env h (.Dict [] [] pos) (Rn L (.dict [])) X := by
  refine ⟨fun s Q E k q x => ?_⟩
  refine wpAny_Dict_empty ?_
  refine q _ _ s.toks (Keep.push Keep.rfl _) ⟨_, .dict (kvs := []) (Heap.get?_push_size _ rfl) rfl rfl .nil .nil, fun ha => ?_⟩
  rcases List.mem_cons.mp ha with e | ha
  · exact size_ne hL k e
  · exact nomatch ha
end
section
variable {prog : Program} {w : World} {A : Around} {nm : Str} {sc : Scope} {L fa : Addr} {cd : Value} {g h : Heap} {ρ : Locs} {μ : Mut} {X : Value → Heap → Prop} {Ws : List Addr} {P : Flow → Heap → Prop} {rest : List Stmt}
theorem St.hL (S : St g L h ρ μ) : ∃ o, h.get? L = some o := let ⟨_, F, _⟩ := S.ex; L_some F
/-- a name, of any datum -/
theorem run_any {x : Str} {px pos : Pos} {e : Expr} {d : PyData} (S : St g L h ρ none) (ev : Ev (model prog w) A (envOf nm sc L fa cd) h e (Rn L d) X)
    (k : ∀ h', St g L h' ((x, d) :: ρ) none → Run (model prog w) A (envOf nm sc L fa cd) Ws rest h' P X)
    (hk : sc.kind = .function := by rfl) (hl : (envOf nm sc L fa cd).kindOf x = some .local := by rfl)
    (hs : pl e = true := by rfl) : Run (model prog w) A (envOf nm sc L fa cd) Ws (.Assign [.Name x px] e pos :: rest) h P X := by
  refine ⟨fun s Q E e po q x' => ?_⟩; subst e
  refine wpAny_execs_cons (wpAny_Assign_Name (ev.go s _ E Keep.rfl (fun v h1 i k1 r => ?_) x') (pl_swaps hs))
  obtain ⟨m, F, hr, hm⟩ := (S.keep k1).ex
  obtain ⟨as, r, nL⟩ := r
  refine wpAny_storeName_local hl F.ns (fun h' hn hsb => ?_) (by show (sc.kind == .class || (sc.kind == .module && L != mainGlobals)) = false; rw [hk]; rfl)
  have S' : St g L h' ((x, d) :: ρ) none := (S.keep k1).store (fun q e => nomatch e) F r nL (fun q e => nomatch e) hn hsb
  exact (k h' S').go _ Q E rfl po (fun fl h2 j kp p => q fl h2 j ((k1.kp.trans ((kp_same hsb).mono fun b hb => by rw [List.mem_singleton] at hb; subst hb; exact .head _)).trans kp) p) (fun y h2 j r => x' y h2 j r)
end
/-- a call that hands back a datum, new or not -/
abbrev FnO (c : Cx) (n : Nat) (f : Str) (ds : List PyData) (d : PyData) : Prop := Fn c n f ds fun _ => Rd d
theorem rd_old {d : PyData} : ∀ (h0 h1 : Heap) v h', Keep h0 h1 → (fun (_ : Heap) => Rd d) h1 v h' → (fun (_ : Heap) => Rd d) h0 v h' := fun _ _ _ _ _ r => r
end Mine

namespace Mine
open PySem PySem.Spec PySem.Calls PyProof.Rows PySem.W

section
variable {c : Cx} {A : Around} {nm : Str} {sc : Scope} {L fa : Addr} {cd : Value} {g h : Heap} {ρ : Locs} {μ : Mut} {X : Value → Heap → Prop} {W : List Addr}
theorem iter_range2 {e e' : Expr} {a b : Int} {p pos : Pos} (S : St g L h ρ μ) (T : c.T g) (B : Bn c) (hh : A.handled = none) (e0 : Ev c.M A (envOf nm sc L fa cd) h e' (Rd (.int a)) X) (e1 : Ev c.M A (envOf nm sc L fa cd) h e (Rd (.int b)) X) (ha : -(2 ^ 61) ≤ a ∧ a ≤ 2 ^ 61) (hb : -(2 ^ 61) ≤ b ∧ b ≤ 2 ^ 61) (hold : ∀ b ∈ W, ∃ o, h.get? b = some o)
    (hk : sc.kind = .function := by rfl) (hg : (envOf nm sc L fa cd).kindOf (Str.ofString "range") = some .globalImplicit := by rfl) (he : pl e = true := by rfl) (he' : pl e' = true := by rfl) :
    Iter c.prog c.w A (envOf nm sc L fa cd) W h (.Call (.Name (Str.ofString "range") p) [e', e] [] pos) (rangeD a (b - a).toNat) X :=
  iter_rangeC (W := W) (a := a) (b := b) hh ha hb (ev_tcall S T B (x := Str.ofString "range") (id := "range") (R := fun v h' => ∃ r t u y, v = .ref r ∧ IsRange h' r a b 1 t u y) (by decide) (by decide +kernel) (evl_cons e0 (evl_cons e1 evl_nil he) he') (fun vs h' k r => by
    obtain ⟨v, r', rfl, rd, rn⟩ := r.uncons
    obtain ⟨v2, r'', rfl, rd2, rn2⟩ := rn.uncons
    have := rn2.unnil
    subst this
    obtain ⟨t, rfl⟩ := rd_int rd
    obtain ⟨u, rfl⟩ := rd_int rd2
    refine ⟨fun s Q E kk q x => ?_⟩
    refine call_range_2 ?_
    exact q _ _ _ (Keep.push Keep.rfl _) ⟨_, _, _, _, rfl, IsRange.new _ _ _ _ _ _ _⟩) (by decide) hk hg (by decide) he' (by simp [he])) hold
end
theorem PD_eqv (a b x y : Int) : PyData.eqv (PD a b) (PD x y) = (decide (a = x) && decide (b = y)) := by
  simp only [PyData.eqv, PyData.eqvAll, Bool.and_true]; rfl
end Mine

namespace Mine
open PySem PySem.Spec PySem.Calls PyProof.Rows PySem.W
end Mine

namespace Mine
open PySem PySem.Spec PySem.Calls PyProof.Rows PySem.W
section
variable {prog : Program} {w : World} {A : Around} {env : Env} {h : Heap} {X : Value → Heap → Prop}
end
section
variable {prog : Program} {w : World} {A : Around} {nm : Str} {sc : Scope} {L fa : Addr} {cd : Value} {g h : Heap} {ρ : Locs} {X : Value → Heap → Prop}
end
end Mine

namespace Mine
open PySem PySem.Spec PySem.Calls PyProof.Rows PySem.W
section
variable {prog : Program} {w : World} {A : Around} {env : Env} {h : Heap} {X : Value → Heap → Prop}
theorem pl_last {op1 op2 : CmpOp} {m r : Expr} (h : pl r = true) : lastMarks [op1, op2] [m, r] = false := pl_marks (op := op2) h
/-- a < b < c, of ints -/
theorem tr_icmp2 {l m r : Expr} {op1 op2 : CmpOp} {pos : Pos} {a b d : Int} {x y : Bool} (e1 : Ev (model prog w) A env h l (Rd (.int a)) X) (e2 : Ev (model prog w) A env h m (Rd (.int b)) X) (e3 : Ev (model prog w) A env h r (Rd (.int d)) X)
    (h1 : icmp op1 a b = some x) (h2 : icmp op2 b d = some y) (hm : pl r = true := by rfl) : Tr (model prog w) A env h (.Compare l [op1, op2] [m, r] pos) (x && y) X := by
  refine ⟨fun s Q E k q x' => isTrue_chain ?_ (pl_last hm)⟩
  refine e1.go s _ E k (fun v1 h1' i1 k1 r1 => test_link ?_) x'
  refine (e2.up (k.trans k1)).go { s with heap := h1', toks := i1 } _ E Keep.rfl (fun v2 h2' i2 k2 r2 => ?_) (fun y h i r => x' y h i r)
  refine (op_icmp h1 (r1.keep k2) r2 (X := X)).go { s with heap := h2', toks := i2 } _ E Keep.rfl (fun c h3 i3 k3 r3 => ?_) (fun y h i r => x' y h i r)
  cases rd_bool r3
  refine wpAny_truthy_bool ?_
  cases x with
  | false => exact q _ h3 _ (Keep.trans k1 (Keep.trans k2 k3)) rfl
  | true =>
    refine test_last ?_
    refine (e3.up ((k.trans k1).trans (Keep.trans k2 k3))).go { s with heap := h3, toks := i3 } _ E Keep.rfl (fun v4 h4 i4 k4 r4 => ?_) (fun y h i r => x' y h i r)
    refine (op_icmp h2 ((r2.keep k3).keep k4) r4 (X := X)).go { s with heap := h4, toks := i4 } _ E Keep.rfl (fun c h5 i5 k5 r5 => ?_) (fun y h i r => x' y h i r)
    cases rd_bool r5
    exact wpAny_truthy_bool (q _ h5 _ (Keep.trans k1 (Keep.trans k2 (Keep.trans k3 (Keep.trans k4 k5)))) (by simp))
end
end Mine

namespace Mine
open PySem PySem.Spec PySem.Calls PyProof.Rows PySem.W
/-- the objects that stand at some places -/
def fragAt (as : List Addr) (h : Heap) : Frag := as.filterMap fun a => (h.get? a).map fun o => (a, o)
theorem fragAt_in {as : List Addr} {h : Heap} : (fragAt as h).In h := by
  intro a o e
  unfold fragAt at e
  induction as with
  | nil => cases e
  | cons b r ih =>
    rw [List.filterMap_cons] at e
    cases hb : h.get? b with
    | none => rw [hb] at e; exact ih e
    | some o' =>
      rw [hb] at e
      have e2 : List.lookup a ((b, o') :: r.filterMap fun a => (h.get? a).map fun o => (a, o)) = some o := e
      rw [List.lookup_cons] at e2
      cases q : a == b with
      | true => rw [q] at e2; cases e2; rw [eq_of_beq q]; exact hb
      | false => rw [q] at e2; exact ih e2
/-- what is asked of the text's exception classes -/
def obsRow (K : Frag) (c : Str × Addr) := (nsIn K mainGlobals c.1, findIn K (.ref c.2) "__getattribute__", findIn K (.ref c.2) "__getattr__", findIn K (.ref c.2) "__class__", mroIn K c.2 (.type "object"), (clsIn K c.2).isSome, typeIn K (.ref c.2), mroIn K c.2 (.type "BaseException"), mroIn K c.2 (.type "ValueError"), excIn K c.2 bmV "ValueError.__new__")
def rowOf (c : Str × Addr) : Option (Option Value) × Option (Option Value) × Option (Option Value) × Option (Option Value) × Option Bool × Bool × Option Value × Option Bool × Option Bool × Bool := (some (some (.ref c.2)), some (some (.builtin "BaseException.__getattribute__")), some none, some (some (.builtin "object.__class__")), some true, true, some (.type "type"), some true, some true, true)
def obsAll (cs : List (Str × Addr)) (K : Frag) := (cs.map (obsRow K), cs.map (fun c => cs.map fun d => mroIn K c.2 (.ref d.2)), specialIn K (.builtin "object.__class__") "__get__", takesIn K (.builtin "object.__class__"))
def expAll (cs : List (Str × Addr)) (F : Addr) : List (Option (Option Value) × Option (Option Value) × Option (Option Value) × Option (Option Value) × Option Bool × Bool × Option Value × Option Bool × Option Bool × Bool) × List (List (Option Bool)) × Option (Option Value) × Option Bool :=
  (cs.map rowOf, cs.map (fun c => cs.map fun d => some (c.2 == d.2 || d.2 == F)), some (some (.builtin "getset_descriptor.__get__")), some true)
structure Cl (cs : List (Str × Addr)) (F : Addr) (K : Frag) : Prop where
  ec : ∀ c ∈ cs, EC K c.1 c.2
  mro : ∀ c ∈ cs, ∀ d ∈ cs, mroIn K c.2 (.ref d.2) = some (c.2 == d.2 || d.2 == F)
theorem cl_of {cs : List (Str × Addr)} {F : Addr} {K : Frag} (e : obsAll cs K = expAll cs F) : Cl cs F K := by
  obtain ⟨e1, e2, e3, e4⟩ : cs.map (obsRow K) = cs.map rowOf ∧ cs.map (fun c => cs.map fun d => mroIn K c.2 (.ref d.2)) = cs.map (fun c => cs.map fun d => some (c.2 == d.2 || d.2 == F)) ∧ specialIn K (.builtin "object.__class__") "__get__" = some (some (.builtin "getset_descriptor.__get__")) ∧ takesIn K (.builtin "object.__class__") = some true := by
    simpa only [obsAll, expAll, Prod.mk.injEq] using e
  refine ⟨fun c hc => ?_, fun c hc d hd => List.map_inj_left.mp (List.map_inj_left.mp e2 c hc) d hd⟩
  have r := List.map_inj_left.mp e1 c hc
  simp only [obsRow, rowOf, Prod.mk.injEq] at r
  obtain ⟨r1, r2, r3, r4, r5, r6, r7, r8, r9, r10⟩ := r
  exact ⟨r1, ⟨r2, r3, r4, e3, e4, r5, r8, r6⟩, r7, r8, r9, r10⟩
def ecHook (as : List Addr) (cs : List (Str × Addr)) (F : Addr) : Hook :=
  ⟨_, fun s => obsAll cs (fragAt as s.heap), fun _ => expAll cs F, fun _ h => ∃ K : Frag, K.In h ∧ Cl cs F K, fun _ _ e => ⟨_, fragAt_in, cl_of e⟩, fun _ _ _ ⟨K, i, c⟩ k => ⟨K, i.keeps k, c⟩⟩
theorem Cl.eu {cs : List (Str × Addr)} {F : Addr} {K : Frag} (C : Cl cs F K) {x y : Str} {a : Addr} (hc : (x, a) ∈ cs) (hf : (y, F) ∈ cs) : EU K x a F :=
  ⟨C.ec _ hc, by have := C.mro _ hc _ hf; simpa using this, by have := C.mro _ hc _ hc; simpa using this⟩
end Mine

namespace Mine
open PySem PySem.Spec PySem.Calls PyProof.Rows PySem.W
/-- the looks at the top's end, one by one -/
theorem looks_of {q : Program} {loose mods : List Str} {Xt : Shared → Bool} {s : Shared} {A : Bool} {α : Type} {y y' : α} (h0 : A = true)
    (h1 : seen ((recsOf q).map (·.name)) (ownsOf q) [] { s with gens := #[] } = expectedOf q) (h2 : s.heap.bltView = bltViewBooted)
    (h3 : (s.heap.keysOk (looseW q loose) ((recsOf q).map (·.name)) ((litsOf q).map (·.1)) ((clssOf q (looseW q loose)).map (·.name)) && s.heap.accountedOkI mods && s.heap.isNs mainGlobals && s.heap.isNs builtinsNs && tablesOk q s.heap && Xt s && (if true = true then s.gens.size == 0 else !leftWithCleanup s.gens)) = true)
    (h4 : tabsOk q s = true) (h5 : pinSeenD q (drecsOf q) s = pinGoodD (drecsOf q)) (h6 : plainSeenE q (looseW q loose) s = plainGoodE q (looseW q loose)) (h7 : plainSeenD q loose s = plainGoodD q loose) (h8 : wideSeen q s = wideGood q) (h9 : clsSeenW q loose s = clsGoodW q loose) (hy : y = y') :
    (A, openSeen q loose mods Xt true s, y) = (true, openGood q loose, y') := by
  unfold openSeen openGood
  rw [h0, h1, h2, h3, h4, h5, h6, h7, h8, h9, hy]
end Mine

set_option maxHeartbeats 400000
namespace Mine
open PySem PySem.Spec PySem.Calls PyProof.Rows PySem.W PySem.Challenge
/-- the script's cell, and a draw -/
def cell (ns : List Int) (k : Int) : Int := ns.getD k.toNat 0
def wayF (ns : List Int) (k : Int) (m : Int) : Int := (cell ns k * 48271 + 7919 * (ns.length : Int)) % 2147483647 % m
theorem wayF_lo {ns : List Int} {k : Int} {m : Int} (h : 0 < m) : 0 ≤ wayF ns k m := Int.emod_nonneg _ (by (first | lia | omega))
theorem wayF_hi {ns : List Int} {k : Int} {m : Int} (h : 0 < m) : wayF ns k m < m := Int.emod_lt_of_pos _ h
abbrev scr (ns : List Int) : PyData := .list (ns.map PyData.int)
def isInt : PyData → Bool
  | .int _ => true
  | _ => false
def wholeB : PyData → Int → Bool
  | .int a, k => decide (a ≥ k)
  | _, _ => false
local macro_rules | `(tactic| walk_at "sz") => `(tactic| first | with_reducible assumption | assumption | exact sz_lit (by decide) | exact Sz.mul (by walk_at "sz") (by walk_at "sz") | exact Sz.add (by walk_at "sz") (by walk_at "sz") | exact Sz.sub (by walk_at "sz") (by walk_at "sz") | exact Sz.abs (by walk_at "sz") | exact Sz.neg (by walk_at "sz"))
local macro_rules | `(tactic| walk_at "mul") => `(tactic| first | exact IntMulOk.of_left (by decide) | exact IntMulOk.of_right (by decide) | exact mul_ok (by walk_at "sz") (by walk_at "sz"))
local macro_rules | `(tactic| walk_at "pos") => `(tactic| first | assumption | decide | (first | lia | omega))
local macro_rules | `(tactic| walk_at "small") => `(tactic| first | decide | exact div_ok (by walk_at "sz") | (first | lia | omega))
local macro_rules | `(tactic| walk_at "shaped") => `(tactic| first | rfl | decide | decide +kernel)
local macro_rules | `(tactic| walk_at "len") => `(tactic| first | decide | (simp only [List.length_cons, List.length_nil]; decide) | (simp; (first | lia | omega)) | (first | lia | omega))

/-- gcd facts -/
theorem gcd_step {a b : Int} (_hb : 0 < b) : Int.gcd b (a % b) = Int.gcd a b := by
  rw [Int.emod_def, Int.gcd_sub_mul_left_right, Int.gcd_comm]
theorem gcd_pos {a b : Int} (hb : 1 ≤ b) : (1 : Int) ≤ (Int.gcd a b : Int) := by
  have : 0 < Int.gcd a b := Int.gcd_pos_of_ne_zero_right _ (by (first | lia | omega))
  (first | lia | omega)
theorem gcd_le {a b : Int} (hb : 1 ≤ b) : (Int.gcd a b : Int) ≤ b := by
  have h1 : (Int.gcd a b : Int) ∣ b := Int.gcd_dvd_right a b
  exact Int.le_of_dvd (by (first | lia | omega)) h1
theorem low_props {a b : Int} (ha : 0 ≤ a) (hb : 1 ≤ b) : 0 ≤ a / (Int.gcd a b : Int) ∧ 1 ≤ b / (Int.gcd a b : Int) ∧ Int.gcd (a / (Int.gcd a b : Int)) (b / (Int.gcd a b : Int)) = 1 ∧ a / (Int.gcd a b : Int) ≤ a ∧ b / (Int.gcd a b : Int) ≤ b ∧
    a / (Int.gcd a b : Int) * (Int.gcd a b : Int) = a ∧ b / (Int.gcd a b : Int) * (Int.gcd a b : Int) = b := by
  have hg := gcd_pos (a := a) hb
  have d1 : (Int.gcd a b : Int) ∣ a := Int.gcd_dvd_left a b
  have d2 : (Int.gcd a b : Int) ∣ b := Int.gcd_dvd_right a b
  have e1 := Int.ediv_mul_cancel d1
  have e2 := Int.ediv_mul_cancel d2
  have p1 : 0 ≤ a / (Int.gcd a b : Int) := Int.ediv_nonneg ha (by (first | lia | omega))
  have p2 : 0 ≤ b / (Int.gcd a b : Int) := Int.ediv_nonneg (by (first | lia | omega)) (by (first | lia | omega))
  have p3 : b / (Int.gcd a b : Int) ≠ 0 := by
    intro e; rw [e] at e2; (first | lia | omega)
  refine ⟨p1, by (first | lia | omega), ?_, Int.ediv_le_self _ ha, Int.ediv_le_self _ (by (first | lia | omega)), e1, e2⟩
  exact Int.gcd_ediv_gcd_ediv_gcd_of_ne_zero_right (by (first | lia | omega))

section
variable {c : Cx} (hc : recsOf c.p = recsOf pw_uf050018_12) (B : Bn c)
include hc

theorem f_cell (B : Bn c) {ns : List Int} {k : Int} (h0 : 0 ≤ k) (h1 : k < 2 ^ 60) (hn : ns.length ≤ 63) : FnD c 1 "_law_cell_at" [scr ns, .int k] (.int (cell ns k)) := by
  have hdef := def_at (f := "_law_cell_at") hc 23 rfl rfl rfl (by kernel_rfl)
  refine fn2 (x1 := "_law_script") (x2 := "_law_k") hdef rf_old (by intros; rfl) (fun A g h L fa cd T rm S => ?_)
  have hl : (ns.map PyData.int).length < 2 ^ 62 := by simp; (first | lia | omega)
  refine run_if S (tr_icmp (ev_var S rfl) (ev_lenl S T B (ev_var S rfl) hl) rfl) (fun e h S => ?_) (fun e h S => ?_)
  · have e' : k < ns.length := by simpa using e
    have hx : (ns.map PyData.int)[k.toNat]? = some (.int (cell ns k)) := by
      have : k.toNat < ns.length := by (first | lia | omega)
      simp [cell, this]
    exact run_ret (ev_lidx (ev_var S rfl) (ev_var S rfl) hx h0 (by (first | lia | omega))) fun v h' _ r => Rf.of_flat rfl r
  · have e' : ¬ k < ns.length := by simpa using e
    have hx : cell ns k = 0 := by
      have : ns.length ≤ k.toNat := by (first | lia | omega)
      simp [cell, List.getElem?_eq_none this]
    rw [hx]
    exact run_nil (run_ret ev_int fun v h' _ r => Rf.of_flat rfl r)

theorem f_way (B : Bn c) {ns : List Int} {k m : Int} (h0 : 0 ≤ k) (h1 : k < 2 ^ 60) (hn : ns.length ≤ 63) (hm : 0 < m) : FnD c 2 "_law_way" [scr ns, .int k, .int m] (.int (wayF ns k m)) := by
  have hdef := def_at (f := "_law_way") hc 24 rfl rfl rfl (by kernel_rfl)
  refine fn3 (x1 := "_law_script") (x2 := "_law_k") (x3 := "_law_many") hdef rf_old (by intros; rfl) (fun A g h L fa cd T rm S => ?_)
  have hl : (ns.map PyData.int).length < 2 ^ 62 := by simp; (first | lia | omega)
  have e : wayF ns k m = (cell ns k * 48271 + 7919 * ((ns.map PyData.int).length : Int)) % 2147483647 % m := by simp [wayF]
  rw [e]
  exact run_ret (ev_mod (ev_mod (ev_add (ev_mul (ev_calld S T rm (f_cell hc B h0 h1 hn) (evl_cons (ev_var S rfl) (evl_cons (ev_var S rfl) evl_nil))) ev_int (by walk_at "mul")) (ev_mul ev_int (ev_lenl S T B (ev_var S rfl) hl) (by walk_at "mul"))) ev_int (by decide)) (ev_var S rfl) hm) fun v h' _ r => Rf.of_flat rfl r

theorem f_whole (B : Bn c) {d : PyData} : FnD c 1 "_law_whole" [d] (.bool (isInt d)) := by
  have hdef := def_at (f := "_law_whole") hc 25 rfl rfl rfl (by kernel_rfl)
  refine fn1 (x1 := "_law_found") hdef rf_old (by intros; rfl) (fun A g h L fa cd T rm S => ?_)
  have e : isInt d = (isiB d "int" && !isiB d "bool") := by cases d <;> rfl
  rw [e]
  exact run_ret (ev_bop (bo_and (ev_isi S T B (ev_var S rfl)) fun _ => (bo_last (ev_not (ev_isi S T B (ev_var S rfl)))))) fun v h' _ r => Rf.of_flat rfl r

theorem f_shared {a b : Int} (ha : 0 ≤ a) (hb : 0 ≤ b) : FnD c 1 "_law_shared" [.int a, .int b] (.int (Int.gcd a b)) := by
  have hdef := def_at (f := "_law_shared") hc 26 rfl rfl rfl (by kernel_rfl)
  refine fn2 (x1 := "_law_one") (x2 := "_law_other") hdef rf_old (by intros; rfl) (fun A g h L fa cd T rm S => ?_)
  refine run_while (fun n ρ μ => ∃ a' b' : Int, 0 ≤ a' ∧ 0 ≤ b' ∧ n = b'.toNat ∧ μ = none ∧ ρ = ([("_law_one", .int a'), ("_law_other", .int b')] : Locs) ∧ Int.gcd a' b' = Int.gcd a b) b.toNat S ⟨a, b, ha, hb, rfl, rfl, rfl, rfl⟩ ?_
  rintro n ρ μ h ⟨a', b', ha', hb', rfl, rfl, rfl, hg⟩ S
  refine ⟨_, tr_icmp (ev_var S rfl) ev_int rfl, fun e h' S => ?_, fun e h' S => ?_⟩
  · have hpos : 0 < b' := by simpa using e
    refine run_swap2 rm.hd S (evl_cons (ev_var S rfl) (evl_cons (ev_mod (ev_var S rfl) (ev_var S rfl) hpos) evl_nil)) fun h' S => ?_
    refine run_nil ⟨_, _, _, ?_, ⟨b', a' % b', by (first | lia | omega), Int.emod_nonneg _ (by (first | lia | omega)), rfl, rfl, rfl, ?_⟩, S.pick ⟨rfl, rfl, trivial⟩⟩
    · have := Int.emod_lt_of_pos a' hpos
      (first | lia | omega)
    · rw [← hg]; exact gcd_step hpos
  · have h0 : b' = 0 := by
      have : ¬ (b' > 0) := by simpa using e
      (first | lia | omega)
    subst h0
    refine run_ret (ev_var S rfl) fun v h' k r => Rf.of_flat rfl ?_
    have : (a' : Int) = (Int.gcd a b : Int) := by rw [← hg]; simp; (first | lia | omega)
    rw [← this]; exact r

theorem f_frac {a b : Int} (ha : 0 ≤ a) (hb : 1 ≤ b) {n : Nat} (sb : Sz n b) (hn : n ≤ 250) : FnD c 2 "_law_frac" [.int a, .int b] (.tuple [.int (a / (Int.gcd a b : Int)), .int (b / (Int.gcd a b : Int))]) := by
  have hdef := def_at (f := "_law_frac") hc 27 rfl rfl rfl (by kernel_rfl)
  refine fn2 (x1 := "_law_upper") (x2 := "_law_lower") hdef rf_old (by intros; rfl) (fun A g h L fa cd T rm S => ?_)
  refine run_set S (ev_calld S T rm (f_shared hc ha (by (first | lia | omega))) (evl_cons (ev_var S rfl) (evl_cons (ev_var S rfl) evl_nil))) fun h S => ?_
  have hg := gcd_pos (a := a) hb
  have hg2 : (Int.gcd a b : Int) < 10 ^ 250 := div_ok (sb.le (by (first | lia | omega)) (gcd_le hb)) hn
  exact run_ret (ev_tup (evl_cons (ev_div (ev_var S rfl) (ev_var S rfl) (by (first | lia | omega)) hg2) (evl_cons (ev_div (ev_var S rfl) (ev_var S rfl) (by (first | lia | omega)) hg2) evl_nil))) fun v h' _ r => Rf.of_flat rfl r

omit hc in
theorem ge_of {a : Int} (e : decide (a ≥ 0) = true) : 0 ≤ a := by simpa using e
omit hc in
theorem ge_of1 {a : Int} (e : decide (a ≥ 1) = true) : 0 ≤ a := by have h : a ≥ 1 := of_decide_eq_true e; (first | lia | omega)
/-- is a pair of ints a fraction in lowest terms? -/
def fracB (a b : Int) : Bool := decide (a ≥ 0) && (decide (b ≥ 1) && ((Int.gcd a b : Int) == 1))
theorem f_is_frac (B : Bn c) {a b : Int} : FnD c 2 "_law_is_frac" [.tuple [.int a, .int b]] (.bool (fracB a b)) := by
  have hdef := def_at (f := "_law_is_frac") hc 28 rfl rfl rfl (by kernel_rfl)
  refine fn1 (x1 := "_law_found") hdef rf_old (by intros; rfl) (fun A g h L fa cd T rm S => ?_)
  refine run_if S (tr_bool (all_or (tr_not (tr_val (ev_isi S T B (ev_var S rfl)))) fun _ => (all_or (tr_icmp (ev_lent S T B (ev_var S rfl) (by walk_at "len")) ev_int rfl) fun _ => all_or_nil))) (fun e h S => by simp [isiB] at e) (fun e h S => run_nil ?_)
  refine run_if S (tr_bool (all_or (tr_not (tr_val (ev_calld S T rm (f_whole hc B) (evl_cons (ev_tidx (ev_var S rfl) ev_int) evl_nil)))) fun _ => (all_or (tr_not (tr_val (ev_calld S T rm (f_whole hc B) (evl_cons (ev_tidx (ev_var S rfl) ev_int) evl_nil)))) fun _ => all_or_nil))) (fun e h S => by simp [isInt] at e) (fun e h S => run_nil ?_)
  refine run_ret (ev_bop (bo_and (ev_icmp (ev_tidx (ev_var S rfl) ev_int) ev_int rfl) fun e1 => bo_and (ev_icmp (ev_tidx (ev_var S rfl) ev_int) ev_int rfl) fun e2 => bo_last (ev_icmp (ev_calld S T rm (f_shared hc (ge_of e1) (ge_of1 e2)) (evl_cons (ev_tidx (ev_var S rfl) ev_int) (evl_cons (ev_tidx (ev_var S rfl) ev_int) evl_nil))) ev_int rfl))) fun v h' _ r => Rf.of_flat rfl r
omit hc in
theorem fracB_true {a b : Int} (ha : 0 ≤ a) (hb : 1 ≤ b) (hg : Int.gcd a b = 1) : fracB a b = true := by simp [fracB, ha, hb, hg]

theorem f_is_whole (B : Bn c) {d : PyData} {k : Int} : FnD c 1 "is_whole" [d, .int k] (.bool (wholeB d k)) := by
  have hdef := def_at (f := "is_whole") hc 6 rfl rfl rfl (by kernel_rfl)
  refine fn2 (x1 := "thing") (x2 := "least") hdef rf_old (by intros; rfl) (fun A g h L fa cd T rm S => ?_)
  cases d with
  | int a => exact run_ret (ev_bop (bo_and (ev_isi S T B (ev_var S rfl)) fun _ => bo_and (ev_not (ev_isi S T B (ev_var S rfl))) fun _ => bo_last (ev_icmp (ev_var S rfl) (ev_var S rfl) rfl))) fun v h' _ r => Rf.of_flat rfl r
  | bool b => exact run_ret (ev_bop (bo_and (ev_isi S T B (ev_var S rfl)) fun _ => bo_and (b := false) (ev_not (ev_isi S T B (ev_var S rfl))) fun e' => absurd e' (by simp [isiB]))) fun v h' _ r => Rf.of_flat rfl r
  | none => exact run_ret (ev_bop (bo_and (b := false) (ev_isi S T B (ev_var S rfl)) fun e => absurd e (by simp [isiB]))) fun v h' _ r => Rf.of_flat rfl r
  | str x => exact run_ret (ev_bop (bo_and (b := false) (ev_isi S T B (ev_var S rfl)) fun e => absurd e (by simp [isiB]))) fun v h' _ r => Rf.of_flat rfl r
  | list x => exact run_ret (ev_bop (bo_and (b := false) (ev_isi S T B (ev_var S rfl)) fun e => absurd e (by simp [isiB]))) fun v h' _ r => Rf.of_flat rfl r
  | tuple x => exact run_ret (ev_bop (bo_and (b := false) (ev_isi S T B (ev_var S rfl)) fun e => absurd e (by simp [isiB]))) fun v h' _ r => Rf.of_flat rfl r
  | dict x => exact run_ret (ev_bop (bo_and (b := false) (ev_isi S T B (ev_var S rfl)) fun e => absurd e (by simp [isiB]))) fun v h' _ r => Rf.of_flat rfl r

theorem f_divisor {a b : Int} (ha : 0 ≤ a) (hb : 0 ≤ b) : FnD c 1 "divisor" [.int a, .int b] (.int (Int.gcd a b)) := by
  have hdef := def_at (f := "divisor") hc 7 rfl rfl rfl (by kernel_rfl)
  refine fn2 (x1 := "one") (x2 := "other") hdef rf_old (by intros; rfl) (fun A g h L fa cd T rm S => ?_)
  refine run_while (fun n ρ μ => ∃ a' b' : Int, 0 ≤ a' ∧ 0 ≤ b' ∧ n = b'.toNat ∧ μ = none ∧ ρ = ([("one", .int a'), ("other", .int b')] : Locs) ∧ Int.gcd a' b' = Int.gcd a b) b.toNat S ⟨a, b, ha, hb, rfl, rfl, rfl, rfl⟩ ?_
  rintro n ρ μ h ⟨a', b', ha', hb', rfl, rfl, rfl, hg⟩ S
  refine ⟨_, tr_icmp (ev_var S rfl) ev_int rfl, fun e h' S => ?_, fun e h' S => ?_⟩
  · have hpos : 0 < b' := by simpa using e
    refine run_set S (ev_mod (ev_var S rfl) (ev_var S rfl) hpos) fun h' S => ?_
    refine run_set S (ev_var S rfl) fun h' S => ?_
    refine run_set S (ev_var S rfl) fun h' S => ?_
    refine run_nil ⟨_, _, _, ?_, ⟨b', a' % b', by (first | lia | omega), Int.emod_nonneg _ (by (first | lia | omega)), rfl, rfl, rfl, ?_⟩, S.pick ⟨rfl, rfl, trivial⟩⟩
    · have := Int.emod_lt_of_pos a' hpos
      (first | lia | omega)
    · rw [← hg]; exact gcd_step hpos
  · have h0 : b' = 0 := by
      have : ¬ (b' > 0) := by simpa using e
      (first | lia | omega)
    subst h0
    refine run_ret (ev_var S rfl) fun v h' k r => Rf.of_flat rfl ?_
    have : (a' : Int) = (Int.gcd a b : Int) := by rw [← hg]; simp; (first | lia | omega)
    rw [← this]; exact r

theorem f_lowest (B : Bn c) {a b : Int} (ha : 0 ≤ a) (hb : 1 ≤ b) {n : Nat} (sb : Sz n b) (hn : n ≤ 250) : FnD c 2 "lowest" [.int a, .int b] (.tuple [.int (a / (Int.gcd a b : Int)), .int (b / (Int.gcd a b : Int))]) := by
  have hdef := def_at (f := "lowest") hc 8 rfl rfl rfl (by kernel_rfl)
  refine fn2 (x1 := "upper") (x2 := "lower") hdef rf_old (by intros; rfl) (fun A g h L fa cd T rm S => ?_)
  refine run_if S (tr_bool (all_or (tr_not (tr_val (ev_calld S T rm (f_is_whole hc B) (evl_cons (ev_var S rfl) (evl_cons ev_int evl_nil))))) fun _ => (all_or (tr_not (tr_val (ev_calld S T rm (f_is_whole hc B) (evl_cons (ev_var S rfl) (evl_cons ev_int evl_nil))))) fun _ => all_or_nil))) (fun e h S => by simp [wholeB, ha, hb] at e) (fun e h S => run_nil ?_)
  refine run_set S (ev_calld S T rm (f_divisor hc ha (by (first | lia | omega))) (evl_cons (ev_var S rfl) (evl_cons (ev_var S rfl) evl_nil))) fun h S => ?_
  have hg := gcd_pos (a := a) hb
  have hg2 : (Int.gcd a b : Int) < 10 ^ 250 := div_ok (sb.le (by (first | lia | omega)) (gcd_le hb)) hn
  exact run_ret (ev_tup (evl_cons (ev_div (ev_var S rfl) (ev_var S rfl) (by (first | lia | omega)) hg2) (evl_cons (ev_div (ev_var S rfl) (ev_var S rfl) (by (first | lia | omega)) hg2) evl_nil))) fun v h' _ r => Rf.of_flat rfl r


/-- a fraction: its two parts in order -/
structure Fr2 (n : Nat) (a b : Int) : Prop where
  lo : 0 ≤ a
  up : 1 ≤ b
  co : Int.gcd a b = 1
  sa : Sz n a
  sb : Sz n b
theorem f_frac_ex {a b : Int} (ha : 0 ≤ a) (hb : 1 ≤ b) {n : Nat} (sa : Sz n a) (sb : Sz n b) (hn : n ≤ 250) : ∃ a' b' : Int, FnD c 2 "_law_frac" [.int a, .int b] (.tuple [.int a', .int b']) ∧ Fr2 n a' b' ∧ a' * b = a * b' := by
  obtain ⟨p1, p2, p3, p4, p5, p6, p7⟩ := low_props ha hb
  refine ⟨_, _, f_frac hc ha hb sb hn, ⟨p1, p2, p3, sa.le p1 p4, sb.le (by (first | lia | omega)) p5⟩, ?_⟩
  generalize ha' : a / (Int.gcd a b : Int) = a' at *
  generalize hb' : b / (Int.gcd a b : Int) = b' at *
  generalize (Int.gcd a b : Int) = g at *
  rw [← p7, ← p6]; grind

theorem f_less {a b a' b' : Int} {n : Nat} (s1 : Sz n a) (s2 : Sz n b) (s3 : Sz n a') (s4 : Sz n b') (hn : n ≤ 1000) : FnD c 1 "less" [.tuple [.int a, .int b], .tuple [.int a', .int b']] (.bool (decide (a * b' < a' * b))) := by
  have hdef := def_at (f := "less") hc 9 rfl rfl rfl (by kernel_rfl)
  refine fn2 (x1 := "one") (x2 := "other") hdef rf_old (by intros; rfl) (fun A g h L fa cd T rm S => ?_)
  exact run_ret (ev_icmp (ev_mul (ev_tidx (ev_var S rfl) ev_int) (ev_tidx (ev_var S rfl) ev_int) (mul_ok s1 s4 hn hn)) (ev_mul (ev_tidx (ev_var S rfl) ev_int) (ev_tidx (ev_var S rfl) ev_int) (mul_ok s3 s2 hn hn)) rfl) fun v h' _ r => Rf.of_flat rfl r

theorem f_apart (B : Bn c) {a b a' b' : Int} {n : Nat} (f1 : Fr2 n a b) (f2 : Fr2 n a' b') (hn : n ≤ 120) : ∃ x y : Int, FnD c 3 "apart" [.tuple [.int a, .int b], .tuple [.int a', .int b']] (.tuple [.int x, .int y]) ∧ Fr2 (n + n + 1) x y ∧ x * (b * b') = ((a * b' - a' * b).natAbs : Int) * y := by
  have hbb : 1 ≤ b * b' := by
    have h1 := f1.up; have h2 := f2.up
    have := Int.mul_le_mul h1 h2 (by (first | lia | omega)) (by (first | lia | omega))
    (first | lia | omega)
  have sg : Sz (n + n + 1) ((a * b' - a' * b).natAbs : Int) := ((f1.sa.mul f2.sb).sub (f2.sa.mul f1.sb)).abs.mono (by (first | lia | omega))
  have sl : Sz (n + n + 1) (b * b') := (f1.sb.mul f2.sb).mono (by (first | lia | omega))
  have hlow := f_lowest hc B (a := ((a * b' - a' * b).natAbs : Int)) (b := b * b') (by (first | lia | omega)) hbb sl (by (first | lia | omega))
  obtain ⟨p1, p2, p3, p4, p5, p6, p7⟩ := low_props (a := ((a * b' - a' * b).natAbs : Int)) (b := b * b') (by (first | lia | omega)) hbb
  refine ⟨_, _, ?_, ⟨p1, p2, p3, sg.le p1 p4, sl.le (by (first | lia | omega)) p5⟩, ?_⟩
  · have hdef := def_at (f := "apart") hc 10 rfl rfl rfl (by kernel_rfl)
    refine fn2 (x1 := "one") (x2 := "other") hdef rf_old (by intros; rfl) (fun A g h L fa cd T rm S => ?_)
    refine run_set S (ev_abs S T B (ev_sub (ev_mul (ev_tidx (ev_var S rfl) ev_int) (ev_tidx (ev_var S rfl) ev_int) (mul_ok f1.sa f2.sb (by (first | lia | omega)) (by (first | lia | omega)))) (ev_mul (ev_tidx (ev_var S rfl) ev_int) (ev_tidx (ev_var S rfl) ev_int) (mul_ok f2.sa f1.sb (by (first | lia | omega)) (by (first | lia | omega)))))) fun h S => ?_
    exact run_ret (ev_calld S T rm hlow (evl_cons (ev_var S rfl) (evl_cons (ev_mul (ev_tidx (ev_var S rfl) ev_int) (ev_tidx (ev_var S rfl) ev_int) (mul_ok f1.sb f2.sb (by (first | lia | omega)) (by (first | lia | omega)))) evl_nil))) fun v h' _ r => Rf.of_flat rfl r
  · generalize ((a * b' - a' * b).natAbs : Int) = G at *
    generalize b * b' = D at *
    generalize G / (Int.gcd G D : Int) = x at *
    generalize D / (Int.gcd G D : Int) = y at *
    generalize (Int.gcd G D : Int) = q at *
    rw [← p7, ← p6]; grind

omit hc in
theorem Fr2.mono {n m : Nat} {a b : Int} (f : Fr2 n a b) (h : n ≤ m) : Fr2 m a b := ⟨f.lo, f.up, f.co, f.sa.mono h, f.sb.mono h⟩


theorem f_path_of {p : Path} {U V : Int} (ok : okP none p) (he : endP p = (U, V)) (sU : Sz 100 U) (sV : Sz 100 V) : FnL c 1 "path_of" [PD U V] (pathD p) := by
  have hlen : p.length < 600 := len_small ok (by rw [he]; have := sU.2; have := sV.2; show U + V ≤ 10 ^ 101; (first | lia | omega))
  have hpos := end_pos ok
  rw [he] at hpos
  obtain ⟨hU, hV⟩ := hpos
  dsimp only at hU hV
  have hdef := def_at (f := "path_of") hc 20 rfl rfl rfl (by kernel_rfl)
  refine fn1 (x1 := "frac") hdef rl_old (by intros; rfl) (fun A g h L fa cd T rm S => ?_)
  refine run_unpack2 rm.hd S (ev_var S rfl) fun h S => ?_
  refine run_if S (tr_icmp (ev_var S rfl) ev_int rfl) (fun e h S => by simp at e; (first | lia | omega)) (fun e h S => run_nil ?_)
  refine run_own S (ev_list evl_nil) fun l h S => ?_
  have S1 : St g L h [("upper", .int (endP p).1), ("lower", .int (endP p).2)] (some ("path", l, pathD [])) := by rw [he]; exact S.pick ⟨rfl, rfl, trivial⟩
  refine run_while (fun n ρ μ => ∃ dn rs a, p = dn ++ rs ∧ okP a rs ∧ n = rs.length ∧ Sz 100 (endP rs).1 ∧ Sz 100 (endP rs).2 ∧ μ = (some ("path", l, pathD dn) : Mut) ∧ ρ = ([("upper", .int (endP rs).1), ("lower", .int (endP rs).2)] : Locs)) p.length S1 ⟨[], p, none, rfl, ok, rfl, by rw [he]; exact sU, by rw [he]; exact sV, rfl, rfl⟩ ?_
  rintro n ρ μ h ⟨dn, rs, a, hp, hok, rfl, s1, s2, rfl, rfl⟩ S
  obtain ⟨hu, hl⟩ := end_pos hok
  refine ⟨_, (tr_icmp (ev_var S rfl) (ev_var S rfl) rfl), fun e h S => ?_, fun e h S => ?_⟩
  · cases rs with
    | nil => simp [endP] at e
    | cons s t =>
      obtain ⟨w, m⟩ := s
      obtain ⟨tu, tl⟩ := end_pos hok.2.2
      have hm : 1 ≤ m := hok.1
      have hdl : dn.length < 600 := by rw [hp] at hlen; simp at hlen; (first | lia | omega)
      cases w
      · obtain ⟨e1, e2, e3⟩ := end_left hok
        have sm : Sz 100 m := by
          rw [← e2]
          exact s2.le (Int.ediv_nonneg (by (first | lia | omega)) (by (first | lia | omega))) (Int.le_trans (Int.ediv_le_self _ (by (first | lia | omega))) (by (first | lia | omega)))
        have hd : (endP t).2 ≤ (endP ((false, m) :: t)).2 := by
          rw [← e3]
          have := Int.mul_nonneg (show 0 ≤ m by (first | lia | omega)) (show 0 ≤ (endP ((false, m) :: t)).1 by (first | lia | omega))
          (first | lia | omega)
        refine run_if S (tr_icmp (ev_var S rfl) (ev_var S rfl) rfl) (fun e h S => by simp at e; (first | lia | omega)) (fun e h S => ?_)
        refine run_set S (ev_div (ev_sub (ev_var S rfl) ev_int) (ev_var S rfl) (by walk_at "pos") (by walk_at "small")) fun h S => ?_
        rw [e2] at S
        refine run_append S (ev_tup (evl_cons ev_str (evl_cons (ev_var S rfl) evl_nil))) rfl (.head _) (by rw [pathD_len]; (first | lia | omega)) fun h S => ?_
        refine run_set S (ev_sub (ev_var S rfl) (ev_mul (ev_var S rfl) (ev_var S rfl) (by walk_at "mul"))) fun h S => ?_
        rw [e3] at S
        exact run_nil (run_nil ⟨t.length, _, _, by simp, ⟨dn ++ [(false, m)], t, some false, by rw [hp]; simp, hok.2.2, rfl, s1, s2.le (by (first | lia | omega)) hd, by rw [pathD_snoc]; rfl, rfl⟩, S.pick ⟨rfl, rfl, trivial⟩⟩)
      · obtain ⟨e1, e2, e3⟩ := end_right hok
        have sm : Sz 100 m := by
          rw [← e2]
          exact s1.le (Int.ediv_nonneg (by (first | lia | omega)) (by (first | lia | omega))) (Int.le_trans (Int.ediv_le_self _ (by (first | lia | omega))) (by (first | lia | omega)))
        have hd : (endP t).1 ≤ (endP ((true, m) :: t)).1 := by
          rw [← e3]
          have := Int.mul_nonneg (show 0 ≤ m by (first | lia | omega)) (show 0 ≤ (endP ((true, m) :: t)).2 by (first | lia | omega))
          (first | lia | omega)
        refine run_if S (tr_icmp (ev_var S rfl) (ev_var S rfl) rfl) (fun e h S => ?_) (fun e h S => by simp at e; (first | lia | omega))
        refine run_set S (ev_div (ev_sub (ev_var S rfl) ev_int) (ev_var S rfl) (by walk_at "pos") (by walk_at "small")) fun h S => ?_
        rw [e2] at S
        refine run_append S (ev_tup (evl_cons ev_str (evl_cons (ev_var S rfl) evl_nil))) rfl (.head _) (by rw [pathD_len]; (first | lia | omega)) fun h S => ?_
        refine run_set S (ev_sub (ev_var S rfl) (ev_mul (ev_var S rfl) (ev_var S rfl) (by walk_at "mul"))) fun h S => ?_
        rw [e3] at S
        exact run_nil (run_nil ⟨t.length, _, _, by simp, ⟨dn ++ [(true, m)], t, some true, by rw [hp]; simp, hok.2.2, rfl, s1.le (by (first | lia | omega)) hd, s2, by rw [pathD_snoc]; rfl, rfl⟩, S.pick ⟨rfl, rfl, trivial⟩⟩)
  · cases rs with
    | nil =>
      rw [List.append_nil] at hp
      subst hp
      exact run_ret (ev_own S) fun v h' _ r => r
    | cons s t => exact absurd (by simpa using e) (end_ne hok)

theorem f_walked {p : Path} {U V : Int} (ok : okP none p) (he : endP p = (U, V)) (sU : Sz 100 U) (sV : Sz 100 V) : FnD c 1 "walked" [.list (pathD p)] (.tuple [PD (walkP p).l0 (walkP p).l1, PD (walkP p).r0 (walkP p).r1]) := by
  have hdef := def_at (f := "walked") hc 19 rfl rfl rfl (by kernel_rfl)
  refine fn1 (x1 := "path") hdef rf_old (by intros; rfl) (fun A g h L fa cd T rm S => ?_)
  refine run_set S (ev_tup (evl_cons ev_int (evl_cons ev_int evl_nil))) fun h S => ?_
  refine run_set S (ev_tup (evl_cons ev_int (evl_cons ev_int evl_nil))) fun h S => ?_
  refine run_set S ev_str fun h S => ?_
  refine run_for2 rm.hd (fun i ρ μ => ∃ (q : Q4) (a : Option Bool), q.nn ∧ (p.drop i).foldl stepP q = walkP p ∧ okP a (p.drop i) ∧ (endP (p.drop i)).1 * q.r0 + (endP (p.drop i)).2 * q.l0 = U ∧ (endP (p.drop i)).1 * q.r1 + (endP (p.drop i)).2 * q.l1 = V ∧ μ = none ∧
      ρ = ([("left", PD q.l0 q.l1), ("right", PD q.r0 q.r1), ("ahead", .str (aw a))] : Locs)) (S.pick (ρ' := [("left", PD q0.l0 q0.l1), ("right", PD q0.r0 q0.r1), ("ahead", .str (aw none))]) ⟨rfl, rfl, rfl, trivial⟩) (iter_list rm.hd (src_var S rfl wok_nil) (w_hold S wok_nil)) ⟨q0, none, q0_nn, rfl, ok, ?_, ?_, rfl, rfl⟩ (w_hold S wok_nil) ?_ ?_ ?_ ?_
  · rw [List.drop_zero, he]; simp [q0]
  · rw [List.drop_zero, he]; simp [q0]
  · rintro i d1 d2 ρ μ h hd ⟨q, a, nn, hf, hok, h0, h1, rfl, rfl⟩ S
    have hd' : ∃ s, p[i]? = some s ∧ runD s = .tuple [d1, d2] := by
      simp only [pathD, List.getElem?_map, Option.map_eq_some_iff] at hd
      exact hd
    obtain ⟨⟨w, m⟩, hpi, hrd⟩ := hd'
    have hdr := drop_at hpi
    simp only [runD, PyData.tuple.injEq, List.cons.injEq, and_true] at hrd
    obtain ⟨rfl, rfl⟩ := hrd
    obtain ⟨b1, b2, b3, b4⟩ := walk_le hok nn h0 h1
    have z1 := sU.le nn.a b1
    have z2 := sU.le nn.c b2
    have z3 := sV.le nn.b b3
    have z4 := sV.le nn.d b4
    have hmem := runs_le ok (w, m) (List.mem_of_getElem? hpi)
    rw [he] at hmem
    rw [hdr] at hok hf h0 h1
    have hm : 1 ≤ m := hok.1
    have zm : Sz 101 m := (sU.add sV).le (by (first | lia | omega)) hmem
    have hne : a ≠ some w := hok.2.1
    have e3 : PyData.eqv (.str (wd w)) (.str (aw a)) = false := by
      rcases a with _ | _ | _ <;> cases w <;> first | exact absurd rfl hne | decide +kernel
    have e1 : ([PyData.str "left", .str "right"].any fun y => PyData.eqv y (.str (wd w))) = true := by cases w <;> decide +kernel
    have hsw : SeqAt.shaped (.str (wd w)) = true := by cases w <;> decide +kernel
    have hsa : SeqAt.shaped (.str (aw a)) = true := by rcases a with _ | _ | _ <;> decide +kernel
    refine run_if S (tr_bool (all_or (tr_notin rm (ev_var S rfl) (ev_tup (evl_cons ev_str (evl_cons ev_str evl_nil))) (by decide +kernel) hsw) fun _ => (all_or (tr_icmp (ev_var S rfl) ev_int rfl) fun _ => (all_or (tr_eq rm (ev_var S rfl) (ev_var S rfl) hsw hsa) fun _ => all_or_nil)))) (fun e h S => ?_) (fun e h S => run_nil ?_)
    · rw [e1, e3] at e; simp at e; (first | lia | omega)
    cases w
    · refine run_if S (tr_eq rm (ev_var S rfl) ev_str (by decide +kernel) (by decide +kernel)) (fun e h S => by exact absurd e (by decide +kernel)) (fun e h S => ?_)
      refine run_set S (ev_tup (evl_cons (ev_add (ev_tidx (ev_var S rfl) ev_int) (ev_mul (ev_var S rfl) (ev_tidx (ev_var S rfl) ev_int) (by walk_at "mul"))) (evl_cons (ev_add (ev_tidx (ev_var S rfl) ev_int) (ev_mul (ev_var S rfl) (ev_tidx (ev_var S rfl) ev_int) (by walk_at "mul"))) evl_nil))) fun h S => run_nil ?_
      refine run_set S (ev_var S rfl) fun h S => run_nil ⟨_, _, ⟨stepP q (false, m), some false, step_nn nn (by show 0 ≤ m; (first | lia | omega)), hf, hok.2.2, ?_, ?_, rfl, rfl⟩, S.pick ⟨rfl, rfl, rfl, trivial⟩⟩
      · exact (stepL (endP (p.drop (i + 1))).1 (endP (p.drop (i + 1))).2 m q.r0 q.l0).symm.trans h0
      · exact (stepL (endP (p.drop (i + 1))).1 (endP (p.drop (i + 1))).2 m q.r1 q.l1).symm.trans h1
    · refine run_if S (tr_eq rm (ev_var S rfl) ev_str (by decide +kernel) (by decide +kernel)) (fun e h S => ?_) (fun e h S => by exact absurd e (by decide +kernel))
      refine run_set S (ev_tup (evl_cons (ev_add (ev_tidx (ev_var S rfl) ev_int) (ev_mul (ev_var S rfl) (ev_tidx (ev_var S rfl) ev_int) (by walk_at "mul"))) (evl_cons (ev_add (ev_tidx (ev_var S rfl) ev_int) (ev_mul (ev_var S rfl) (ev_tidx (ev_var S rfl) ev_int) (by walk_at "mul"))) evl_nil))) fun h S => run_nil ?_
      refine run_set S (ev_var S rfl) fun h S => run_nil ⟨_, _, ⟨stepP q (true, m), some true, step_nn nn (by show 0 ≤ m; (first | lia | omega)), hf, hok.2.2, ?_, ?_, rfl, rfl⟩, S.pick ⟨rfl, rfl, rfl, trivial⟩⟩
      · exact (stepR (endP (p.drop (i + 1))).1 (endP (p.drop (i + 1))).2 m q.r0 q.l0).symm.trans h0
      · exact (stepR (endP (p.drop (i + 1))).1 (endP (p.drop (i + 1))).2 m q.r1 q.l1).symm.trans h1
  · rintro ρ μ h ⟨q, a, nn, hf, hok, h0, h1, rfl, rfl⟩ S
    rw [pathD_len, List.drop_length] at hf
    have hq : q = walkP p := hf
    subst hq
    exact run_ret (ev_tup (evl_cons (ev_var S rfl) (evl_cons (ev_var S rfl) evl_nil))) fun v h' _ r => Rf.of_flat rfl r
  · intro d hd
    obtain ⟨s, _, rfl⟩ := List.mem_map.mp hd
    exact ⟨_, _, rfl, rfl, rfl⟩
  · rintro i ρ μ ⟨q, a, nn, hf, hok, h0, h1, rfl, rfl⟩ q' e
    cases e

theorem f_sides {p : Path} {U V : Int} (ok : okP none p) (he : endP p = (U, V)) (sU : Sz 100 U) (sV : Sz 100 V) : FnD c 2 "sides" [PD U V] (.tuple [PD (walkP p).l0 (walkP p).l1, PD (walkP p).r0 (walkP p).r1]) := by
  have hdef := def_at (f := "sides") hc 21 rfl rfl rfl (by kernel_rfl)
  refine fn1 (x1 := "frac") hdef rf_old (by intros; rfl) (fun A g h L fa cd T rm S => ?_)
  exact run_ret (ev_calld S T rm (f_walked hc ok he sU sV) (evl_cons ((ev_call S T rm (f_path_of hc ok he sU sV) (evl_cons (ev_var S rfl) evl_nil)).mono fun _ _ _ r => r.rd) evl_nil)) fun v h' _ r => Rf.of_flat rfl r

theorem f_sides_ex {U V : Int} (hU : 1 ≤ U) (hV : 1 ≤ V) (hg : Int.gcd U V = 1) (sU : Sz 100 U) (sV : Sz 100 V) : ∃ l0 l1 r0 r1 : Int, FnD c 2 "sides" [PD U V] (.tuple [PD l0 l1, PD r0 r1]) ∧ 0 ≤ l0 ∧ 0 ≤ l1 ∧ 0 ≤ r0 ∧ 0 ≤ r1 ∧ r0 * l1 - l0 * r1 = 1 ∧ l0 + r0 = U ∧ l1 + r1 = V := by
  obtain ⟨p, ok, he⟩ := path_for hU hV hg
  obtain ⟨n1, n2, n3, n4⟩ := walk_nn ok q0_nn
  have hend := walk_end p q0
  rw [he] at hend
  simp only [q0] at hend
  exact ⟨_, _, _, _, f_sides hc ok he sU sV, n1, n2, n3, n4, walk_det p q0, hend.1.trans (by (first | lia | omega)), hend.2.trans (by (first | lia | omega))⟩

theorem f_need_room (B : Bn c) {M : Int} (h : 1 ≤ M) : FnD c 2 "need_room" [.int M] .none := by
  have hdef := def_at (f := "need_room") hc 12 rfl rfl rfl (by kernel_rfl)
  refine fn1 (x1 := "most") hdef rf_old (by intros; rfl) (fun A g h L fa cd T rm S => ?_)
  refine run_if S (tr_not (tr_val (ev_calld S T rm (f_is_whole hc B) (evl_cons (ev_var S rfl) (evl_cons ev_int evl_nil))))) (fun e h S => by simp [wholeB] at e; (first | lia | omega)) (fun e h S => run_nil (run_nil ?_))
  exact Rf.of_flat rfl ⟨_, .none⟩

theorem f_need_room_r (B : Bn c) {K : Frag} {C D : Addr} (eN : EU K "NoRoom" C D) {d : PyData} (hd : wholeB d 1 = false) : FnR c K 2 "need_room" [d] C := by
  have hdef := (def_at (f := "need_room") hc 12 rfl rfl rfl (by kernel_rfl))
  refine fnr1 (x1 := "most") hdef (by intros; rfl) (fun A base outer g h L fa cd PT rm S => ?_)
  have T := PT.t
  refine run_if S (tr_not (tr_val (ev_calld S T rm (f_is_whole hc B) (evl_cons (ev_var S rfl) (evl_cons ev_int evl_nil))))) (fun e h S => run_raise S T PT.k eN.ec rm.hd ev_str) (fun e h S => by rw [hd] at e; cases e)

theorem f_gapd {a b x y : Int} (s1 : Sz 62 a) (s2 : Sz 62 b) (s3 : Sz 62 x) (s4 : Sz 62 y) : FnD c 1 "gap" [PD a b, PD x y] (.int (a * y - x * b)) := by
  have hdef := def_at (f := "gap") hc 13 rfl rfl rfl (by kernel_rfl)
  refine fn2 (x1 := "one") (x2 := "other") hdef rf_old (by intros; rfl) (fun A g h L fa cd T rm S => ?_)
  exact run_ret (ev_sub (ev_mul (ev_tidx (ev_var S rfl) ev_int) (ev_tidx (ev_var S rfl) ev_int) (by walk_at "mul")) (ev_mul (ev_tidx (ev_var S rfl) ev_int) (ev_tidx (ev_var S rfl) ev_int) (by walk_at "mul"))) fun v h' _ r => Rf.of_flat rfl r

theorem f_stepped {p q x y k : Int} (s3 : Sz 62 x) (s4 : Sz 62 y) (s5 : Sz 62 k) : FnD c 1 "stepped" [PD p q, PD x y, .int k] (PD (p + k * x) (q + k * y)) := by
  have hdef := def_at (f := "stepped") hc 14 rfl rfl rfl (by kernel_rfl)
  refine fn3 (x1 := "pair") (x2 := "by") (x3 := "many") hdef rf_old (by intros; rfl) (fun A g h L fa cd T rm S => ?_)
  exact run_ret (ev_tup (evl_cons (ev_add (ev_tidx (ev_var S rfl) ev_int) (ev_mul (ev_var S rfl) (ev_tidx (ev_var S rfl) ev_int) (by walk_at "mul"))) (evl_cons (ev_add (ev_tidx (ev_var S rfl) ev_int) (ev_mul (ev_var S rfl) (ev_tidx (ev_var S rfl) ev_int) (by walk_at "mul"))) evl_nil))) fun v h' _ r => Rf.of_flat rfl r

theorem f_fitting (B : Bn c) {M p q x y k : Int} (hy : 0 ≤ y) (s4 : Sz 62 y) : FnD c 1 "fitting" [.int M, PD p q, PD x y, .int k] (.int (fitF M q y k)) := by
  have hdef := def_at (f := "fitting") hc 15 rfl rfl rfl (by kernel_rfl)
  refine fn4 (x1 := "most") (x2 := "pair") (x3 := "by") (x4 := "many") hdef rf_old (by intros; rfl) (fun A g h L fa cd T rm S => ?_)
  refine run_if S (tr_icmp (ev_tidx (ev_var S rfl) ev_int) ev_int rfl) (fun e h S => ?_) (fun e h S => run_nil ?_)
  · have e' : y = 0 := by simpa using e
    have e2 : fitF M q y k = k := by simp [fitF, e']
    rw [e2]
    exact run_ret (ev_var S rfl) fun v h' _ r => Rf.of_flat rfl r
  · have e' : y ≠ 0 := by simpa using e
    have hy1 : 0 < y := by (first | lia | omega)
    have e2 : fitF M q y k = min k ((M - q) / y) := by simp [fitF, e']
    rw [e2]
    exact run_ret (ev_min S T B rm.hd (ev_var S rfl) (ev_div (ev_sub (ev_var S rfl) (ev_tidx (ev_var S rfl) ev_int)) (ev_tidx (ev_var S rfl) ev_int) (by walk_at "pos") (by walk_at "small"))) fun v h' _ r => Rf.of_flat rfl r

theorem f_around_in (B : Bn c) {t0 t1 M : Int} (hM : 1 ≤ M) (h : t1 ≤ M) : FnD c 3 "around" [PD t0 t1, .int M] (.tuple [PD t0 t1, PD t0 t1]) := by
  have hdef := def_at (f := "around") hc 16 rfl rfl rfl (by kernel_rfl)
  refine fn2 (x1 := "target") (x2 := "most") hdef rf_old (by intros; rfl) (fun A g h L fa cd T rm S => ?_)
  refine run_expr (ev_calld S T rm (f_need_room hc B hM) (evl_cons (ev_var S rfl) evl_nil)) fun v h k _ => ?_
  have S := S.keep k
  refine run_if S (tr_icmp (ev_tidx (ev_var S rfl) ev_int) (ev_var S rfl) rfl) (fun e h S => ?_) (fun e h S => by simp at e; (first | lia | omega))
  exact run_ret (ev_tup (evl_cons (ev_var S rfl) (evl_cons (ev_var S rfl) evl_nil))) fun v h' _ r => Rf.of_flat rfl r

theorem f_around (B : Bn c) {t0 t1 M : Int} {F : Q4} (G : Tg t0 t1 M) (z1 : Sz 61 t0) (z2 : Sz 61 t1) (R : AR t0 t1 M q0 F) : FnD c 3 "around" [PD t0 t1, .int M] (.tuple [PD F.l0 F.l1, PD F.r0 F.r1]) := by
  have hM := G.m1
  have hMt := G.lt
  have hdef := def_at (f := "around") hc 16 rfl rfl rfl (by kernel_rfl)
  refine fn2 (x1 := "target") (x2 := "most") hdef rf_old (by intros; rfl) (fun A g h L fa cd T rm S => ?_)
  refine run_expr (ev_calld S T rm (f_need_room hc B hM) (evl_cons (ev_var S rfl) evl_nil)) fun v h k _ => ?_
  have S := S.keep k
  refine run_if S (tr_icmp (ev_tidx (ev_var S rfl) ev_int) (ev_var S rfl) rfl) (fun e h S => by simp at e; (first | lia | omega)) (fun e h S => run_nil ?_)
  refine run_set S (ev_tup (evl_cons ev_int (evl_cons ev_int evl_nil))) fun h S => ?_
  refine run_set S (ev_tup (evl_cons ev_int (evl_cons ev_int evl_nil))) fun h S => ?_
  refine run_while (fun n ρ μ => ∃ q : Q4, Ar4 t0 t1 M q ∧ AR t0 t1 M q F ∧ n = meas t0 t1 q ∧ μ = none ∧ ρ = ([("target", PD t0 t1), ("most", .int M), ("left", PD q.l0 q.l1), ("right", PD q.r0 q.r1)] : Locs)) (meas t0 t1 q0) (S.pick (ρ' := [("target", PD t0 t1), ("most", .int M), ("left", PD q0.l0 q0.l1), ("right", PD q0.r0 q0.r1)]) ⟨rfl, rfl, rfl, rfl, trivial⟩) ⟨q0, ar_start G, R, rfl, rfl, rfl⟩ ?_
  rintro n ρ μ h ⟨q, ar, run, rfl, rfl, rfl⟩ S
  obtain ⟨b1, b2⟩ := ar_small G ar
  have hp := G.pos
  have y1 : Sz 62 t0 := z1.mono (by decide)
  have y2 : Sz 62 t1 := z2.mono (by decide)
  have y3 : Sz 62 (t0 + 1) := z1.add (sz_lit (a := 1) (by decide))
  have x1 : Sz 62 q.l0 := y1.le ar.a0 b1
  have x2 : Sz 62 q.l1 := y2.le (by have := ar.a1; (first | lia | omega)) (by have := ar.al; (first | lia | omega))
  have x3 : Sz 62 q.r0 := y3.le (by have := ar.b0; (first | lia | omega)) b2
  have x4 : Sz 62 q.r1 := y2.le ar.b1 (by have := ar.bl; (first | lia | omega))
  have hbe := ar.be
  have hab := ar.ab
  have xb : Sz 62 (t0 * q.l1 - q.l0 * t1) := y1.le (by (first | lia | omega)) ar.bt
  have xa : Sz 62 (q.r0 * t1 - t0 * q.r1) := y2.le (by (first | lia | omega)) ar.at_
  refine ⟨_, (tr_icmp (ev_add (ev_tidx (ev_var S rfl) ev_int) (ev_tidx (ev_var S rfl) ev_int)) (ev_var S rfl) rfl), fun e h S => ?_, fun e h S => ?_⟩
  · have hle : q.l1 + q.r1 ≤ M := by simpa using e
    refine run_set S (ev_calld S T rm (f_gapd hc y1 y2 x1 x2) (evl_cons (ev_var S rfl) (evl_cons (ev_var S rfl) evl_nil))) fun h S => ?_
    refine run_set S (ev_calld S T rm (f_gapd hc x3 x4 y1 y2) (evl_cons (ev_var S rfl) (evl_cons (ev_var S rfl) evl_nil))) fun h S => ?_
    have o1 : Sz 62 (1 : Int) := (sz_lit (by decide)).mono (by decide)
    have m1 : Sz 62 (q.l0 + 1 * q.r0) := by
      have := G.lt
      have q1 : q.l0 + q.r0 ≤ 2 * t0 + 1 := by (first | lia | omega)
      have z3 : Sz 62 (2 * t0 + 1) := by
        have := z1.1; have := z1.2
        constructor <;> (first | lia | omega)
      exact z3.le (by have := ar.a0; have := ar.b0; (first | lia | omega)) (by (first | lia | omega))
    have m2 : Sz 62 (q.l1 + 1 * q.r1) := y2.le (by have := ar.a1; have := ar.b1; (first | lia | omega)) (by (first | lia | omega))
    have em : t0 * (q.l1 + 1 * q.r1) - (q.l0 + 1 * q.r0) * t1 = (t0 * q.l1 - q.l0 * t1) - (q.r0 * t1 - t0 * q.r1) := by grind
    cases run with
    | stop h' => (first | lia | omega)
    | left h' hlt r' =>
      obtain ⟨ar', hm⟩ := ar4_left G ar h' hlt
      have kz : Sz 62 (fitF M q.l1 q.r1 ((t0 * q.l1 - q.l0 * t1) / (q.r0 * t1 - t0 * q.r1))) := by
        obtain ⟨_, k1, k2⟩ := ar_left G ar h' hlt rfl
        have hb := ar'.bt
        refine y1.le (by (first | lia | omega)) ?_
        have k3 : fitF M q.l1 q.r1 ((t0 * q.l1 - q.l0 * t1) / (q.r0 * t1 - t0 * q.r1)) ≤ (t0 * q.l1 - q.l0 * t1) / (q.r0 * t1 - t0 * q.r1) := by unfold fitF; split <;> (first | lia | omega)
        exact Int.le_trans k3 (Int.le_trans (Int.ediv_le_self _ (by (first | lia | omega))) ar.bt)
      refine run_if S (tr_icmp (ev_calld S T rm (f_gapd hc y1 y2 m1 m2) (evl_cons (ev_var S rfl) (evl_cons (ev_calld S T rm (f_stepped hc x3 x4 o1) (evl_cons (ev_var S rfl) (evl_cons (ev_var S rfl) (evl_cons ev_int evl_nil)))) evl_nil))) ev_int rfl) (fun e h S => ?_) (fun e h S => by rw [em] at e; simp at e; (first | lia | omega))
      exact run_set S (ev_calld S T rm (f_stepped hc x3 x4 kz) (evl_cons (ev_var S rfl) (evl_cons (ev_var S rfl) (evl_cons (ev_calld S T rm (f_fitting hc B ar.b1 x4) (evl_cons (ev_var S rfl) (evl_cons (ev_var S rfl) (evl_cons (ev_var S rfl) (evl_cons (ev_div (ev_var S rfl) (ev_var S rfl) (by walk_at "pos") (by walk_at "small")) evl_nil))))) evl_nil)))) fun h S => run_nil (run_nil ⟨_, _, _, hm, ⟨_, ar', r', rfl, rfl, rfl⟩, S.pick ⟨rfl, rfl, rfl, rfl, trivial⟩⟩)
    | right h' hlt r' =>
      obtain ⟨ar', hm⟩ := ar4_right G ar h' hlt
      have kz : Sz 62 (fitF M q.r1 q.l1 ((q.r0 * t1 - t0 * q.r1) / (t0 * q.l1 - q.l0 * t1))) := by
        obtain ⟨_, k1, k2⟩ := ar_right G ar h' hlt rfl
        refine y2.le (by (first | lia | omega)) ?_
        have k3 : fitF M q.r1 q.l1 ((q.r0 * t1 - t0 * q.r1) / (t0 * q.l1 - q.l0 * t1)) ≤ (q.r0 * t1 - t0 * q.r1) / (t0 * q.l1 - q.l0 * t1) := by unfold fitF; split <;> (first | lia | omega)
        exact Int.le_trans k3 (Int.le_trans (Int.ediv_le_self _ (by (first | lia | omega))) ar.at_)
      refine run_if S (tr_icmp (ev_calld S T rm (f_gapd hc y1 y2 m1 m2) (evl_cons (ev_var S rfl) (evl_cons (ev_calld S T rm (f_stepped hc x3 x4 o1) (evl_cons (ev_var S rfl) (evl_cons (ev_var S rfl) (evl_cons ev_int evl_nil)))) evl_nil))) ev_int rfl) (fun e h S => by rw [em] at e; simp at e; (first | lia | omega)) (fun e h S => ?_)
      exact run_set S (ev_calld S T rm (f_stepped hc x1 x2 kz) (evl_cons (ev_var S rfl) (evl_cons (ev_var S rfl) (evl_cons (ev_calld S T rm (f_fitting hc B (by have := ar.a1; (first | lia | omega)) x2) (evl_cons (ev_var S rfl) (evl_cons (ev_var S rfl) (evl_cons (ev_var S rfl) (evl_cons (ev_div (ev_var S rfl) (ev_var S rfl) (by walk_at "pos") (by walk_at "small")) evl_nil))))) evl_nil)))) fun h S => run_nil (run_nil ⟨_, _, _, hm, ⟨_, ar', r', rfl, rfl, rfl⟩, S.pick ⟨rfl, rfl, rfl, rfl, trivial⟩⟩)
  · have hgt : M < q.l1 + q.r1 := by
      have : ¬ q.l1 + q.r1 ≤ M := by simpa using e
      (first | lia | omega)
    cases run with
    | stop h' => exact run_ret (ev_tup (evl_cons (ev_var S rfl) (evl_cons (ev_var S rfl) evl_nil))) fun v h' _ r => Rf.of_flat rfl r
    | left h' _ _ => (first | lia | omega)
    | right h' _ _ => (first | lia | omega)

theorem f_around_r (B : Bn c) {K : Frag} {C D : Addr} (eN : EU K "NoRoom" C D) {t d : PyData} (hd : wholeB d 1 = false) : FnR c K 3 "around" [t, d] C := by
  have hdef := (def_at (f := "around") hc 16 rfl rfl rfl (by kernel_rfl))
  refine fnr2 (x1 := "target") (x2 := "most") hdef (by intros; rfl) (fun A base outer g h L fa cd PT rm S => ?_)
  exact run_exprx (ev_callr S PT rm (f_need_room_r hc B eN hd) (evl_cons (ev_var S rfl) evl_nil))

theorem f_no_room {k cl : Int} (h0 : 0 ≤ k) (h1 : k < 10) : ∃ d : PyData, FnO c 1 "_law_no_room" [.int k, .int cl] d ∧ wholeB d 1 = false := by
  have hr := Int.emod_nonneg cl (b := (10 : Int) ^ (30 : Int).toNat) (by decide +kernel)
  have key : ∃ d : PyData, ([PyData.int 0, .int (-1), .int (-1 - cl % 10 ^ (30 : Int).toNat), .bool true, .bool false, .none, .str "1", .tuple [.int 1, .int 1], .list [.int 1], .dict []] : List PyData)[k.toNat]? = some d ∧ wholeB d 1 = false := by
    have : k = 0 ∨ k = 1 ∨ k = 2 ∨ k = 3 ∨ k = 4 ∨ k = 5 ∨ k = 6 ∨ k = 7 ∨ k = 8 ∨ k = 9 := by (first | lia | omega)
    rcases this with rfl | rfl | rfl | rfl | rfl | rfl | rfl | rfl | rfl | rfl
    · exact ⟨_, rfl, rfl⟩
    · exact ⟨_, rfl, rfl⟩
    · refine ⟨_, rfl, ?_⟩
      simp only [wholeB, decide_eq_false_iff_not]; (first | lia | omega)
    all_goals exact ⟨_, rfl, rfl⟩
  obtain ⟨d, hx, hw⟩ := key
  refine ⟨d, ?_, hw⟩
  have hdef := (def_at (f := "_law_no_room") hc 32 rfl rfl rfl (by kernel_rfl))
  refine fn2 (x1 := "_law_kind") (x2 := "_law_cell") hdef rd_old (by intros; rfl) (fun A g h L fa cd T rm S => ?_)
  refine run_any S (evn_list S.hL (evln_cons (evn ev_int) (evln_cons (evn (ev_neg ev_int)) (evln_cons (evn (ev_sub (ev_neg ev_int) (ev_mod (ev_var S rfl) (ev_pow ev_int ev_int (by decide) (by decide) (by decide)) (by decide +kernel)))) (evln_cons (evn ev_bool) (evln_cons (evn ev_bool) (evln_cons (evn ev_none) (evln_cons (evn ev_str) (evln_cons (evn (ev_tup (evl_cons ev_int (evl_cons ev_int evl_nil)))) (evln_cons (evn_list S.hL (evln_cons (evn ev_int) evln_nil)) (evln_cons (evn_dict S.hL) evln_nil))))))))))) fun h S => ?_
  exact run_ret (ev_lidx (ev_var S rfl) (ev_var S rfl) hx h0 (by (first | lia | omega))) fun v h' _ r => r


theorem f_nearest_in (B : Bn c) {t0 t1 M : Int} (f : Fr2 62 t0 t1) (hM : 1 ≤ M) (hle : t1 ≤ M) : FnD c 4 "nearest" [PD t0 t1, .int M] (PD t0 t1) := by
  obtain ⟨x, y, fa, hx, _⟩ := f_apart hc B f f (by decide)
  have hdef := def_at (f := "nearest") hc 17 rfl rfl rfl (by kernel_rfl)
  refine fn2 (x1 := "target") (x2 := "most") hdef rf_old (by intros; rfl) (fun A g h L fa' cd T rm S => ?_)
  refine run_unpack2 rm.hd S (ev_calld S T rm (f_around_in hc B hM hle) (evl_cons (ev_var S rfl) (evl_cons (ev_var S rfl) evl_nil))) fun h S => ?_
  refine run_set S (ev_calld S T rm (fa) (evl_cons (ev_var S rfl) (evl_cons (ev_var S rfl) evl_nil))) fun h S => ?_
  refine run_set S (ev_calld S T rm (fa) (evl_cons (ev_var S rfl) (evl_cons (ev_var S rfl) evl_nil))) fun h S => ?_
  refine run_if S (tr_val (ev_calld S T rm (f_less hc hx.sa hx.sb hx.sa hx.sb (by decide)) (evl_cons (ev_var S rfl) (evl_cons (ev_var S rfl) evl_nil)))) (fun e h S => by simp at e) (fun e h S => run_nil ?_)
  refine run_if S (tr_val (ev_calld S T rm (f_less hc hx.sa hx.sb hx.sa hx.sb (by decide)) (evl_cons (ev_var S rfl) (evl_cons (ev_var S rfl) evl_nil)))) (fun e h S => by simp at e) (fun e h S => run_nil ?_)
  refine run_if S (tr_icmp (ev_tidx (ev_var S rfl) ev_int) (ev_tidx (ev_var S rfl) ev_int) rfl) (fun e h S => by simp at e) (fun e h S => run_nil ?_)
  exact run_ret (ev_var S rfl) fun v h' _ r => Rf.of_flat rfl r

theorem f_nearest (B : Bn c) {t0 t1 M : Int} {F : Q4} (G : Tg t0 t1 M) (f : Fr2 61 t0 t1) (R : AR t0 t1 M q0 F) (ar : Ar4 t0 t1 M F) (hend : M < F.l1 + F.r1) :
    FnD c 4 "nearest" [PD t0 t1, .int M] (if nst t0 t1 F then PD F.l0 F.l1 else PD F.r0 F.r1) ∧ Fr2 62 F.l0 F.l1 ∧ Fr2 62 F.r0 F.r1 := by
  obtain ⟨c1, c2⟩ := ar_small G ar
  have hl1 := ar.a1
  have hr1 : 1 ≤ F.r1 := by have := ar.b1; have := ar.al; (first | lia | omega)
  have y1 : Sz 62 t0 := f.sa.mono (by decide)
  have y2 : Sz 62 t1 := f.sb.mono (by decide)
  have y3 : Sz 62 (t0 + 1) := f.sa.add (sz_lit (a := 1) (by decide))
  have hlt := G.lt
  have fl : Fr2 62 F.l0 F.l1 := ⟨ar.a0, hl1, det_co ar.det, y1.le ar.a0 c1, y2.le (by (first | lia | omega)) (by have := ar.al; (first | lia | omega))⟩
  have fr : Fr2 62 F.r0 F.r1 := ⟨by have := ar.b0; (first | lia | omega), hr1, det_co2 ar.det, y3.le (by have := ar.b0; (first | lia | omega)) c2, y2.le (by (first | lia | omega)) (by have := ar.bl; (first | lia | omega))⟩
  refine ⟨?_, fl, fr⟩
  obtain ⟨x1, z1, fa1, hx1, e1⟩ := f_apart hc B fl (f.mono (by decide : 61 ≤ 62)) (by decide)
  obtain ⟨x2, z2, fa2, hx2, e2⟩ := f_apart hc B fr (f.mono (by decide : 61 ≤ 62)) (by decide)
  have ht := f.up
  have li := less_iff (p := dst t0 t1 F.l0 F.l1) (p' := dst t0 t1 F.r0 F.r1) hx1.up hx2.up hl1 hr1 ht e1 e2
  have li2 := less_iff (p := dst t0 t1 F.r0 F.r1) (p' := dst t0 t1 F.l0 F.l1) hx2.up hx1.up hr1 hl1 ht e2 e1
  have hdef := def_at (f := "nearest") hc 17 rfl rfl rfl (by kernel_rfl)
  refine fn2 (x1 := "target") (x2 := "most") hdef rf_old (by intros; rfl) (fun A g h L fa' cd T rm S => ?_)
  refine run_unpack2 rm.hd S (ev_calld S T rm (f_around hc B G f.sa f.sb R) (evl_cons (ev_var S rfl) (evl_cons (ev_var S rfl) evl_nil))) fun h S => ?_
  refine run_set S (ev_calld S T rm (fa1) (evl_cons (ev_var S rfl) (evl_cons (ev_var S rfl) evl_nil))) fun h S => ?_
  refine run_set S (ev_calld S T rm (fa2) (evl_cons (ev_var S rfl) (evl_cons (ev_var S rfl) evl_nil))) fun h S => ?_
  refine run_if S (tr_val (ev_calld S T rm (f_less hc hx1.sa hx1.sb hx2.sa hx2.sb (by decide)) (evl_cons (ev_var S rfl) (evl_cons (ev_var S rfl) evl_nil)))) (fun e h S => ?_) (fun e h S => run_nil ?_)
  · have q := li.mp (by simpa using e)
    have hn : nst t0 t1 F = true := by simp [nst, q]
    rw [if_pos hn]
    exact run_ret (ev_var S rfl) fun v h' _ r => Rf.of_flat rfl r
  have q1 : ¬ dst t0 t1 F.l0 F.l1 * F.r1 < dst t0 t1 F.r0 F.r1 * F.l1 := fun z => by have := li.mpr z; simp at e; (first | lia | omega)
  refine run_if S (tr_val (ev_calld S T rm (f_less hc hx2.sa hx2.sb hx1.sa hx1.sb (by decide)) (evl_cons (ev_var S rfl) (evl_cons (ev_var S rfl) evl_nil)))) (fun e h S => ?_) (fun e h S => run_nil ?_)
  · have q := li2.mp (by simpa using e)
    have q3 : ¬ dst t0 t1 F.l0 F.l1 * F.r1 = dst t0 t1 F.r0 F.r1 * F.l1 := by (first | lia | omega)
    have hn : ¬ nst t0 t1 F = true := by simp [nst, q1, q3]
    rw [if_neg hn]
    exact run_ret (ev_var S rfl) fun v h' _ r => Rf.of_flat rfl r
  have q2 : ¬ dst t0 t1 F.r0 F.r1 * F.l1 < dst t0 t1 F.l0 F.l1 * F.r1 := fun z => by have := li2.mpr z; simp at e; (first | lia | omega)
  have q3 : dst t0 t1 F.l0 F.l1 * F.r1 = dst t0 t1 F.r0 F.r1 * F.l1 := by (first | lia | omega)
  refine run_if S (tr_icmp (ev_tidx (ev_var S rfl) ev_int) (ev_tidx (ev_var S rfl) ev_int) rfl) (fun e h S => ?_) (fun e h S => run_nil ?_)
  · have e' : F.r1 < F.l1 := by simpa using e
    have hn : ¬ nst t0 t1 F = true := by simp [nst, q1, q3]; (first | lia | omega)
    rw [if_neg hn]
    exact run_ret (ev_var S rfl) fun v h' _ r => Rf.of_flat rfl r
  · have e' : F.l1 ≤ F.r1 := by simpa using e
    have hn : nst t0 t1 F = true := by simp [nst, q3, e']
    rw [if_pos hn]
    exact run_ret (ev_var S rfl) fun v h' _ r => Rf.of_flat rfl r

/-- what nearest and around give -/
theorem near_all (B : Bn c) {t0 t1 M : Int} (f : Fr2 61 t0 t1) (hM : 1 ≤ M) : ∃ n0 n1 l0 l1 r0 r1 : Int, FnD c 4 "nearest" [PD t0 t1, .int M] (PD n0 n1) ∧ FnD c 3 "around" [PD t0 t1, .int M] (.tuple [PD l0 l1, PD r0 r1]) ∧
    Fr2 62 n0 n1 ∧ n1 ≤ M ∧ Fr2 62 l0 l1 ∧ l1 ≤ M ∧ Fr2 62 r0 r1 ∧ r1 ≤ M ∧ ((n0 = l0 ∧ n1 = l1) ∨ (n0 = r0 ∧ n1 = r1)) ∧ ∀ x y : Int, 0 ≤ x → 1 ≤ y → y ≤ M → Bef t0 t1 n0 n1 x y := by
  by_cases h : t1 ≤ M
  · have f' := f.mono (by decide : 61 ≤ 62)
    exact ⟨t0, t1, t0, t1, t0, t1, f_nearest_in hc B f' hM h, f_around_in hc B hM h, f', h, f', h, f', h, .inl ⟨rfl, rfl⟩, fun x y hx hy _ => bef_self f.lo f.up f.co hx hy⟩
  · have G : Tg t0 t1 M := ⟨f.lo, f.co, hM, by (first | lia | omega)⟩
    obtain ⟨F, R, ar, hend⟩ := ar_for G
    obtain ⟨fn, fl, fr⟩ := f_nearest hc B G f R ar hend
    have fa := f_around hc B G f.sa f.sb R
    have bef := fun x y hx hy hyM => bef_near (x := x) (y := y) G ar hend hx hy hyM
    by_cases hn : nst t0 t1 F = true
    · rw [if_pos hn] at fn
      simp only [if_pos hn] at bef
      exact ⟨_, _, _, _, _, _, fn, fa, fl, ar.al, fl, ar.al, fr, ar.bl, .inl ⟨rfl, rfl⟩, bef⟩
    · rw [if_neg hn] at fn
      simp only [if_neg hn] at bef
      exact ⟨_, _, _, _, _, _, fn, fa, fr, ar.bl, fl, ar.al, fr, ar.bl, .inr ⟨rfl, rfl⟩, bef⟩


theorem f_number {cl wv : Int} (h0 : 0 ≤ wv) (h1 : wv < 4) : ∃ u : Int, FnD c 1 "_law_number" [.int cl, .int wv] (.int u) ∧ 0 ≤ u ∧ u < 10 ^ 58 := by
  have key : ∃ m : Int, ([PyData.int 30, .int 1000, .int (10 ^ (6 : Int).toNat), .int (10 ^ (58 : Int).toNat)] : List PyData)[wv.toNat]? = some (.int m) ∧ 0 < m ∧ m ≤ 10 ^ 58 := by
    have : wv = 0 ∨ wv = 1 ∨ wv = 2 ∨ wv = 3 := by (first | lia | omega)
    rcases this with rfl | rfl | rfl | rfl
    · exact ⟨30, rfl, by decide +kernel, by decide +kernel⟩
    · exact ⟨1000, rfl, by decide +kernel, by decide +kernel⟩
    · exact ⟨10 ^ 6, rfl, by decide +kernel, by decide +kernel⟩
    · exact ⟨10 ^ 58, rfl, by decide +kernel, by decide +kernel⟩
  obtain ⟨m, hm, hp, hs⟩ := key
  have e1 := Int.emod_nonneg cl (b := m) (by (first | lia | omega))
  have e2 := Int.emod_lt_of_pos cl hp
  refine ⟨cl % m, ?_, e1, Int.lt_of_lt_of_le e2 hs⟩
  have hdef := def_at (f := "_law_number") hc 29 rfl rfl rfl (by kernel_rfl)
  refine fn2 (x1 := "_law_cell") (x2 := "_law_way_here") hdef rf_old (by intros; rfl) (fun A g h L fa cd T rm S => ?_)
  exact run_ret (ev_mod (ev_var S rfl) (ev_lidx ((ev_list (evl_cons ev_int (evl_cons ev_int (evl_cons (ev_pow ev_int ev_int (by decide) (by decide) (by decide)) (evl_cons (ev_pow ev_int ev_int (by decide) (by decide) (by decide)) evl_nil))))).mono fun _ _ _ r => r.rd) (ev_var S rfl) hm h0 (by (first | lia | omega))) hp) fun v h' _ r => Rf.of_flat rfl r

theorem f_drawn (B : Bn c) {ns : List Int} {k wv : Int} (hn : ns.length ≤ 63) (h0 : 0 ≤ k) (h1 : k < 1000) (hw : 0 ≤ wv) : ∃ a b : Int, FnD c 3 "_law_drawn" [scr ns, .int k, .int wv] (PD a b) ∧ Fr2 59 a b := by
  obtain ⟨u, fu, hu, su⟩ := f_number hc (cl := cell ns k) (wv := wv % 4) (by (first | lia | omega)) (by (first | lia | omega))
  obtain ⟨l, fl, hl, sl⟩ := f_number hc (cl := cell ns (k + 1)) (wv := wv / 4 % 4) (by (first | lia | omega)) (by (first | lia | omega))
  have s1 : Sz 59 (1 + l) := by constructor <;> (first | lia | omega)
  have s0 : Sz 59 u := by constructor <;> (first | lia | omega)
  obtain ⟨a, b, fab, hf, _⟩ := f_frac_ex hc (a := u) (b := 1 + l) (by (first | lia | omega)) (by (first | lia | omega)) s0 s1 (by decide)
  refine ⟨a, b, ?_, hf⟩
  have hdef := def_at (f := "_law_drawn") hc 30 rfl rfl rfl (by kernel_rfl)
  refine fn3 (x1 := "_law_script") (x2 := "_law_first") (x3 := "_law_way_here") hdef rf_old (by intros; rfl) (fun A g h L fa cd T rm S => ?_)
  refine run_set S (ev_calld S T rm (fu) (evl_cons (ev_calld S T rm (f_cell hc B h0 (by (first | lia | omega)) hn) (evl_cons (ev_var S rfl) (evl_cons (ev_var S rfl) evl_nil))) (evl_cons (ev_mod (ev_var S rfl) ev_int (by walk_at "pos")) evl_nil))) fun h S => ?_
  refine run_set S (ev_add ev_int (ev_calld S T rm (fl) (evl_cons (ev_calld S T rm (f_cell hc B (by (first | lia | omega)) (by (first | lia | omega)) hn) (evl_cons (ev_var S rfl) (evl_cons (ev_add (ev_var S rfl) ev_int) evl_nil))) (evl_cons (ev_mod (ev_div (ev_var S rfl) ev_int (by walk_at "pos") (by walk_at "small")) ev_int (by walk_at "pos")) evl_nil)))) fun h S => ?_
  exact run_ret (ev_calld S T rm (fab) (evl_cons (ev_var S rfl) (evl_cons (ev_var S rfl) evl_nil))) fun v h' _ r => Rf.of_flat rfl r

theorem f_most_by {cl wv : Int} (h0 : 0 ≤ wv) : ∃ u : Int, FnD c 1 "_law_most_by" [.int cl, .int wv] (.int u) ∧ 1 ≤ u ∧ u < 10 ^ 60 := by
  have key : ∃ m : Int, ([PyData.int 8, .int 60, .int (10 ^ (6 : Int).toNat), .int (10 ^ (58 : Int).toNat)] : List PyData)[(wv % 4).toNat]? = some (.int m) ∧ 0 < m ∧ m ≤ 10 ^ 58 := by
    have : wv % 4 = 0 ∨ wv % 4 = 1 ∨ wv % 4 = 2 ∨ wv % 4 = 3 := by (first | lia | omega)
    rcases this with e | e | e | e <;> rw [e]
    · exact ⟨8, rfl, by decide +kernel, by decide +kernel⟩
    · exact ⟨60, rfl, by decide +kernel, by decide +kernel⟩
    · exact ⟨10 ^ 6, rfl, by decide +kernel, by decide +kernel⟩
    · exact ⟨10 ^ 58, rfl, by decide +kernel, by decide +kernel⟩
  obtain ⟨m, hm, hp, hs⟩ := key
  have e1 := Int.emod_nonneg cl (b := m) (by (first | lia | omega))
  have e2 := Int.emod_lt_of_pos cl hp
  refine ⟨1 + cl % m, ?_, by (first | lia | omega), by (first | lia | omega)⟩
  have hdef := def_at (f := "_law_most_by") hc 31 rfl rfl rfl (by kernel_rfl)
  refine fn2 (x1 := "_law_cell") (x2 := "_law_way_here") hdef rf_old (by intros; rfl) (fun A g h L fa cd T rm S => ?_)
  exact run_ret (ev_add ev_int (ev_mod (ev_var S rfl) (ev_lidx ((ev_list (evl_cons ev_int (evl_cons ev_int (evl_cons (ev_pow ev_int ev_int (by decide) (by decide) (by decide)) (evl_cons (ev_pow ev_int ev_int (by decide) (by decide) (by decide)) evl_nil))))).mono fun _ _ _ r => r.rd) (ev_mod (ev_var S rfl) ev_int (by walk_at "pos")) hm (by (first | lia | omega)) (by (first | lia | omega))) hp)) fun v h' _ r => Rf.of_flat rfl r

theorem f_beats (B : Bn c) {n0 n1 x y t0 t1 : Int} (s1 : Sz 80 n0) (s2 : Sz 80 n1) (s3 : Sz 130 x) (s4 : Sz 80 y) (s5 : Sz 80 t0) (s6 : Sz 80 t1) (hx : 0 ≤ x) (hy : 1 ≤ y) (hb : Bef t0 t1 n0 n1 x y) : FnD c 3 "_law_beats" [PD n0 n1, PD x y, PD t0 t1] (.bool true) := by
  have hdef := def_at (f := "_law_beats") hc 33 rfl rfl rfl (by kernel_rfl)
  refine fn3 (x1 := "_law_found") (x2 := "_law_other") (x3 := "_law_target") hdef rf_old (by intros; rfl) (fun A g h L fa cd T rm S => ?_)
  refine run_set S (ev_mul (ev_abs S T B (ev_sub (ev_mul (ev_tidx (ev_var S rfl) ev_int) (ev_tidx (ev_var S rfl) ev_int) (by walk_at "mul")) (ev_mul (ev_tidx (ev_var S rfl) ev_int) (ev_tidx (ev_var S rfl) ev_int) (by walk_at "mul")))) (ev_tidx (ev_var S rfl) ev_int) (by walk_at "mul")) fun h S => ?_
  refine run_set S (ev_mul (ev_abs S T B (ev_sub (ev_mul (ev_tidx (ev_var S rfl) ev_int) (ev_tidx (ev_var S rfl) ev_int) (by walk_at "mul")) (ev_mul (ev_tidx (ev_var S rfl) ev_int) (ev_tidx (ev_var S rfl) ev_int) (by walk_at "mul")))) (ev_tidx (ev_var S rfl) ev_int) (by walk_at "mul")) fun h S => ?_
  have hb' : ((n0 * t1 - t0 * n1).natAbs : Int) * y < ((x * t1 - t0 * y).natAbs : Int) * n1 ∨ (((n0 * t1 - t0 * n1).natAbs : Int) * y = ((x * t1 - t0 * y).natAbs : Int) * n1 ∧ (n1 < y / (Int.gcd x y : Int) ∨ (n1 = y / (Int.gcd x y : Int) ∧ n0 ≤ x / (Int.gcd x y : Int)))) := hb
  generalize ((n0 * t1 - t0 * n1).natAbs : Int) * y = P at *
  generalize ((x * t1 - t0 * y).natAbs : Int) * n1 = R at *
  refine run_if S (tr_icmp (ev_var S rfl) (ev_var S rfl) rfl) (fun e h S => ?_) (fun e h S => run_nil ?_)
  · have e' : P ≠ R := by simpa using e
    have hlt : P < R := by rcases hb' with q | q <;> (first | lia | omega)
    refine run_ret (ev_icmp (ev_var S rfl) (ev_var S rfl) rfl) fun v h' _ r => Rf.of_flat rfl ?_
    rw [decide_eq_true hlt] at r; exact r
  · have e' : P = R := by simpa using e
    have hq : n1 < y / (Int.gcd x y : Int) ∨ (n1 = y / (Int.gcd x y : Int) ∧ n0 ≤ x / (Int.gcd x y : Int)) := by
      rcases hb' with q | q
      · (first | lia | omega)
      · exact q.2
    have ff := f_frac hc hx hy s4 (by decide)
    generalize x / (Int.gcd x y : Int) = x' at *
    generalize y / (Int.gcd x y : Int) = y' at *
    refine run_set S (ev_calld S T rm (ff) (evl_cons (ev_tidx (ev_var S rfl) ev_int) (evl_cons (ev_tidx (ev_var S rfl) ev_int) evl_nil))) fun h S => ?_
    refine run_ret (ev_bop (bo_or (ev_icmp (ev_tidx (ev_var S rfl) ev_int) (ev_tidx (ev_var S rfl) ev_int) rfl) fun _ => bo_last (ev_bop (bo_and (ev_icmp (ev_tidx (ev_var S rfl) ev_int) (ev_tidx (ev_var S rfl) ev_int) rfl) fun _ => (bo_last (ev_icmp (ev_tidx (ev_var S rfl) ev_int) (ev_tidx (ev_var S rfl) ev_int) rfl)))))) fun v h' _ r => Rf.of_flat rfl ?_
    have e2 : (decide (n1 < y') || (n1 == y' && decide (n0 ≤ x'))) = true := by
      rcases hq with q | ⟨q, q'⟩
      · simp [q]
      · simp [q, q']
    rw [e2] at r; exact r

theorem f_beats_all (B : Bn c) {n0 n1 lo t0 t1 : Int} (s1 : Sz 62 n0) (s2 : Sz 62 n1) (s4 : Sz 61 lo) (f : Fr2 61 t0 t1) (hlo : 1 ≤ lo) (hmax : t0 * lo / t1 + 2 < 10 ^ 130) (hb : ∀ x : Int, 0 ≤ x → Bef t0 t1 n0 n1 x lo) : FnD c 4 "_law_beats_all" [PD n0 n1, PD t0 t1, .int lo] (.bool true) := by
  have ht := f.up
  have sa := f.sa
  have sb := f.sb
  have hdef := def_at (f := "_law_beats_all") hc 34 rfl rfl rfl (by kernel_rfl)
  refine fn3 (x1 := "_law_found") (x2 := "_law_target") (x3 := "_law_lower") hdef rf_old (by intros; rfl) (fun A g h L fa cd T rm S => ?_)
  refine run_set S (ev_div (ev_mul (ev_tidx (ev_var S rfl) ev_int) (ev_var S rfl) (by walk_at "mul")) (ev_tidx (ev_var S rfl) ev_int) (by walk_at "pos") (by walk_at "small")) fun h S => ?_
  have hq0 : 0 ≤ t0 * lo / t1 := Int.ediv_nonneg (Int.mul_nonneg f.lo (by (first | lia | omega))) (by (first | lia | omega))
  generalize t0 * lo / t1 = u at *
  refine run_for (fun i ρ μ => μ = none ∧ ρ = ([("_law_found", PD n0 n1), ("_law_target", PD t0 t1), ("_law_lower", .int lo), ("_law_upper", .int u)] : Locs)) (S.pick (ρ' := [("_law_found", PD n0 n1), ("_law_target", PD t0 t1), ("_law_lower", .int lo), ("_law_upper", .int u)]) ⟨rfl, rfl, rfl, rfl, trivial⟩) (iter_tuple rm.hd (src_tup S (ev_tup (evl_cons (ev_neg ev_int) (evl_cons ev_int (evl_cons ev_int (evl_cons ev_int evl_nil))))) rfl wok_nil) (w_hold S wok_nil)) ⟨rfl, rfl⟩ (w_hold S wok_nil) ?_ ?_ ?_ ?_
  · rintro i d ρ μ h hd ⟨rfl, rfl⟩ S
    have hm : ∃ m : Int, d = .int m ∧ m ≤ 2 := by
      have := List.mem_of_getElem? hd
      simp only [List.mem_cons, List.not_mem_nil, or_false] at this
      rcases this with rfl | rfl | rfl | rfl
      · exact ⟨-1, rfl, by decide⟩
      · exact ⟨0, rfl, by decide⟩
      · exact ⟨1, rfl, by decide⟩
      · exact ⟨2, rfl, by decide⟩
    obtain ⟨m, rfl, hm2⟩ := hm
    by_cases hz : 0 ≤ u + m
    · have fb := f_beats hc B (s1.mono (by decide)) (s2.mono (by decide)) (⟨by (first | lia | omega), by (first | lia | omega)⟩ : Sz 130 (u + m)) (s4.mono (by decide)) (sa.mono (by decide)) (sb.mono (by decide)) hz hlo (hb _ hz)
      exact run_if S (tr_bool (all_and (tr_icmp (ev_add (ev_var S rfl) (ev_var S rfl)) ev_int rfl) fun _ => (all_and (tr_not (tr_val (ev_calld S T rm (fb) (evl_cons (ev_var S rfl) (evl_cons (ev_tup (evl_cons (ev_add (ev_var S rfl) (ev_var S rfl)) (evl_cons (ev_var S rfl) evl_nil))) (evl_cons (ev_var S rfl) evl_nil)))))) fun _ => all_and_nil))) (fun e h S => by simp at e) (fun e h S => run_nil (run_nil ⟨_, _, ⟨rfl, rfl⟩, S.pick ⟨rfl, rfl, rfl, rfl, trivial⟩⟩))
    · exact run_if S (tr_bool (all_and (b := false) (tr_icmp (ev_add (ev_var S rfl) (ev_var S rfl)) ev_int rfl) fun ha => by simp at ha; (first | lia | omega))) (fun e h S => by simp at e) (fun e h S => run_nil (run_nil ⟨_, _, ⟨rfl, rfl⟩, S.pick ⟨rfl, rfl, rfl, rfl, trivial⟩⟩))
  · rintro ρ μ h ⟨rfl, rfl⟩ S
    exact run_ret ev_bool fun v h' _ r => Rf.of_flat rfl r
  · intro d hd
    simp only [List.mem_cons, List.not_mem_nil, or_false] at hd
    rcases hd with rfl | rfl | rfl | rfl <;> rfl
  · rintro i ρ μ ⟨rfl, rfl⟩ q' e
    cases e

theorem f_between {w m z : Int} (h0 : 0 ≤ w) (h1 : w < 10 ^ 20) (m1 : 1 ≤ m) (m2 : m ≤ 41) : ∃ a b : Int, FnD c 3 "_law_between" [.int w, .int m, .int z] (PD a b) ∧ Fr2 60 a b := by
  have sw : Sz 20 w := ⟨by (first | lia | omega), by (first | lia | omega)⟩
  have sm : Sz 10 m := ⟨by (first | lia | omega), by (first | lia | omega)⟩
  have p1 : 1 ≤ m * (m + 1) := by
    have := Int.mul_le_mul m1 (show 1 ≤ m + 1 by (first | lia | omega)) (by (first | lia | omega)) (by (first | lia | omega))
    (first | lia | omega)
  have p2 : 1 ≤ 2 * m * (m + 1) := by rw [Int.mul_assoc]; (first | lia | omega)
  have p3 : 1 ≤ m * m := by
    have := Int.mul_le_mul m1 m1 (by (first | lia | omega)) (by (first | lia | omega))
    (first | lia | omega)
  have p4 : 0 ≤ w * 2 * m * (m + 1) := Int.mul_nonneg (Int.mul_nonneg (Int.mul_nonneg h0 (by decide)) (by (first | lia | omega))) (by (first | lia | omega))
  have two : Sz 10 (2 : Int) := sz_lit (by decide)
  have one : Sz 10 (1 : Int) := sz_lit (by decide)
  have z1 : Sz 60 (w * 2 * m * (m + 1)) := (((sw.mul two).mul sm).mul (sm.add one)).mono (by decide)
  have z2 : Sz 60 (2 * m * (m + 1)) := ((two.mul sm).mul (sm.add one)).mono (by decide)
  have q3 : Sz 51 (w * 2 * m * (m + 1)) := ((sw.mul two).mul sm).mul (sm.add one)
  have hmm : m * m ≤ 41 * 41 := Int.mul_le_mul m2 m2 (by (first | lia | omega)) (by decide)
  have e4 : 2 * m * m = 2 * (m * m) := Int.mul_assoc _ _ _
  obtain ⟨up, hup, u0, u1⟩ : ∃ up : Int, up = (if z = 1 then 2 * m * m - 1 else 2 * m + 1) ∧ 0 ≤ up ∧ up ≤ 10000 := ⟨_, rfl, by split <;> (first | lia | omega), by split <;> (first | lia | omega)⟩
  obtain ⟨a1, b1, f1, g1, _⟩ := f_frac_ex hc (a := w * 2 * m * (m + 1) + up) (b := 2 * m * (m + 1)) (n := 60) (by (first | lia | omega)) p2 (by have := q3.1; have := q3.2; constructor <;> (first | lia | omega)) z2 (by decide)
  refine ⟨a1, b1, ?_, g1⟩
  have hdef := def_at (f := "_law_between") hc 35 rfl rfl rfl (by kernel_rfl)
  refine fn3 (x1 := "_law_whole_here") (x2 := "_law_many") (x3 := "_law_way_here") hdef rf_old (by intros; rfl) (fun A g h L fa cd T rm S => ?_)
  refine run_set S (ev_add (ev_mul ev_int (ev_var S rfl) (by walk_at "mul")) ev_int) fun h S => ?_
  refine run_ifJ (fun h => St g L h [("_law_whole_here", .int w), ("_law_many", .int m), ("_law_upper", .int up)] none) S (tr_icmp (ev_var S rfl) ev_int rfl) (fun e h S => ?_) (fun e h S => ?_) (fun h S => ?_)
  · rw [hup, if_pos (by simpa using e)]
    exact run_set S (ev_sub (ev_mul (ev_mul ev_int (ev_var S rfl) (by walk_at "mul")) (ev_var S rfl) (by walk_at "mul")) ev_int) fun h S => run_nil ⟨rfl, S.pick ⟨rfl, rfl, rfl, trivial⟩⟩
  · rw [hup, if_neg (by simpa using e)]
    exact S.pick ⟨rfl, rfl, rfl, trivial⟩
  · exact run_ret (ev_calld S T rm (f1) (evl_cons (ev_add (ev_mul (ev_mul (ev_mul (ev_var S rfl) ev_int (by walk_at "mul")) (ev_var S rfl) (by walk_at "mul")) (ev_add (ev_var S rfl) ev_int) (by walk_at "mul")) (ev_var S rfl)) (evl_cons (ev_mul (ev_mul ev_int (ev_var S rfl) (by walk_at "mul")) (ev_add (ev_var S rfl) ev_int) (by walk_at "mul")) evl_nil))) fun v h' _ r => Rf.of_flat rfl r

theorem f_nearest_r (B : Bn c) {K : Frag} {C D : Addr} (eN : EU K "NoRoom" C D) {t d : PyData} (hd : wholeB d 1 = false) : FnR c K 4 "nearest" [t, d] C := by
  have hdef := (def_at (f := "nearest") hc 17 rfl rfl rfl (by kernel_rfl))
  refine fnr2 (x1 := "target") (x2 := "most") hdef (by intros; rfl) (fun A base outer g h L fa cd PT rm S => ?_)
  exact run_unpackx (ev_callr S PT rm (f_around_r hc B eN hd) (evl_cons (ev_var S rfl) (evl_cons (ev_var S rfl) evl_nil)))

theorem f_refused (B : Bn c) {K : Frag} {C D : Addr} (eN : EU K "NoRoom" C D) (eF : EC K "FractionError" D) {t d : PyData} (hd : wholeB d 1 = false) : FnC c K 5 "_law_refused" [t, d] (.bool true) := by
  have hdef := (def_at (f := "_law_refused") hc 36 rfl rfl rfl (by kernel_rfl))
  refine fnc2 (n := 4) (x1 := "_law_target") (x2 := "_law_most") hdef (by intros; rfl) (fun A base outer g h L fa cd PT rm S => ?_)
  refine rc_try S PT eF eN.sub (ev_callr S PT rm (f_nearest_r hc B eN hd) (evl_cons (ev_var S rfl) (evl_cons (ev_var S rfl) evl_nil))) (fun x g' h' PT' V I => ?_)
  exact run_ret (ev_bop (bo_and (ev_isx PT'.t B PT'.k V I eN.ec eN.ec eN.self (fun _ => rfl)) fun _ => bo_last (ev_isv PT'.t B PT'.k V I eN.ec))) fun v h2 k r => ⟨v, rfl, r, (V.keep k).st⟩

theorem f_law (B : Bn c) {K : Frag} {C D : Addr} (eN : EU K "NoRoom" C D) (eF : EC K "FractionError" D) {ns : List Int} (hn : ns.length ≤ 63) : FnW c K "law" [scr ns] := by
  have hdef := (def_at (f := "law") hc 37 rfl rfl rfl (by kernel_rfl))
  refine fnw1 (n := 7) (x1 := "_law_script") hdef (by intros; rfl) (fun g h L fa cd PT rm S => ?_)
  have T := PT.t
  have w0 := wayF_lo (ns := ns) (k := 0) (m := 512) (by decide)
  obtain ⟨a0, b0, fone, h0⟩ := f_drawn hc B (ns := ns) (k := 1) (wv := wayF ns 0 512) hn (by decide) (by decide) w0
  obtain ⟨m0, fm, hm0, hm1⟩ := f_most_by hc (cl := cell ns 3) (wv := wayF ns 0 512 / 16) (by (first | lia | omega))
  refine rw_set S (ev_calld S T rm (f_way hc B (by decide) (by decide) hn (by decide)) (evl_cons (ev_var S rfl) (evl_cons ev_int (evl_cons ev_int evl_nil)))) fun h S => ?_
  refine rw_set S (ev_calld S T rm (fone) (evl_cons (ev_var S rfl) (evl_cons ev_int (evl_cons (ev_var S rfl) evl_nil)))) fun h S => ?_
  have sa0 := h0.sa
  have h2 : Fr2 60 (2 * a0 + 1) 2 := ⟨by have := h0.lo; (first | lia | omega), by decide, by rw [Int.gcd_comm, Int.add_comm, Int.gcd_add_mul_left_right]; rfl, by have := h0.lo; have := sa0.1; have := sa0.2; constructor <;> (first | lia | omega), (sz_lit (by decide)).mono (by decide)⟩
  refine rw_ifJ (fun h => ∃ a b : Int, Fr2 60 a b ∧ St g L h [("_law_script", scr ns), ("_law_way_here", .int (wayF ns 0 512)), ("_law_target", PD a b)] none) S (tr_icmp (ev_div (ev_var S rfl) ev_int (by walk_at "pos") (by walk_at "small")) ev_int rfl)
    (fun e h S => run_set S (ev_tup (evl_cons (ev_add (ev_mul ev_int (ev_tidx (ev_var S rfl) ev_int) (by walk_at "mul")) ev_int) (evl_cons ev_int evl_nil))) fun h S => run_nil ⟨rfl, _, _, h2, S.pick ⟨rfl, rfl, rfl, trivial⟩⟩) (fun e h S => run_nil ⟨rfl, a0, b0, h0.mono (by decide), S.pick ⟨rfl, rfl, rfl, trivial⟩⟩) ?_
  rintro h ⟨a1, b1, h1, S⟩
  refine rw_set S (ev_calld S T rm (fm) (evl_cons (ev_calld S T rm (f_cell hc B (by decide) (by decide) hn) (evl_cons (ev_var S rfl) (evl_cons ev_int evl_nil))) (evl_cons (ev_div (ev_var S rfl) ev_int (by walk_at "pos") (by walk_at "small")) evl_nil))) fun h S => ?_
  have c1 := Int.emod_nonneg (cell ns 3) (b := 40) (by decide)
  have c2 := Int.emod_lt_of_pos (cell ns 3) (b := 40) (by decide)
  have p20 : (0 : Int) < 10 ^ (20 : Int).toNat := by decide +kernel
  have d1 := Int.emod_nonneg (cell ns 1) (b := 10 ^ (20 : Int).toNat) (by (first | lia | omega))
  have d2 := Int.emod_lt_of_pos (cell ns 1) p20
  obtain ⟨ba, bb, fbt, hbt⟩ := f_between hc (w := cell ns 1 % 10 ^ (20 : Int).toNat) (m := 2 + cell ns 3 % 40 - 1) (z := wayF ns 2 2) d1 d2 (by (first | lia | omega)) (by (first | lia | omega))
  refine rw_ifJ (fun h => ∃ a b M : Int, Fr2 60 a b ∧ 1 ≤ M ∧ M < 10 ^ 60 ∧ St g L h [("_law_script", scr ns), ("_law_way_here", .int (wayF ns 0 512)), ("_law_target", PD a b), ("_law_most", .int M)] none) S (tr_icmp (ev_div (ev_var S rfl) ev_int (by walk_at "pos") (by walk_at "small")) ev_int rfl)
    (fun e h S => run_set S (ev_add ev_int (ev_mod (ev_calld S T rm (f_cell hc B (by decide) (by decide) hn) (evl_cons (ev_var S rfl) (evl_cons ev_int evl_nil))) ev_int (by walk_at "pos"))) fun h S => run_set S (ev_calld S T rm (fbt) (evl_cons (ev_mod (ev_calld S T rm (f_cell hc B (by decide) (by decide) hn) (evl_cons (ev_var S rfl) (evl_cons ev_int evl_nil))) (ev_pow ev_int ev_int (by decide) (by decide) (by decide)) p20) (evl_cons (ev_sub (ev_var S rfl) ev_int) (evl_cons (ev_calld S T rm (f_way hc B (by decide) (by decide) hn (by decide)) (evl_cons (ev_var S rfl) (evl_cons ev_int (evl_cons ev_int evl_nil)))) evl_nil)))) fun h S => run_nil ⟨rfl, _, _, _, hbt, by (first | lia | omega), by (first | lia | omega), S.pick ⟨rfl, rfl, rfl, rfl, trivial⟩⟩)
    (fun e h S => run_nil ⟨rfl, a1, b1, m0, h1, hm0, hm1, S.pick ⟨rfl, rfl, rfl, rfl, trivial⟩⟩) ?_
  rintro h ⟨a2, b2, M2, h2, hM2, hM2', S⟩
  refine rw_ifJ (fun h => ∃ a b M : Int, Fr2 60 a b ∧ 1 ≤ M ∧ M < 10 ^ 60 ∧ St g L h [("_law_script", scr ns), ("_law_way_here", .int (wayF ns 0 512)), ("_law_target", PD a b), ("_law_most", .int M)] none) S (tr_bool (all_and (tr_icmp (ev_div (ev_var S rfl) ev_int (by walk_at "pos") (by walk_at "small")) ev_int rfl) fun _ => (all_and (tr_icmp2 ev_int (ev_tidx (ev_var S rfl) ev_int) (ev_pow ev_int ev_int (by decide) (by decide) (by decide)) rfl rfl) fun _ => (all_and (tr_icmp2 ev_int (ev_tidx (ev_var S rfl) ev_int) (ev_pow ev_int ev_int (by decide) (by decide) (by decide)) rfl rfl) fun _ => all_and_nil)))) (fun e h S => ?_)
    (fun e h S => run_nil ⟨rfl, a2, b2, M2, h2, hM2, hM2', S⟩) ?_
  · simp only [Bool.and_true, Bool.and_eq_true, decide_eq_true_eq] at e
    obtain ⟨_, ⟨e1, e2⟩, e3, e4⟩ := e
    have e2' : a2 < 10 ^ 28 := e2
    have e4' : b2 < 10 ^ 28 := e4
    obtain ⟨l0, l1, r0, r1, fs, n1, n2, n3, n4, hd, hx, hy⟩ := f_sides_ex hc (U := a2) (V := b2) (by (first | lia | omega)) h2.up h2.co (h2.sa.mono (by decide)) (h2.sb.mono (by decide))
    have hl1 : 1 ≤ l1 := by
      rcases Int.lt_or_eq_of_le n2 with q | q
      · (first | lia | omega)
      · rw [← q] at hd; have := Int.mul_nonneg n1 n4; (first | lia | omega)
    have hr1 : 1 ≤ r1 := by
      rcases Int.lt_or_eq_of_le n4 with q | q
      · (first | lia | omega)
      · have q' : r1 = 0 := q.symm
        rw [q', Int.mul_zero] at hd
        have l2 : 2 ≤ l1 := by (first | lia | omega)
        rcases Int.lt_or_le 0 r0 with z | z
        · have := Int.mul_le_mul (show 1 ≤ r0 by (first | lia | omega)) l2 (by decide) (by (first | lia | omega))
          (first | lia | omega)
        · have : r0 = 0 := by (first | lia | omega)
          rw [this] at hd; (first | lia | omega)
    have z1 : Sz 28 l0 := ⟨by (first | lia | omega), by (first | lia | omega)⟩
    have z2 : Sz 28 r0 := ⟨by (first | lia | omega), by (first | lia | omega)⟩
    have z3 : Sz 28 l1 := ⟨by (first | lia | omega), by (first | lia | omega)⟩
    have z4 : Sz 28 r1 := ⟨by (first | lia | omega), by (first | lia | omega)⟩
    have m1 := Int.mul_nonneg n1 n4
    have m2 := Int.mul_nonneg n3 n2
    have m3 : 1 ≤ l1 * r1 := by
      have := Int.mul_le_mul hl1 hr1 (by (first | lia | omega)) (by (first | lia | omega))
      (first | lia | omega)
    have s5 : Sz 56 (l1 * r1) := z3.mul z4
    have m4 : 1 ≤ 2 * l1 * r1 := by rw [Int.mul_assoc]; (first | lia | omega)
    have s6 : Sz 60 (2 * l1 * r1) := by rw [Int.mul_assoc]; have := s5.1; have := s5.2; constructor <;> (first | lia | omega)
    have s7 : Sz 60 (l0 * r1 + r0 * l1) := ((z1.mul z4).add (z2.mul z3)).mono (by decide)
    obtain ⟨fa', fb', ff, hff, _⟩ := f_frac_ex hc (a := l0 * r1 + r0 * l1) (b := 2 * l1 * r1) (n := 60) (by (first | lia | omega)) m4 s7 s6 (by decide)
    refine run_unpack2 rm.hd S (ev_calld S T rm (fs) (evl_cons (ev_var S rfl) evl_nil)) fun h S => ?_
    refine run_set S (ev_calld S T rm (ff) (evl_cons (ev_add (ev_mul (ev_tidx (ev_var S rfl) ev_int) (ev_tidx (ev_var S rfl) ev_int) (by walk_at "mul")) (ev_mul (ev_tidx (ev_var S rfl) ev_int) (ev_tidx (ev_var S rfl) ev_int) (by walk_at "mul"))) (evl_cons (ev_mul (ev_mul ev_int (ev_tidx (ev_var S rfl) ev_int) (by walk_at "mul")) (ev_tidx (ev_var S rfl) ev_int) (by walk_at "mul")) evl_nil))) fun h S => ?_
    have g1 := Int.emod_nonneg (cell ns 3) (b := min l1 r1) (by (first | lia | omega))
    have g2 := Int.emod_lt_of_pos (cell ns 3) (b := min l1 r1) (by (first | lia | omega))
    exact run_set S (ev_add (ev_max S T B rm.hd (ev_tidx (ev_var S rfl) ev_int) (ev_tidx (ev_var S rfl) ev_int)) (ev_mod (ev_calld S T rm (f_cell hc B (by decide) (by decide) hn) (evl_cons (ev_var S rfl) (evl_cons ev_int evl_nil))) (ev_min S T B rm.hd (ev_tidx (ev_var S rfl) ev_int) (ev_tidx (ev_var S rfl) ev_int)) (by (first | lia | omega)))) fun h S => run_nil ⟨rfl, _, _, _, hff, by (first | lia | omega), by (first | lia | omega), S.pick ⟨rfl, rfl, rfl, rfl, trivial⟩⟩
  rintro h ⟨a, b, M, hf, hM1, hM2, S⟩
  have wk0 := wayF_lo (ns := ns) (k := 4) (m := 10) (by decide)
  have wk1 := wayF_hi (ns := ns) (k := 4) (m := 10) (by decide)
  obtain ⟨d, fd, hd⟩ := f_no_room hc (k := wayF ns 4 10) (cl := cell ns 3) wk0 wk1
  refine rw_if S (tr_icmp (ev_div (ev_var S rfl) ev_int (by walk_at "pos") (by walk_at "small")) ev_int rfl) (fun e h S => rw_retc S PT rm (f_refused hc B eN eF hd) (evl_cons (ev_var S rfl) (evl_cons (ev_call S T rm (fd) (evl_cons (ev_calld S T rm (f_way hc B (by decide) (by decide) hn (by decide)) (evl_cons (ev_var S rfl) (evl_cons ev_int (evl_cons ev_int evl_nil)))) (evl_cons (ev_calld S T rm (f_cell hc B (by decide) (by decide) hn) (evl_cons (ev_var S rfl) (evl_cons ev_int evl_nil))) evl_nil)) (by decide) rd_old) evl_nil))) (fun e h S => ?_)
  obtain ⟨n0, n1, l0, l1, r0, r1, fnr, far, fn, hn1, fl, hl1, fr, hr1, alt, bef⟩ := near_all hc B (hf.mono (by decide : 60 ≤ 61)) hM1
  have hf61 := hf.mono (by decide : 60 ≤ 61)
  have ffn := fracB_true fn.lo fn.up fn.co
  refine rw_run S ?_
  refine run_set S (ev_calld S T rm (fnr) (evl_cons (ev_var S rfl) (evl_cons (ev_var S rfl) evl_nil))) fun h S => ?_
  refine run_if S (tr_bool (all_or (tr_not (tr_val (ev_calld S T rm (f_is_frac hc B) (evl_cons (ev_var S rfl) evl_nil)))) fun _ => (all_or (tr_icmp (ev_tidx (ev_var S rfl) ev_int) (ev_var S rfl) rfl) fun _ => all_or_nil))) (fun e h S => by simp [ffn] at e; (first | lia | omega)) (fun e h S => run_nil ?_)
  refine run_if S (tr_bool (all_or (tr_ne rm (ev_calld S T rm (f_nearest_in hc B fn hM1 hn1) (evl_cons (ev_var S rfl) (evl_cons (ev_var S rfl) evl_nil))) (ev_var S rfl) rfl rfl) fun _ => (all_or (tr_ne rm (ev_calld S T rm (fnr) (evl_cons (ev_var S rfl) (evl_cons (ev_var S rfl) evl_nil))) (ev_var S rfl) rfl rfl) fun _ => all_or_nil))) (fun e h S => by rw [PD_eqv] at e; simp at e) (fun e h S => run_nil ?_)
  refine run_set S (ev_calld S T rm (far) (evl_cons (ev_var S rfl) (evl_cons (ev_var S rfl) evl_nil))) fun h S => ?_
  refine run_if S (tr_bool (all_and (tr_ne rm (ev_var S rfl) (ev_tidx (ev_var S rfl) ev_int) rfl rfl) fun _ => (all_and (tr_ne rm (ev_var S rfl) (ev_tidx (ev_var S rfl) ev_int) rfl rfl) fun _ => all_and_nil))) (fun e h S => ?_) (fun e h S => run_nil ?_)
  · rw [PD_eqv, PD_eqv] at e
    rcases alt with ⟨rfl, rfl⟩ | ⟨rfl, rfl⟩ <;> simp at e
  have q1 := fn.sa.mono (by decide : 62 ≤ 80)
  have q2 := fn.sb.mono (by decide : 62 ≤ 80)
  have q5 := hf.sa.mono (by decide : 60 ≤ 80)
  have q6 := hf.sb.mono (by decide : 60 ≤ 80)
  refine run_if S (tr_bool (all_or (tr_not (tr_val (ev_calld S T rm (f_beats hc B q1 q2 (fl.sa.mono (by decide)) (fl.sb.mono (by decide)) q5 q6 fl.lo fl.up (bef _ _ fl.lo fl.up hl1)) (evl_cons (ev_var S rfl) (evl_cons (ev_tidx (ev_var S rfl) ev_int) (evl_cons (ev_var S rfl) evl_nil)))))) fun _ => (all_or (tr_not (tr_val (ev_calld S T rm (f_beats hc B q1 q2 (fr.sa.mono (by decide)) (fr.sb.mono (by decide)) q5 q6 fr.lo fr.up (bef _ _ fr.lo fr.up hr1)) (evl_cons (ev_var S rfl) (evl_cons (ev_tidx (ev_var S rfl) ev_int) (evl_cons (ev_var S rfl) evl_nil)))))) fun _ => all_or_nil))) (fun e h S => by simp at e) (fun e h S => run_nil ?_)
  have hba : ∀ lo : Int, 1 ≤ lo → lo ≤ M → FnD c 4 "_law_beats_all" [PD n0 n1, PD a b, .int lo] (.bool true) := by
    intro lo g1 g2
    have hb1 := hf.up
    have sl : Sz 61 lo := ⟨by (first | lia | omega), by (first | lia | omega)⟩
    refine f_beats_all hc B fn.sa fn.sb sl hf61 g1 ?_ (fun x hx => bef x lo hx g1 g2)
    have q := Int.ediv_le_self (b := b) (a := a * lo) (Int.mul_nonneg hf.lo (by (first | lia | omega)))
    have sz : Sz 121 (a * lo) := hf.sa.mul sl
    have := sz.2
    (first | lia | omega)
  have hmn : 1 ≤ min M 20 := by (first | lia | omega)
  refine run_cut (fun h => St g L h [("_law_script", scr ns), ("_law_target", PD a b), ("_law_most", .int M), ("_law_found", PD n0 n1)] none) (run_for (fun i ρ μ => ρ = ([("_law_script", scr ns), ("_law_target", PD a b), ("_law_most", .int M), ("_law_found", PD n0 n1)] : Locs) ∧ μ = none) (S.pick (ρ' := [("_law_script", scr ns), ("_law_target", PD a b), ("_law_most", .int M), ("_law_found", PD n0 n1)]) ⟨rfl, rfl, rfl, rfl, trivial⟩) (iter_range2 S T B rm.hd ev_int (ev_add (ev_min S T B rm.hd (ev_var S rfl) ev_int) ev_int) (by decide) (by (first | lia | omega)) (w_hold S wok_nil)) ⟨rfl, rfl⟩ (w_hold S wok_nil) ?_ ?_ ?_ ?_) ?_
  · rintro i d ρ μ h hd ⟨rfl, rfl⟩ S
    rw [rangeD_at] at hd
    split at hd
    case isFalse => cases hd
    rename_i hi
    cases hd
    exact run_if S (tr_not (tr_val (ev_calld S T rm (hba _ (by (first | lia | omega)) (by (first | lia | omega))) (evl_cons (ev_var S rfl) (evl_cons (ev_var S rfl) (evl_cons (ev_var S rfl) evl_nil)))))) (fun e h S => by simp at e) (fun e h S => run_nil (run_nil ⟨_, _, ⟨rfl, rfl⟩, S.pick ⟨rfl, rfl, rfl, rfl, trivial⟩⟩))
  · rintro ρ μ h ⟨rfl, rfl⟩ S
    exact run_nil ⟨rfl, S⟩
  · exact rangeD_flat _ _
  · rintro i ρ μ ⟨rfl, rfl⟩ q' e
    cases e
  intro h S
  have g1 := Int.emod_nonneg (cell ns 4) (b := M) (by (first | lia | omega))
  have g2 := Int.emod_lt_of_pos (cell ns 4) (b := M) (by (first | lia | omega))
  exact run_ret (ev_calld S T rm (hba (1 + cell ns 4 % M) (by (first | lia | omega)) (by (first | lia | omega))) (evl_cons (ev_var S rfl) (evl_cons (ev_var S rfl) (evl_cons (ev_add ev_int (ev_mod (ev_calld S T rm (f_cell hc B (by decide) (by decide) hn) (evl_cons (ev_var S rfl) (evl_cons ev_int evl_nil))) (ev_var S rfl) (by (first | lia | omega)))) evl_nil)))) fun v h' _ r => r
end

end Mine

namespace Mine
open PySem PySem.Spec PySem.Calls PyProof.Rows PySem.W
noncomputable section
abbrev hp : Program := PySem.Challenge.pw_uf050018_12
/-- the defs' parts, by their places -/
def hfp (i : Nat) : Arguments := match hp.main.body[i]? with | some (.FunctionDef _ ps _ _ _ _ _ _ _ _) => ps | _ => { posonlyargs := [], args := [], vararg := none, kwonlyargs := [], kw_defaults := [], kwarg := none, defaults := [] }
def hfb (i : Nat) : List Stmt := match hp.main.body[i]? with | some (.FunctionDef _ _ b _ _ _ _ _ _ _) => b | _ => []
def hfs (i : Nat) : Scope := match hp.main.body[i]? with | some (.FunctionDef _ _ _ _ _ _ sc _ _ _) => sc | _ => { kind := .module, names := [], isGenerator := false, isCoroutine := false }
/-- the objects that stand on the way (written by a program of mine from a run of the top) -/
def hob204 : Params → Obj := fun _ => { cls := Value.type "tuple", data := Data.seq #[Value.str (Str.ofString "frac") 388] }
def hob180 : Params → Obj := fun _ => { cls := Value.type "function", data := Data.func { name := Str.ofString "around", qualname := Str.ofString "around", params := hfp 16, body := FuncBody.stmts (hfb 16), scope := hfs 16, globals := 3, closure := [], defaults := Value.none, kwdefaults := Value.none, pyModule := Value.str (Str.ofString "nearfrac.near") 300, code := Value.ref 132 } }
def hob83 : Params → Obj := fun _ => { cls := Value.type "builtin_function_or_method", data := Data.fields #[Value.builtin "type.__prepare__", Value.type "type"] }
def hob84 : Params → Obj := fun P => { cls := Value.type "dict", data := Data.dict #[{ hash := PyData.keyHash P (Str.ofString "__module__"), key := Value.str (Str.ofString "__module__") 230, val := Value.str (Str.ofString "nearfrac.errors") 187 }, { hash := PyData.keyHash P (Str.ofString "__qualname__"), key := Value.str (Str.ofString "__qualname__") 232, val := Value.str (Str.ofString "NoPath") 231 }, { hash := PyData.keyHash P (Str.ofString "__firstlineno__"), key := Value.str (Str.ofString "__firstlineno__") 234, val := Value.int 6 233 }, { hash := PyData.keyHash P (Str.ofString "__static_attributes__"), key := Value.str (Str.ofString "__static_attributes__") 235, val := Value.ref 47 }] 4 }
def hob268 : Params → Obj := fun _ => { cls := Value.none, data := Data.fields #[] }
def hob61 : Params → Obj := fun _ => { cls := Value.type "getset_descriptor", data := Data.fields #[Value.str (Str.ofString "__weakref__") 202, Value.ref 24, Value.builtin "ExceptionGroup.__weakref__", Value.none] }
def hob146 : Params → Obj := fun _ => { cls := Value.type "tuple", data := Data.seq #[] }
def hob232 : Params → Obj := fun _ => { cls := Value.type "tuple", data := Data.seq #[] }
def hob66 : Params → Obj := fun _ => { cls := Value.type "type", data := Data.cls { name := Str.ofString "FractionError", bases := [Value.type "ValueError"], mro := [Value.ref 24, Value.type "ValueError", Value.type "Exception", Value.type "BaseException", Value.type "object"], ns := 23, qualname := Str.ofString "FractionError", subclasses := [Value.ref 37] }, slots := #[some (Value.ref 15), none, some (Value.str (Str.ofString "FractionError") 189), some (Value.str (Str.ofString "FractionError") 197), some (Value.builtin "ValueError.__new__"), some (Value.bool true)] }
def hob285 : Params → Obj := fun _ => { cls := Value.none, data := Data.func { name := Str.ofString "_law_beats", qualname := Str.ofString "_law_beats", params := hfp 33, body := FuncBody.stmts (hfb 33), scope := hfs 33, globals := 0, closure := [], defaults := Value.none, kwdefaults := Value.none } }
def hob297 : Params → Obj := fun _ => { cls := Value.type "tuple", data := Data.seq #[Value.str (Str.ofString "_law_whole_here") 503, Value.str (Str.ofString "_law_many") 504, Value.str (Str.ofString "_law_way_here") 505, Value.str (Str.ofString "_law_upper") 506] }
def hob69 : Params → Obj := fun P => { cls := Value.type "dict", data := Data.dict #[{ hash := PyData.keyHash P (Str.ofString "__module__"), key := Value.str (Str.ofString "__module__") 214, val := Value.str (Str.ofString "nearfrac.errors") 187 }, { hash := PyData.keyHash P (Str.ofString "__qualname__"), key := Value.str (Str.ofString "__qualname__") 216, val := Value.str (Str.ofString "NoFraction") 215 }, { hash := PyData.keyHash P (Str.ofString "__firstlineno__"), key := Value.str (Str.ofString "__firstlineno__") 218, val := Value.int 4 217 }, { hash := PyData.keyHash P (Str.ofString "__static_attributes__"), key := Value.str (Str.ofString "__static_attributes__") 219, val := Value.ref 35 }] 4 }
def hob68 : Params → Obj := fun _ => { cls := Value.type "builtin_function_or_method", data := Data.fields #[Value.builtin "type.__prepare__", Value.type "type"] }
def hob51 : Params → Obj := fun _ => { cls := Value.type "tuple", data := Data.seq #[Value.type "ValueError"] }
def hob110 : Params → Obj := fun _ => { cls := Value.none, data := Data.fields #[] }
def hob75 : Params → Obj := fun P => { cls := Value.type "dict", data := Data.dict #[{ hash := PyData.keyHash P (Str.ofString "__module__"), key := Value.str (Str.ofString "__module__") 214, val := Value.str (Str.ofString "nearfrac.errors") 187 }, { hash := PyData.keyHash P (Str.ofString "__firstlineno__"), key := Value.str (Str.ofString "__firstlineno__") 218, val := Value.int 4 217 }, { hash := PyData.keyHash P (Str.ofString "__static_attributes__"), key := Value.str (Str.ofString "__static_attributes__") 219, val := Value.ref 35 }, { hash := PyData.keyHash P (Str.ofString "__doc__"), key := Value.str (Str.ofString "__doc__") 220, val := Value.none }] 2 }
def hob183 : Params → Obj := fun _ => { cls := Value.type "tuple", data := Data.seq #[Value.str (Str.ofString "target") 351, Value.str (Str.ofString "most") 352, Value.str (Str.ofString "low") 353, Value.str (Str.ofString "high") 354, Value.str (Str.ofString "below") 355, Value.str (Str.ofString "above") 356] }
def hob306 : Params → Obj := fun _ => { cls := Value.none, data := Data.func { name := Str.ofString "_law_refused", qualname := Str.ofString "_law_refused", params := hfp 36, body := FuncBody.stmts (hfb 36), scope := hfs 36, globals := 0, closure := [], defaults := Value.none, kwdefaults := Value.none } }
def hob237 : Params → Obj := fun _ => { cls := Value.type "code", data := Data.fields #[Value.str (Str.ofString "_law_shared") 418, Value.str (Str.ofString "_law_shared") 419, Value.str (Str.ofString "/claim/cut.py") 420, Value.int 106 0, Value.int 2 0, Value.int 0 0, Value.int 0 0, Value.int 3 0, Value.ref 183, Value.bool true, Value.int 181 0, Value.ref 184, Value.none, Value.ref 185, Value.ref 186, Value.ref 187, Value.int 423 0, Value.int 106 0, Value.str (Str.ofString "/claim/cut.py") 424] }
def hob251 : Params → Obj := fun _ => { cls := Value.type "code", data := Data.fields #[Value.str (Str.ofString "_law_is_frac") 435, Value.str (Str.ofString "_law_is_frac") 436, Value.str (Str.ofString "/claim/cut.py") 437, Value.int 113 0, Value.int 1 0, Value.int 0 0, Value.int 0 0, Value.int 3 0, Value.ref 197, Value.bool true, Value.int 181 0, Value.ref 198, Value.none, Value.ref 199, Value.ref 200, Value.ref 201, Value.int 439 0, Value.int 113 0, Value.str (Str.ofString "/claim/cut.py") 440] }
def hob89 : Params → Obj := fun _ => { cls := Value.type "tuple", data := Data.seq #[] }
def hob120 : Params → Obj := fun _ => { cls := Value.none, data := Data.func { name := Str.ofString "divisor", qualname := Str.ofString "divisor", params := hfp 7, body := FuncBody.stmts (hfb 7), scope := hfs 7, globals := 0, closure := [], defaults := Value.none, kwdefaults := Value.none } }
def hob138 : Params → Obj := fun _ => { cls := Value.none, data := Data.fields #[] }
def hob46 : Params → Obj := fun _ => { cls := Value.type "frame", slots := #[some (Value.ref 13), some (Value.ref 3), some (Value.ref 3), none, some (Value.str (Str.ofString "__main__") 164), none, some (Value.ref 0)] }
def hob212 : Params → Obj := fun _ => { cls := Value.type "tuple", data := Data.seq #[] }
def hob291 : Params → Obj := fun _ => { cls := Value.type "tuple", data := Data.seq #[] }
def hob257 : Params → Obj := fun _ => { cls := Value.none, data := Data.func { name := Str.ofString "_law_number", qualname := Str.ofString "_law_number", params := hfp 29, body := FuncBody.stmts (hfb 29), scope := hfs 29, globals := 0, closure := [], defaults := Value.none, kwdefaults := Value.none } }
def hob128 : Params → Obj := fun _ => { cls := Value.type "code", data := Data.fields #[Value.str (Str.ofString "lowest") 274, Value.str (Str.ofString "lowest") 275, Value.str (Str.ofString "/claim/cut.py") 276, Value.int 19 0, Value.int 2 0, Value.int 0 0, Value.int 0 0, Value.int 3 0, Value.ref 78, Value.bool true, Value.int 181 0, Value.ref 79, Value.none, Value.ref 80, Value.ref 81, Value.ref 82, Value.int 280 0, Value.int 19 0, Value.str (Str.ofString "/claim/cut.py") 281] }
def hob279 : Params → Obj := fun _ => { cls := Value.type "code", data := Data.fields #[Value.str (Str.ofString "_law_no_room") 469, Value.str (Str.ofString "_law_no_room") 470, Value.str (Str.ofString "/claim/cut.py") 471, Value.int 127 0, Value.int 2 0, Value.int 0 0, Value.int 0 0, Value.int 3 0, Value.ref 225, Value.bool true, Value.int 181 0, Value.ref 226, Value.none, Value.ref 227, Value.ref 228, Value.ref 229, Value.int 475 0, Value.int 127 0, Value.str (Str.ofString "/claim/cut.py") 476] }
def hob240 : Params → Obj := fun _ => { cls := Value.none, data := Data.fields #[] }
def hob185 : Params → Obj := fun _ => { cls := Value.none, data := Data.func { name := Str.ofString "nearest", qualname := Str.ofString "nearest", params := hfp 17, body := FuncBody.stmts (hfb 17), scope := hfs 17, globals := 0, closure := [], defaults := Value.none, kwdefaults := Value.none } }
def hob250 : Params → Obj := fun _ => { cls := Value.none, data := Data.func { name := Str.ofString "_law_is_frac", qualname := Str.ofString "_law_is_frac", params := hfp 28, body := FuncBody.stmts (hfb 28), scope := hfs 28, globals := 0, closure := [], defaults := Value.none, kwdefaults := Value.none } }
def hob133 : Params → Obj := fun _ => { cls := Value.type "tuple", data := Data.seq #[] }
def hob45 : Params → Obj := fun _ => { cls := Value.type "code", data := Data.fields #[Value.str (Str.ofString "<module>") 182, Value.str (Str.ofString "<module>") 183, Value.str (Str.ofString "/claim/cut.py") 184, Value.int 1 0, Value.int 0 0, Value.int 0 0, Value.int 0 0, Value.int 0 0, Value.ref 11, Value.bool false, Value.int 181 0, Value.ref 12, Value.none, Value.none, Value.none, Value.none, Value.int 185 0, Value.int 1 0, Value.str (Str.ofString "/claim/cut.py") 186] }
def hob203 : Params → Obj := fun _ => { cls := Value.none, data := Data.fields #[] }
def hob292 : Params → Obj := fun _ => { cls := Value.none, data := Data.func { name := Str.ofString "_law_beats_all", qualname := Str.ofString "_law_beats_all", params := hfp 34, body := FuncBody.stmts (hfb 34), scope := hfs 34, globals := 0, closure := [], defaults := Value.none, kwdefaults := Value.none } }
def hob168 : Params → Obj := fun _ => { cls := Value.none, data := Data.fields #[] }
def hob170 : Params → Obj := fun _ => { cls := Value.type "tuple", data := Data.seq #[] }
def hob90 : Params → Obj := fun P => { cls := Value.type "dict", data := Data.dict #[{ hash := PyData.keyHash P (Str.ofString "__module__"), key := Value.str (Str.ofString "__module__") 230, val := Value.str (Str.ofString "nearfrac.errors") 187 }, { hash := PyData.keyHash P (Str.ofString "__firstlineno__"), key := Value.str (Str.ofString "__firstlineno__") 234, val := Value.int 6 233 }, { hash := PyData.keyHash P (Str.ofString "__static_attributes__"), key := Value.str (Str.ofString "__static_attributes__") 235, val := Value.ref 47 }, { hash := PyData.keyHash P (Str.ofString "__doc__"), key := Value.str (Str.ofString "__doc__") 236, val := Value.none }] 2 }
def hob261 : Params → Obj := fun _ => { cls := Value.none, data := Data.fields #[] }
def hob272 : Params → Obj := fun _ => { cls := Value.type "code", data := Data.fields #[Value.str (Str.ofString "_law_most_by") 461, Value.str (Str.ofString "_law_most_by") 462, Value.str (Str.ofString "/claim/cut.py") 463, Value.int 125 0, Value.int 2 0, Value.int 0 0, Value.int 0 0, Value.int 3 0, Value.ref 218, Value.bool true, Value.int 181 0, Value.ref 219, Value.none, Value.ref 220, Value.ref 221, Value.ref 222, Value.int 466 0, Value.int 125 0, Value.str (Str.ofString "/claim/cut.py") 467] }
def hob238 : Params → Obj := fun _ => { cls := Value.type "function", data := Data.func { name := Str.ofString "_law_shared", qualname := Str.ofString "_law_shared", params := hfp 26, body := FuncBody.stmts (hfb 26), scope := hfs 26, globals := 3, closure := [], defaults := Value.none, kwdefaults := Value.none, pyModule := Value.str (Str.ofString "law_uf050018_12") 392, code := Value.ref 188 } }
def hob195 : Params → Obj := fun _ => { cls := Value.type "tuple", data := Data.seq #[] }
def hob121 : Params → Obj := fun _ => { cls := Value.type "code", data := Data.fields #[Value.str (Str.ofString "divisor") 265, Value.str (Str.ofString "divisor") 266, Value.str (Str.ofString "/claim/cut.py") 267, Value.int 13 0, Value.int 2 0, Value.int 0 0, Value.int 0 0, Value.int 3 0, Value.ref 71, Value.bool true, Value.int 181 0, Value.ref 72, Value.none, Value.ref 73, Value.ref 74, Value.ref 75, Value.int 271 0, Value.int 13 0, Value.str (Str.ofString "/claim/cut.py") 272] }
def hob116 : Params → Obj := fun _ => { cls := Value.type "tuple", data := Data.seq #[] }
def hob118 : Params → Obj := fun _ => { cls := Value.type "tuple", data := Data.seq #[Value.str (Str.ofString "one") 268, Value.str (Str.ofString "other") 269, Value.str (Str.ofString "rest") 270] }
def hob267 : Params → Obj := fun _ => { cls := Value.type "tuple", data := Data.seq #[] }
def hob260 : Params → Obj := fun _ => { cls := Value.type "tuple", data := Data.seq #[] }
def hob200 : Params → Obj := fun _ => { cls := Value.type "code", data := Data.fields #[Value.str (Str.ofString "path_of") 374, Value.str (Str.ofString "path_of") 375, Value.str (Str.ofString "/claim/cut.py") 376, Value.int 80 0, Value.int 1 0, Value.int 0 0, Value.int 0 0, Value.int 3 0, Value.ref 148, Value.bool true, Value.int 181 0, Value.ref 149, Value.none, Value.ref 150, Value.ref 151, Value.ref 152, Value.int 382 0, Value.int 80 0, Value.str (Str.ofString "/claim/cut.py") 383] }
def hob179 : Params → Obj := fun _ => { cls := Value.type "code", data := Data.fields #[Value.str (Str.ofString "around") 336, Value.str (Str.ofString "around") 337, Value.str (Str.ofString "/claim/cut.py") 338, Value.int 41 0, Value.int 2 0, Value.int 0 0, Value.int 0 0, Value.int 3 0, Value.ref 127, Value.bool true, Value.int 181 0, Value.ref 128, Value.none, Value.ref 129, Value.ref 130, Value.ref 131, Value.int 345 0, Value.int 41 0, Value.str (Str.ofString "/claim/cut.py") 346] }
def hob108 : Params → Obj := fun _ => { cls := Value.type "builtin_function_or_method", data := Data.fields #[Value.builtin "object.__init_subclass__", Value.ref 61] }
def hob299 : Params → Obj := fun _ => { cls := Value.none, data := Data.func { name := Str.ofString "_law_between", qualname := Str.ofString "_law_between", params := hfp 35, body := FuncBody.stmts (hfb 35), scope := hfs 35, globals := 0, closure := [], defaults := Value.none, kwdefaults := Value.none } }
def hob290 : Params → Obj := fun _ => { cls := Value.type "tuple", data := Data.seq #[Value.str (Str.ofString "_law_found") 492, Value.str (Str.ofString "_law_target") 493, Value.str (Str.ofString "_law_lower") 494, Value.str (Str.ofString "_law_upper") 495, Value.str (Str.ofString "_law_more") 496] }
def hob296 : Params → Obj := fun _ => { cls := Value.none, data := Data.fields #[] }
def hob149 : Params → Obj := fun _ => { cls := Value.type "tuple", data := Data.seq #[] }
def hob213 : Params → Obj := fun _ => { cls := Value.none, data := Data.func { name := Str.ofString "_law_cell_at", qualname := Str.ofString "_law_cell_at", params := hfp 23, body := FuncBody.stmts (hfb 23), scope := hfs 23, globals := 0, closure := [], defaults := Value.none, kwdefaults := Value.none } }
def hob193 : Params → Obj := fun _ => { cls := Value.type "code", data := Data.fields #[Value.str (Str.ofString "walked") 362, Value.str (Str.ofString "walked") 363, Value.str (Str.ofString "/claim/cut.py") 364, Value.int 67 0, Value.int 1 0, Value.int 0 0, Value.int 0 0, Value.int 3 0, Value.ref 141, Value.bool true, Value.int 181 0, Value.ref 142, Value.none, Value.ref 143, Value.ref 144, Value.ref 145, Value.int 371 0, Value.int 67 0, Value.str (Str.ofString "/claim/cut.py") 372] }
def hob111 : Params → Obj := fun _ => { cls := Value.type "tuple", data := Data.seq #[Value.str (Str.ofString "thing") 260, Value.str (Str.ofString "least") 261] }
def hob160 : Params → Obj := fun _ => { cls := Value.type "tuple", data := Data.seq #[] }
def hob228 : Params → Obj := fun _ => { cls := Value.type "code", data := Data.fields #[Value.str (Str.ofString "_law_whole") 411, Value.str (Str.ofString "_law_whole") 412, Value.str (Str.ofString "/claim/cut.py") 413, Value.int 104 0, Value.int 1 0, Value.int 0 0, Value.int 0 0, Value.int 3 0, Value.ref 176, Value.bool true, Value.int 181 0, Value.ref 177, Value.none, Value.ref 178, Value.ref 179, Value.ref 180, Value.int 415 0, Value.int 104 0, Value.str (Str.ofString "/claim/cut.py") 416] }
def hob188 : Params → Obj := fun _ => { cls := Value.type "tuple", data := Data.seq #[] }
def hob248 : Params → Obj := fun _ => { cls := Value.type "tuple", data := Data.seq #[Value.str (Str.ofString "_law_found") 438] }
def hob227 : Params → Obj := fun _ => { cls := Value.none, data := Data.func { name := Str.ofString "_law_whole", qualname := Str.ofString "_law_whole", params := hfp 25, body := FuncBody.stmts (hfb 25), scope := hfs 25, globals := 0, closure := [], defaults := Value.none, kwdefaults := Value.none } }
def hob236 : Params → Obj := fun _ => { cls := Value.none, data := Data.func { name := Str.ofString "_law_shared", qualname := Str.ofString "_law_shared", params := hfp 26, body := FuncBody.stmts (hfb 26), scope := hfs 26, globals := 0, closure := [], defaults := Value.none, kwdefaults := Value.none } }
def hob189 : Params → Obj := fun _ => { cls := Value.none, data := Data.fields #[] }
def hob163 : Params → Obj := fun _ => { cls := Value.type "tuple", data := Data.seq #[] }
def hob314 : Params → Obj := fun _ => { cls := Value.type "code", data := Data.fields #[Value.str (Str.ofString "law") 519, Value.str (Str.ofString "law") 520, Value.str (Str.ofString "/claim/cut.py") 521, Value.int 154 0, Value.int 1 0, Value.int 0 0, Value.int 0 0, Value.int 3 0, Value.ref 260, Value.bool true, Value.int 181 0, Value.ref 261, Value.none, Value.ref 262, Value.ref 263, Value.ref 264, Value.int 531 0, Value.int 154 0, Value.str (Str.ofString "/claim/cut.py") 532] }
def hob156 : Params → Obj := fun _ => { cls := Value.type "tuple", data := Data.seq #[] }
def hob191 : Params → Obj := fun _ => { cls := Value.type "tuple", data := Data.seq #[] }
def hob98 : Params → Obj := fun _ => { cls := Value.type "builtin_function_or_method", data := Data.fields #[Value.builtin "type.__prepare__", Value.type "type"] }
def hob95 : Params → Obj := fun _ => { cls := Value.none, data := Data.fields #[Value.int 2 0, Value.int 0 0, Value.ref 20, Value.int 4 0, Value.int 0 0, Value.ref 33, Value.int 6 0, Value.int 0 0, Value.ref 45, Value.int 8 0, Value.int 0 0, Value.ref 57, Value.int 11 0, Value.int 0 0, Value.ref 69, Value.int 13 0, Value.int 0 0, Value.ref 76, Value.int 19 0, Value.int 0 0, Value.ref 83, Value.int 24 0, Value.int 0 0, Value.ref 90, Value.int 26 0, Value.int 0 0, Value.ref 97] }
def hob135 : Params → Obj := fun _ => { cls := Value.type "code", data := Data.fields #[Value.str (Str.ofString "less") 283, Value.str (Str.ofString "less") 284, Value.str (Str.ofString "/claim/cut.py") 285, Value.int 24 0, Value.int 2 0, Value.int 0 0, Value.int 0 0, Value.int 3 0, Value.ref 85, Value.bool true, Value.int 181 0, Value.ref 86, Value.none, Value.ref 87, Value.ref 88, Value.ref 89, Value.int 288 0, Value.int 24 0, Value.str (Str.ofString "/claim/cut.py") 289] }
def hob79 : Params → Obj := fun P => { cls := Value.type "dict", data := Data.dict #[{ hash := PyData.keyHash P (Str.ofString "__name__"), key := Value.str (Str.ofString "__name__") 165, val := Value.str (Str.ofString "nearfrac.errors") 187 }, { hash := PyData.keyHash P (Str.ofString "__doc__"), key := Value.str (Str.ofString "__doc__") 166, val := Value.none }, { hash := PyData.keyHash P (Str.ofString "__package__"), key := Value.str (Str.ofString "__package__") 167, val := Value.none }, { hash := PyData.keyHash P (Str.ofString "__loader__"), key := Value.str (Str.ofString "__loader__") 168, val := Value.builtin "__main__.__loader__#opaque" }, { hash := PyData.keyHash P (Str.ofString "__spec__"), key := Value.str (Str.ofString "__spec__") 169, val := Value.none }, { hash := PyData.keyHash P (Str.ofString "__annotations__"), key := Value.str (Str.ofString "__annotations__") 170, val := Value.ref 6 }, { hash := PyData.keyHash P (Str.ofString "__builtins__"), key := Value.str (Str.ofString "__builtins__") 171, val := Value.ref 4 }, { hash := PyData.keyHash P (Str.ofString "__file__"), key := Value.str (Str.ofString "__file__") 173, val := Value.str (Str.ofString "/claim/cut.py") 172 }, { hash := PyData.keyHash P (Str.ofString "__cached__"), key := Value.str (Str.ofString "__cached__") 174, val := Value.none }, { hash := PyData.keyHash P (Str.ofString "FractionError"), key := Value.str (Str.ofString "FractionError") 206, val := Value.ref 24 }, { hash := PyData.keyHash P (Str.ofString "NoFraction"), key := Value.str (Str.ofString "NoFraction") 222, val := Value.ref 37 }, { hash := PyData.keyHash P (Str.ofString "NoPath"), key := Value.str (Str.ofString "NoPath") 238, val := Value.ref 49 }] 12 }
def hob231 : Params → Obj := fun _ => { cls := Value.none, data := Data.fields #[Value.int 2 0, Value.int 0 0, Value.ref 20, Value.int 4 0, Value.int 0 0, Value.ref 33, Value.int 6 0, Value.int 0 0, Value.ref 45, Value.int 8 0, Value.int 0 0, Value.ref 57, Value.int 11 0, Value.int 0 0, Value.ref 69, Value.int 13 0, Value.int 0 0, Value.ref 76, Value.int 19 0, Value.int 0 0, Value.ref 83, Value.int 24 0, Value.int 0 0, Value.ref 90, Value.int 26 0, Value.int 0 0, Value.ref 97, Value.int 30 0, Value.int 0 0, Value.ref 104, Value.int 33 0, Value.int 0 0, Value.ref 111, Value.int 35 0, Value.int 0 0, Value.ref 118, Value.int 37 0, Value.int 0 0, Value.ref 125, Value.int 41 0, Value.int 0 0, Value.ref 132, Value.int 55 0, Value.int 0 0, Value.ref 139, Value.int 67 0, Value.int 0 0, Value.ref 146, Value.int 80 0, Value.int 0 0, Value.ref 153, Value.int 95 0, Value.int 0 0, Value.ref 160, Value.int 98 0, Value.int 0 0, Value.ref 167, Value.int 102 0, Value.int 0 0, Value.ref 174, Value.int 104 0, Value.int 0 0, Value.ref 181, Value.int 106 0, Value.int 0 0, Value.ref 188, Value.int 110 0, Value.int 0 0, Value.ref 195, Value.int 113 0, Value.int 0 0, Value.ref 202, Value.int 119 0, Value.int 0 0, Value.ref 209, Value.int 121 0, Value.int 0 0, Value.ref 216, Value.int 125 0, Value.int 0 0, Value.ref 223, Value.int 127 0, Value.int 0 0, Value.ref 230, Value.int 130 0, Value.int 0 0, Value.ref 237, Value.int 137 0, Value.int 0 0, Value.ref 244, Value.int 143 0, Value.int 0 0, Value.ref 251, Value.int 148 0, Value.int 0 0, Value.ref 258, Value.int 154 0, Value.int 0 0, Value.ref 265] }
def hob74 : Params → Obj := fun _ => { cls := Value.type "tuple", data := Data.seq #[] }
def hob273 : Params → Obj := fun _ => { cls := Value.type "function", data := Data.func { name := Str.ofString "_law_most_by", qualname := Str.ofString "_law_most_by", params := hfp 31, body := FuncBody.stmts (hfb 31), scope := hfs 31, globals := 3, closure := [], defaults := Value.none, kwdefaults := Value.none, pyModule := Value.str (Str.ofString "law_uf050018_12") 392, code := Value.ref 223 } }
def hob229 : Params → Obj := fun _ => { cls := Value.type "function", data := Data.func { name := Str.ofString "_law_whole", qualname := Str.ofString "_law_whole", params := hfp 25, body := FuncBody.stmts (hfb 25), scope := hfs 25, globals := 3, closure := [], defaults := Value.none, kwdefaults := Value.none, pyModule := Value.str (Str.ofString "law_uf050018_12") 392, code := Value.ref 181 } }
def hob216 : Params → Obj := fun _ => { cls := Value.type "tuple", data := Data.seq #[] }
def hob310 : Params → Obj := fun _ => { cls := Value.none, data := Data.fields #[] }
def hob124 : Params → Obj := fun _ => { cls := Value.none, data := Data.fields #[] }
def hob92 : Params → Obj := fun _ => { cls := Value.type "super", data := Data.fields #[Value.ref 49, Value.ref 49, Value.ref 49] }
def hob199 : Params → Obj := fun _ => { cls := Value.none, data := Data.func { name := Str.ofString "path_of", qualname := Str.ofString "path_of", params := hfp 20, body := FuncBody.stmts (hfb 20), scope := hfs 20, globals := 0, closure := [], defaults := Value.none, kwdefaults := Value.none } }
def hob312 : Params → Obj := fun _ => { cls := Value.type "tuple", data := Data.seq #[] }
def hob217 : Params → Obj := fun _ => { cls := Value.none, data := Data.fields #[] }
def hob152 : Params → Obj := fun _ => { cls := Value.type "function", data := Data.func { name := Str.ofString "need_room", qualname := Str.ofString "need_room", params := hfp 12, body := FuncBody.stmts (hfb 12), scope := hfs 12, globals := 3, closure := [], defaults := Value.none, kwdefaults := Value.none, pyModule := Value.str (Str.ofString "nearfrac.near") 300, code := Value.ref 104 } }
def hob230 : Params → Obj := fun P => { cls := Value.type "dict", data := Data.dict #[{ hash := PyData.keyHash P (Str.ofString "__name__"), key := Value.str (Str.ofString "__name__") 165, val := Value.str (Str.ofString "law_uf050018_12") 392 }, { hash := PyData.keyHash P (Str.ofString "__doc__"), key := Value.str (Str.ofString "__doc__") 166, val := Value.none }, { hash := PyData.keyHash P (Str.ofString "__package__"), key := Value.str (Str.ofString "__package__") 167, val := Value.none }, { hash := PyData.keyHash P (Str.ofString "__loader__"), key := Value.str (Str.ofString "__loader__") 168, val := Value.builtin "__main__.__loader__#opaque" }, { hash := PyData.keyHash P (Str.ofString "__spec__"), key := Value.str (Str.ofString "__spec__") 169, val := Value.none }, { hash := PyData.keyHash P (Str.ofString "__annotations__"), key := Value.str (Str.ofString "__annotations__") 170, val := Value.ref 6 }, { hash := PyData.keyHash P (Str.ofString "__builtins__"), key := Value.str (Str.ofString "__builtins__") 171, val := Value.ref 4 }, { hash := PyData.keyHash P (Str.ofString "__file__"), key := Value.str (Str.ofString "__file__") 173, val := Value.str (Str.ofString "/claim/cut.py") 172 }, { hash := PyData.keyHash P (Str.ofString "__cached__"), key := Value.str (Str.ofString "__cached__") 174, val := Value.none }, { hash := PyData.keyHash P (Str.ofString "FractionError"), key := Value.str (Str.ofString "FractionError") 206, val := Value.ref 24 }, { hash := PyData.keyHash P (Str.ofString "NoFraction"), key := Value.str (Str.ofString "NoFraction") 222, val := Value.ref 37 }, { hash := PyData.keyHash P (Str.ofString "NoPath"), key := Value.str (Str.ofString "NoPath") 238, val := Value.ref 49 }, { hash := PyData.keyHash P (Str.ofString "NoRoom"), key := Value.str (Str.ofString "NoRoom") 254, val := Value.ref 61 }, { hash := PyData.keyHash P (Str.ofString "is_whole"), key := Value.str (Str.ofString "is_whole") 264, val := Value.ref 70 }, { hash := PyData.keyHash P (Str.ofString "divisor"), key := Value.str (Str.ofString "divisor") 273, val := Value.ref 77 }, { hash := PyData.keyHash P (Str.ofString "lowest"), key := Value.str (Str.ofString "lowest") 282, val := Value.ref 84 }, { hash := PyData.keyHash P (Str.ofString "less"), key := Value.str (Str.ofString "less") 290, val := Value.ref 91 }, { hash := PyData.keyHash P (Str.ofString "apart"), key := Value.str (Str.ofString "apart") 299, val := Value.ref 98 }, { hash := PyData.keyHash P (Str.ofString "need_room"), key := Value.str (Str.ofString "need_room") 308, val := Value.ref 105 }, { hash := PyData.keyHash P (Str.ofString "gap"), key := Value.str (Str.ofString "gap") 316, val := Value.ref 112 }, { hash := PyData.keyHash P (Str.ofString "stepped"), key := Value.str (Str.ofString "stepped") 325, val := Value.ref 119 }, { hash := PyData.keyHash P (Str.ofString "fitting"), key := Value.str (Str.ofString "fitting") 335, val := Value.ref 126 }, { hash := PyData.keyHash P (Str.ofString "around"), key := Value.str (Str.ofString "around") 347, val := Value.ref 133 }, { hash := PyData.keyHash P (Str.ofString "nearest"), key := Value.str (Str.ofString "nearest") 359, val := Value.ref 140 }, { hash := PyData.keyHash P (Str.ofString "walked"), key := Value.str (Str.ofString "walked") 373, val := Value.ref 147 }, { hash := PyData.keyHash P (Str.ofString "path_of"), key := Value.str (Str.ofString "path_of") 384, val := Value.ref 154 }, { hash := PyData.keyHash P (Str.ofString "sides"), key := Value.str (Str.ofString "sides") 391, val := Value.ref 161 }, { hash := PyData.keyHash P (Str.ofString "_law_cell_at"), key := Value.str (Str.ofString "_law_cell_at") 401, val := Value.ref 168 }, { hash := PyData.keyHash P (Str.ofString "_law_way"), key := Value.str (Str.ofString "_law_way") 410, val := Value.ref 175 }, { hash := PyData.keyHash P (Str.ofString "_law_whole"), key := Value.str (Str.ofString "_law_whole") 417, val := Value.ref 182 }, { hash := PyData.keyHash P (Str.ofString "_law_shared"), key := Value.str (Str.ofString "_law_shared") 425, val := Value.ref 189 }, { hash := PyData.keyHash P (Str.ofString "_law_frac"), key := Value.str (Str.ofString "_law_frac") 434, val := Value.ref 196 }, { hash := PyData.keyHash P (Str.ofString "_law_is_frac"), key := Value.str (Str.ofString "_law_is_frac") 441, val := Value.ref 203 }, { hash := PyData.keyHash P (Str.ofString "_law_number"), key := Value.str (Str.ofString "_law_number") 449, val := Value.ref 210 }, { hash := PyData.keyHash P (Str.ofString "_law_drawn"), key := Value.str (Str.ofString "_law_drawn") 460, val := Value.ref 217 }, { hash := PyData.keyHash P (Str.ofString "_law_most_by"), key := Value.str (Str.ofString "_law_most_by") 468, val := Value.ref 224 }, { hash := PyData.keyHash P (Str.ofString "_law_no_room"), key := Value.str (Str.ofString "_law_no_room") 477, val := Value.ref 231 }, { hash := PyData.keyHash P (Str.ofString "_law_beats"), key := Value.str (Str.ofString "_law_beats") 488, val := Value.ref 238 }, { hash := PyData.keyHash P (Str.ofString "_law_beats_all"), key := Value.str (Str.ofString "_law_beats_all") 499, val := Value.ref 245 }, { hash := PyData.keyHash P (Str.ofString "_law_between"), key := Value.str (Str.ofString "_law_between") 509, val := Value.ref 252 }, { hash := PyData.keyHash P (Str.ofString "_law_refused"), key := Value.str (Str.ofString "_law_refused") 518, val := Value.ref 259 }, { hash := PyData.keyHash P (Str.ofString "law"), key := Value.str (Str.ofString "law") 533, val := Value.ref 266 }] 42 }
def hob171 : Params → Obj := fun _ => { cls := Value.none, data := Data.func { name := Str.ofString "fitting", qualname := Str.ofString "fitting", params := hfp 15, body := FuncBody.stmts (hfb 15), scope := hfs 15, globals := 0, closure := [], defaults := Value.none, kwdefaults := Value.none } }
def hob207 : Params → Obj := fun _ => { cls := Value.type "code", data := Data.fields #[Value.str (Str.ofString "sides") 385, Value.str (Str.ofString "sides") 386, Value.str (Str.ofString "/claim/cut.py") 387, Value.int 95 0, Value.int 1 0, Value.int 0 0, Value.int 0 0, Value.int 3 0, Value.ref 155, Value.bool true, Value.int 181 0, Value.ref 156, Value.none, Value.ref 157, Value.ref 158, Value.ref 159, Value.int 389 0, Value.int 95 0, Value.str (Str.ofString "/claim/cut.py") 390] }
def hob233 : Params → Obj := fun _ => { cls := Value.none, data := Data.fields #[] }
def hob241 : Params → Obj := fun _ => { cls := Value.type "tuple", data := Data.seq #[Value.str (Str.ofString "_law_upper") 429, Value.str (Str.ofString "_law_lower") 430, Value.str (Str.ofString "_law_part") 431] }
def hob282 : Params → Obj := fun _ => { cls := Value.none, data := Data.fields #[] }
def hob107 : Params → Obj := fun _ => { cls := Value.type "super", data := Data.fields #[Value.ref 61, Value.ref 61, Value.ref 61] }
def hob141 : Params → Obj := fun _ => { cls := Value.none, data := Data.func { name := Str.ofString "apart", qualname := Str.ofString "apart", params := hfp 10, body := FuncBody.stmts (hfb 10), scope := hfs 10, globals := 0, closure := [], defaults := Value.none, kwdefaults := Value.none } }
def hob147 : Params → Obj := fun _ => { cls := Value.none, data := Data.fields #[] }
def hob72 : Params → Obj := fun _ => { cls := Value.type "code", data := Data.fields #[Value.str (Str.ofString "NoFraction") 209, Value.str (Str.ofString "NoFraction") 210, Value.str (Str.ofString "/claim/cut.py") 211, Value.int 4 0, Value.int 0 0, Value.int 0 0, Value.int 0 0, Value.int 0 0, Value.ref 31, Value.bool false, Value.int 181 0, Value.ref 32, Value.none, Value.none, Value.none, Value.none, Value.int 212 0, Value.int 4 0, Value.str (Str.ofString "/claim/cut.py") 213] }
def hob93 : Params → Obj := fun _ => { cls := Value.type "builtin_function_or_method", data := Data.fields #[Value.builtin "object.__init_subclass__", Value.ref 49] }
def hob102 : Params → Obj := fun _ => { cls := Value.type "code", data := Data.fields #[Value.str (Str.ofString "NoRoom") 241, Value.str (Str.ofString "NoRoom") 242, Value.str (Str.ofString "/claim/cut.py") 243, Value.int 8 0, Value.int 0 0, Value.int 0 0, Value.int 0 0, Value.int 0 0, Value.ref 55, Value.bool false, Value.int 181 0, Value.ref 56, Value.none, Value.none, Value.none, Value.none, Value.int 244 0, Value.int 8 0, Value.str (Str.ofString "/claim/cut.py") 245] }
def hob247 : Params → Obj := fun _ => { cls := Value.none, data := Data.fields #[] }
def hob57 : Params → Obj := fun _ => { cls := Value.type "frame", slots := #[some (Value.ref 20), some (Value.ref 3), some (Value.ref 17), none, some (Value.str (Str.ofString "nearfrac.errors") 187), none, some (Value.ref 0)] }
def hob94 : Params → Obj := fun P => { cls := Value.type "dict", data := Data.dict #[{ hash := PyData.keyHash P (Str.ofString "__name__"), key := Value.str (Str.ofString "__name__") 165, val := Value.str (Str.ofString "nearfrac.near") 300 }, { hash := PyData.keyHash P (Str.ofString "__doc__"), key := Value.str (Str.ofString "__doc__") 166, val := Value.none }, { hash := PyData.keyHash P (Str.ofString "__package__"), key := Value.str (Str.ofString "__package__") 167, val := Value.none }, { hash := PyData.keyHash P (Str.ofString "__loader__"), key := Value.str (Str.ofString "__loader__") 168, val := Value.builtin "__main__.__loader__#opaque" }, { hash := PyData.keyHash P (Str.ofString "__spec__"), key := Value.str (Str.ofString "__spec__") 169, val := Value.none }, { hash := PyData.keyHash P (Str.ofString "__annotations__"), key := Value.str (Str.ofString "__annotations__") 170, val := Value.ref 6 }, { hash := PyData.keyHash P (Str.ofString "__builtins__"), key := Value.str (Str.ofString "__builtins__") 171, val := Value.ref 4 }, { hash := PyData.keyHash P (Str.ofString "__file__"), key := Value.str (Str.ofString "__file__") 173, val := Value.str (Str.ofString "/claim/cut.py") 172 }, { hash := PyData.keyHash P (Str.ofString "__cached__"), key := Value.str (Str.ofString "__cached__") 174, val := Value.none }, { hash := PyData.keyHash P (Str.ofString "FractionError"), key := Value.str (Str.ofString "FractionError") 206, val := Value.ref 24 }, { hash := PyData.keyHash P (Str.ofString "NoFraction"), key := Value.str (Str.ofString "NoFraction") 222, val := Value.ref 37 }, { hash := PyData.keyHash P (Str.ofString "NoPath"), key := Value.str (Str.ofString "NoPath") 238, val := Value.ref 49 }, { hash := PyData.keyHash P (Str.ofString "NoRoom"), key := Value.str (Str.ofString "NoRoom") 254, val := Value.ref 61 }, { hash := PyData.keyHash P (Str.ofString "is_whole"), key := Value.str (Str.ofString "is_whole") 264, val := Value.ref 70 }, { hash := PyData.keyHash P (Str.ofString "divisor"), key := Value.str (Str.ofString "divisor") 273, val := Value.ref 77 }, { hash := PyData.keyHash P (Str.ofString "lowest"), key := Value.str (Str.ofString "lowest") 282, val := Value.ref 84 }, { hash := PyData.keyHash P (Str.ofString "less"), key := Value.str (Str.ofString "less") 290, val := Value.ref 91 }, { hash := PyData.keyHash P (Str.ofString "apart"), key := Value.str (Str.ofString "apart") 299, val := Value.ref 98 }] 18 }
def hob194 : Params → Obj := fun _ => { cls := Value.type "function", data := Data.func { name := Str.ofString "walked", qualname := Str.ofString "walked", params := hfp 19, body := FuncBody.stmts (hfb 19), scope := hfs 19, globals := 3, closure := [], defaults := Value.none, kwdefaults := Value.none, pyModule := Value.str (Str.ofString "nearfrac.tree") 360, code := Value.ref 146 } }
def hob55 : Params → Obj := fun _ => { cls := Value.none, data := Data.fields #[] }
def hob144 : Params → Obj := fun P => { cls := Value.type "dict", data := Data.dict #[{ hash := PyData.keyHash P (Str.ofString "__name__"), key := Value.str (Str.ofString "__name__") 165, val := Value.str (Str.ofString "law_uf050018_12") 392 }, { hash := PyData.keyHash P (Str.ofString "__doc__"), key := Value.str (Str.ofString "__doc__") 166, val := Value.none }, { hash := PyData.keyHash P (Str.ofString "__package__"), key := Value.str (Str.ofString "__package__") 167, val := Value.none }, { hash := PyData.keyHash P (Str.ofString "__loader__"), key := Value.str (Str.ofString "__loader__") 168, val := Value.builtin "__main__.__loader__#opaque" }, { hash := PyData.keyHash P (Str.ofString "__spec__"), key := Value.str (Str.ofString "__spec__") 169, val := Value.none }, { hash := PyData.keyHash P (Str.ofString "__annotations__"), key := Value.str (Str.ofString "__annotations__") 170, val := Value.ref 6 }, { hash := PyData.keyHash P (Str.ofString "__builtins__"), key := Value.str (Str.ofString "__builtins__") 171, val := Value.ref 4 }, { hash := PyData.keyHash P (Str.ofString "__file__"), key := Value.str (Str.ofString "__file__") 173, val := Value.str (Str.ofString "/claim/cut.py") 172 }, { hash := PyData.keyHash P (Str.ofString "__cached__"), key := Value.str (Str.ofString "__cached__") 174, val := Value.none }, { hash := PyData.keyHash P (Str.ofString "FractionError"), key := Value.str (Str.ofString "FractionError") 206, val := Value.ref 24 }, { hash := PyData.keyHash P (Str.ofString "NoFraction"), key := Value.str (Str.ofString "NoFraction") 222, val := Value.ref 37 }, { hash := PyData.keyHash P (Str.ofString "NoPath"), key := Value.str (Str.ofString "NoPath") 238, val := Value.ref 49 }, { hash := PyData.keyHash P (Str.ofString "NoRoom"), key := Value.str (Str.ofString "NoRoom") 254, val := Value.ref 61 }, { hash := PyData.keyHash P (Str.ofString "is_whole"), key := Value.str (Str.ofString "is_whole") 264, val := Value.ref 70 }, { hash := PyData.keyHash P (Str.ofString "divisor"), key := Value.str (Str.ofString "divisor") 273, val := Value.ref 77 }, { hash := PyData.keyHash P (Str.ofString "lowest"), key := Value.str (Str.ofString "lowest") 282, val := Value.ref 84 }, { hash := PyData.keyHash P (Str.ofString "less"), key := Value.str (Str.ofString "less") 290, val := Value.ref 91 }, { hash := PyData.keyHash P (Str.ofString "apart"), key := Value.str (Str.ofString "apart") 299, val := Value.ref 98 }, { hash := PyData.keyHash P (Str.ofString "need_room"), key := Value.str (Str.ofString "need_room") 308, val := Value.ref 105 }, { hash := PyData.keyHash P (Str.ofString "gap"), key := Value.str (Str.ofString "gap") 316, val := Value.ref 112 }, { hash := PyData.keyHash P (Str.ofString "stepped"), key := Value.str (Str.ofString "stepped") 325, val := Value.ref 119 }, { hash := PyData.keyHash P (Str.ofString "fitting"), key := Value.str (Str.ofString "fitting") 335, val := Value.ref 126 }, { hash := PyData.keyHash P (Str.ofString "around"), key := Value.str (Str.ofString "around") 347, val := Value.ref 133 }, { hash := PyData.keyHash P (Str.ofString "nearest"), key := Value.str (Str.ofString "nearest") 359, val := Value.ref 140 }, { hash := PyData.keyHash P (Str.ofString "walked"), key := Value.str (Str.ofString "walked") 373, val := Value.ref 147 }, { hash := PyData.keyHash P (Str.ofString "path_of"), key := Value.str (Str.ofString "path_of") 384, val := Value.ref 154 }, { hash := PyData.keyHash P (Str.ofString "sides"), key := Value.str (Str.ofString "sides") 391, val := Value.ref 161 }, { hash := PyData.keyHash P (Str.ofString "_law_cell_at"), key := Value.str (Str.ofString "_law_cell_at") 401, val := Value.ref 168 }, { hash := PyData.keyHash P (Str.ofString "_law_way"), key := Value.str (Str.ofString "_law_way") 410, val := Value.ref 175 }, { hash := PyData.keyHash P (Str.ofString "_law_whole"), key := Value.str (Str.ofString "_law_whole") 417, val := Value.ref 182 }] 30 }
def hob58 : Params → Obj := fun _ => { cls := Value.type "tuple", data := Data.seq #[] }
def hob205 : Params → Obj := fun _ => { cls := Value.type "tuple", data := Data.seq #[] }
def hob85 : Params → Obj := fun _ => { cls := Value.type "tuple", data := Data.seq #[] }
def hob259 : Params → Obj := fun _ => { cls := Value.type "function", data := Data.func { name := Str.ofString "_law_number", qualname := Str.ofString "_law_number", params := hfp 29, body := FuncBody.stmts (hfb 29), scope := hfs 29, globals := 3, closure := [], defaults := Value.none, kwdefaults := Value.none, pyModule := Value.str (Str.ofString "law_uf050018_12") 392, code := Value.ref 209 } }
def hob182 : Params → Obj := fun _ => { cls := Value.none, data := Data.fields #[] }
def hob82 : Params → Obj := fun _ => { cls := Value.type "tuple", data := Data.seq #[Value.ref 24] }
def hob255 : Params → Obj := fun _ => { cls := Value.type "tuple", data := Data.seq #[Value.str (Str.ofString "_law_cell") 445, Value.str (Str.ofString "_law_way_here") 446] }
def hob181 : Params → Obj := fun _ => { cls := Value.type "tuple", data := Data.seq #[] }
def hob78 : Params → Obj := fun _ => { cls := Value.type "builtin_function_or_method", data := Data.fields #[Value.builtin "object.__init_subclass__", Value.ref 37] }
def hob166 : Params → Obj := fun _ => { cls := Value.type "function", data := Data.func { name := Str.ofString "stepped", qualname := Str.ofString "stepped", params := hfp 14, body := FuncBody.stmts (hfb 14), scope := hfs 14, globals := 3, closure := [], defaults := Value.none, kwdefaults := Value.none, pyModule := Value.str (Str.ofString "nearfrac.near") 300, code := Value.ref 118 } }
def hob86 : Params → Obj := fun _ => { cls := Value.none, data := Data.fields #[] }
def hob63 : Params → Obj := fun _ => { cls := Value.type "builtin_function_or_method", data := Data.fields #[Value.builtin "object.__init_subclass__", Value.ref 24] }
def hob44 : Params → Obj := fun _ => { cls := Value.none, data := Data.fields #[] }
def hob109 : Params → Obj := fun _ => { cls := Value.type "tuple", data := Data.seq #[] }
def hob313 : Params → Obj := fun _ => { cls := Value.none, data := Data.func { name := Str.ofString "law", qualname := Str.ofString "law", params := hfp 37, body := FuncBody.stmts (hfb 37), scope := hfs 37, globals := 0, closure := [], defaults := Value.none, kwdefaults := Value.none } }
def hob142 : Params → Obj := fun _ => { cls := Value.type "code", data := Data.fields #[Value.str (Str.ofString "apart") 291, Value.str (Str.ofString "apart") 292, Value.str (Str.ofString "/claim/cut.py") 293, Value.int 26 0, Value.int 2 0, Value.int 0 0, Value.int 0 0, Value.int 3 0, Value.ref 92, Value.bool true, Value.int 181 0, Value.ref 93, Value.none, Value.ref 94, Value.ref 95, Value.ref 96, Value.int 297 0, Value.int 26 0, Value.str (Str.ofString "/claim/cut.py") 298] }
def hob59 : Params → Obj := fun P => { cls := Value.type "dict", data := Data.dict #[{ hash := PyData.keyHash P (Str.ofString "__module__"), key := Value.str (Str.ofString "__module__") 196, val := Value.str (Str.ofString "nearfrac.errors") 187 }, { hash := PyData.keyHash P (Str.ofString "__firstlineno__"), key := Value.str (Str.ofString "__firstlineno__") 200, val := Value.int 2 199 }, { hash := PyData.keyHash P (Str.ofString "__static_attributes__"), key := Value.str (Str.ofString "__static_attributes__") 201, val := Value.ref 22 }, { hash := PyData.keyHash P (Str.ofString "__weakref__"), key := Value.str (Str.ofString "__weakref__") 203, val := Value.ref 25 }, { hash := PyData.keyHash P (Str.ofString "__doc__"), key := Value.str (Str.ofString "__doc__") 204, val := Value.none }] 3 }
def hob190 : Params → Obj := fun _ => { cls := Value.type "tuple", data := Data.seq #[Value.str (Str.ofString "path") 365, Value.str (Str.ofString "left") 366, Value.str (Str.ofString "right") 367, Value.str (Str.ofString "ahead") 368, Value.str (Str.ofString "way") 369, Value.str (Str.ofString "many") 370] }
def hob219 : Params → Obj := fun _ => { cls := Value.type "tuple", data := Data.seq #[] }
def hob114 : Params → Obj := fun _ => { cls := Value.type "code", data := Data.fields #[Value.str (Str.ofString "is_whole") 257, Value.str (Str.ofString "is_whole") 258, Value.str (Str.ofString "/claim/cut.py") 259, Value.int 11 0, Value.int 2 0, Value.int 0 0, Value.int 0 0, Value.int 3 0, Value.ref 64, Value.bool true, Value.int 181 0, Value.ref 65, Value.none, Value.ref 66, Value.ref 67, Value.ref 68, Value.int 262 0, Value.int 11 0, Value.str (Str.ofString "/claim/cut.py") 263] }
def hob136 : Params → Obj := fun _ => { cls := Value.type "function", data := Data.func { name := Str.ofString "less", qualname := Str.ofString "less", params := hfp 9, body := FuncBody.stmts (hfb 9), scope := hfs 9, globals := 3, closure := [], defaults := Value.none, kwdefaults := Value.none, pyModule := Value.str (Str.ofString "nearfrac.fracs") 255, code := Value.ref 90 } }
def hob277 : Params → Obj := fun _ => { cls := Value.type "tuple", data := Data.seq #[] }
def hob178 : Params → Obj := fun _ => { cls := Value.none, data := Data.func { name := Str.ofString "around", qualname := Str.ofString "around", params := hfp 16, body := FuncBody.stmts (hfb 16), scope := hfs 16, globals := 0, closure := [], defaults := Value.none, kwdefaults := Value.none } }
def hob192 : Params → Obj := fun _ => { cls := Value.none, data := Data.func { name := Str.ofString "walked", qualname := Str.ofString "walked", params := hfp 19, body := FuncBody.stmts (hfb 19), scope := hfs 19, globals := 0, closure := [], defaults := Value.none, kwdefaults := Value.none } }
def hob104 : Params → Obj := fun _ => { cls := Value.type "tuple", data := Data.seq #[] }
def hob177 : Params → Obj := fun _ => { cls := Value.type "tuple", data := Data.seq #[] }
def hob43 : Params → Obj := fun _ => { cls := Value.type "tuple", data := Data.seq #[] }
def hob281 : Params → Obj := fun _ => { cls := Value.type "tuple", data := Data.seq #[] }
def hob220 : Params → Obj := fun _ => { cls := Value.none, data := Data.func { name := Str.ofString "_law_way", qualname := Str.ofString "_law_way", params := hfp 24, body := FuncBody.stmts (hfb 24), scope := hfs 24, globals := 0, closure := [], defaults := Value.none, kwdefaults := Value.none } }
def hob218 : Params → Obj := fun _ => { cls := Value.type "tuple", data := Data.seq #[Value.str (Str.ofString "_law_script") 405, Value.str (Str.ofString "_law_k") 406, Value.str (Str.ofString "_law_many") 407] }
def hob284 : Params → Obj := fun _ => { cls := Value.type "tuple", data := Data.seq #[] }
def hob245 : Params → Obj := fun _ => { cls := Value.type "function", data := Data.func { name := Str.ofString "_law_frac", qualname := Str.ofString "_law_frac", params := hfp 27, body := FuncBody.stmts (hfb 27), scope := hfs 27, globals := 3, closure := [], defaults := Value.none, kwdefaults := Value.none, pyModule := Value.str (Str.ofString "law_uf050018_12") 392, code := Value.ref 195 } }
def hob214 : Params → Obj := fun _ => { cls := Value.type "code", data := Data.fields #[Value.str (Str.ofString "_law_cell_at") 394, Value.str (Str.ofString "_law_cell_at") 395, Value.str (Str.ofString "/claim/cut.py") 396, Value.int 98 0, Value.int 2 0, Value.int 0 0, Value.int 0 0, Value.int 3 0, Value.ref 162, Value.bool true, Value.int 181 0, Value.ref 163, Value.none, Value.ref 164, Value.ref 165, Value.ref 166, Value.int 399 0, Value.int 98 0, Value.str (Str.ofString "/claim/cut.py") 400] }
def hob300 : Params → Obj := fun _ => { cls := Value.type "code", data := Data.fields #[Value.str (Str.ofString "_law_between") 500, Value.str (Str.ofString "_law_between") 501, Value.str (Str.ofString "/claim/cut.py") 502, Value.int 143 0, Value.int 3 0, Value.int 0 0, Value.int 0 0, Value.int 3 0, Value.ref 246, Value.bool true, Value.int 181 0, Value.ref 247, Value.none, Value.ref 248, Value.ref 249, Value.ref 250, Value.int 507 0, Value.int 143 0, Value.str (Str.ofString "/claim/cut.py") 508] }
def hob305 : Params → Obj := fun _ => { cls := Value.type "tuple", data := Data.seq #[] }
def hob174 : Params → Obj := fun _ => { cls := Value.type "tuple", data := Data.seq #[] }
def hob311 : Params → Obj := fun _ => { cls := Value.type "tuple", data := Data.seq #[Value.str (Str.ofString "_law_script") 522, Value.str (Str.ofString "_law_way_here") 523, Value.str (Str.ofString "_law_target") 524, Value.str (Str.ofString "_law_most") 525, Value.str (Str.ofString "_law_left") 526, Value.str (Str.ofString "_law_right") 527, Value.str (Str.ofString "_law_found") 528, Value.str (Str.ofString "_law_near") 529, Value.str (Str.ofString "_law_lower") 530] }
def hob271 : Params → Obj := fun _ => { cls := Value.none, data := Data.func { name := Str.ofString "_law_most_by", qualname := Str.ofString "_law_most_by", params := hfp 31, body := FuncBody.stmts (hfb 31), scope := hfs 31, globals := 0, closure := [], defaults := Value.none, kwdefaults := Value.none } }
def hob73 : Params → Obj := fun _ => { cls := Value.type "frame", slots := #[some (Value.ref 33), some (Value.ref 3), some (Value.ref 30), none, some (Value.str (Str.ofString "nearfrac.errors") 187), none, some (Value.ref 0)] }
def hob139 : Params → Obj := fun _ => { cls := Value.type "tuple", data := Data.seq #[Value.str (Str.ofString "one") 294, Value.str (Str.ofString "other") 295, Value.str (Str.ofString "gap") 296] }
def hob198 : Params → Obj := fun _ => { cls := Value.type "tuple", data := Data.seq #[] }
def hob186 : Params → Obj := fun _ => { cls := Value.type "code", data := Data.fields #[Value.str (Str.ofString "nearest") 348, Value.str (Str.ofString "nearest") 349, Value.str (Str.ofString "/claim/cut.py") 350, Value.int 55 0, Value.int 2 0, Value.int 0 0, Value.int 0 0, Value.int 3 0, Value.ref 134, Value.bool true, Value.int 181 0, Value.ref 135, Value.none, Value.ref 136, Value.ref 137, Value.ref 138, Value.int 357 0, Value.int 55 0, Value.str (Str.ofString "/claim/cut.py") 358] }
def hob165 : Params → Obj := fun _ => { cls := Value.type "code", data := Data.fields #[Value.str (Str.ofString "stepped") 317, Value.str (Str.ofString "stepped") 318, Value.str (Str.ofString "/claim/cut.py") 319, Value.int 35 0, Value.int 3 0, Value.int 0 0, Value.int 0 0, Value.int 3 0, Value.ref 113, Value.bool true, Value.int 181 0, Value.ref 114, Value.none, Value.ref 115, Value.ref 116, Value.ref 117, Value.int 323 0, Value.int 35 0, Value.str (Str.ofString "/claim/cut.py") 324] }
def hob278 : Params → Obj := fun _ => { cls := Value.none, data := Data.func { name := Str.ofString "_law_no_room", qualname := Str.ofString "_law_no_room", params := hfp 32, body := FuncBody.stmts (hfb 32), scope := hfs 32, globals := 0, closure := [], defaults := Value.none, kwdefaults := Value.none } }
def hob289 : Params → Obj := fun _ => { cls := Value.none, data := Data.fields #[] }
def hob223 : Params → Obj := fun _ => { cls := Value.type "tuple", data := Data.seq #[] }
def hob65 : Params → Obj := fun _ => { cls := Value.none, data := Data.fields #[Value.int 2 0, Value.int 0 0, Value.ref 20, Value.int 4 0, Value.int 0 0, Value.ref 33] }
def hob239 : Params → Obj := fun _ => { cls := Value.type "tuple", data := Data.seq #[] }
def hob158 : Params → Obj := fun _ => { cls := Value.type "code", data := Data.fields #[Value.str (Str.ofString "gap") 309, Value.str (Str.ofString "gap") 310, Value.str (Str.ofString "/claim/cut.py") 311, Value.int 33 0, Value.int 2 0, Value.int 0 0, Value.int 0 0, Value.int 3 0, Value.ref 106, Value.bool true, Value.int 181 0, Value.ref 107, Value.none, Value.ref 108, Value.ref 109, Value.ref 110, Value.int 314 0, Value.int 33 0, Value.str (Str.ofString "/claim/cut.py") 315] }
def hob131 : Params → Obj := fun _ => { cls := Value.none, data := Data.fields #[] }
def hob176 : Params → Obj := fun _ => { cls := Value.type "tuple", data := Data.seq #[Value.str (Str.ofString "target") 339, Value.str (Str.ofString "most") 340, Value.str (Str.ofString "left") 341, Value.str (Str.ofString "right") 342, Value.str (Str.ofString "below") 343, Value.str (Str.ofString "above") 344] }
def hob151 : Params → Obj := fun _ => { cls := Value.type "code", data := Data.fields #[Value.str (Str.ofString "need_room") 302, Value.str (Str.ofString "need_room") 303, Value.str (Str.ofString "/claim/cut.py") 304, Value.int 30 0, Value.int 1 0, Value.int 0 0, Value.int 0 0, Value.int 3 0, Value.ref 99, Value.bool true, Value.int 181 0, Value.ref 100, Value.none, Value.ref 101, Value.ref 102, Value.ref 103, Value.int 306 0, Value.int 30 0, Value.str (Str.ofString "/claim/cut.py") 307] }
def hob235 : Params → Obj := fun _ => { cls := Value.type "tuple", data := Data.seq #[] }
def hob175 : Params → Obj := fun _ => { cls := Value.none, data := Data.fields #[] }
def hob100 : Params → Obj := fun _ => { cls := Value.type "tuple", data := Data.seq #[] }
def hob54 : Params → Obj := fun _ => { cls := Value.type "tuple", data := Data.seq #[] }
def hob209 : Params → Obj := fun _ => { cls := Value.type "tuple", data := Data.seq #[] }
def hob145 : Params → Obj := fun _ => { cls := Value.none, data := Data.fields #[Value.int 2 0, Value.int 0 0, Value.ref 20, Value.int 4 0, Value.int 0 0, Value.ref 33, Value.int 6 0, Value.int 0 0, Value.ref 45, Value.int 8 0, Value.int 0 0, Value.ref 57, Value.int 11 0, Value.int 0 0, Value.ref 69, Value.int 13 0, Value.int 0 0, Value.ref 76, Value.int 19 0, Value.int 0 0, Value.ref 83, Value.int 24 0, Value.int 0 0, Value.ref 90, Value.int 26 0, Value.int 0 0, Value.ref 97, Value.int 30 0, Value.int 0 0, Value.ref 104, Value.int 33 0, Value.int 0 0, Value.ref 111, Value.int 35 0, Value.int 0 0, Value.ref 118, Value.int 37 0, Value.int 0 0, Value.ref 125, Value.int 41 0, Value.int 0 0, Value.ref 132, Value.int 55 0, Value.int 0 0, Value.ref 139, Value.int 67 0, Value.int 0 0, Value.ref 146, Value.int 80 0, Value.int 0 0, Value.ref 153, Value.int 95 0, Value.int 0 0, Value.ref 160, Value.int 98 0, Value.int 0 0, Value.ref 167, Value.int 102 0, Value.int 0 0, Value.ref 174, Value.int 104 0, Value.int 0 0, Value.ref 181] }
def hob153 : Params → Obj := fun _ => { cls := Value.type "tuple", data := Data.seq #[] }
def hob262 : Params → Obj := fun _ => { cls := Value.type "tuple", data := Data.seq #[Value.str (Str.ofString "_law_script") 453, Value.str (Str.ofString "_law_first") 454, Value.str (Str.ofString "_law_way_here") 455, Value.str (Str.ofString "_law_upper") 456, Value.str (Str.ofString "_law_lower") 457] }
def hob130 : Params → Obj := fun _ => { cls := Value.type "tuple", data := Data.seq #[] }
def hob80 : Params → Obj := fun _ => { cls := Value.none, data := Data.fields #[Value.int 2 0, Value.int 0 0, Value.ref 20, Value.int 4 0, Value.int 0 0, Value.ref 33, Value.int 6 0, Value.int 0 0, Value.ref 45] }
def hob215 : Params → Obj := fun _ => { cls := Value.type "function", data := Data.func { name := Str.ofString "_law_cell_at", qualname := Str.ofString "_law_cell_at", params := hfp 23, body := FuncBody.stmts (hfb 23), scope := hfs 23, globals := 3, closure := [], defaults := Value.none, kwdefaults := Value.none, pyModule := Value.str (Str.ofString "law_uf050018_12") 392, code := Value.ref 167 } }
def hob88 : Params → Obj := fun _ => { cls := Value.type "frame", slots := #[some (Value.ref 45), some (Value.ref 3), some (Value.ref 42), none, some (Value.str (Str.ofString "nearfrac.errors") 187), none, some (Value.ref 0)] }
def hob286 : Params → Obj := fun _ => { cls := Value.type "code", data := Data.fields #[Value.str (Str.ofString "_law_beats") 478, Value.str (Str.ofString "_law_beats") 479, Value.str (Str.ofString "/claim/cut.py") 480, Value.int 130 0, Value.int 3 0, Value.int 0 0, Value.int 0 0, Value.int 3 0, Value.ref 232, Value.bool true, Value.int 181 0, Value.ref 233, Value.none, Value.ref 234, Value.ref 235, Value.ref 236, Value.int 486 0, Value.int 130 0, Value.str (Str.ofString "/claim/cut.py") 487] }
def hob294 : Params → Obj := fun _ => { cls := Value.type "function", data := Data.func { name := Str.ofString "_law_beats_all", qualname := Str.ofString "_law_beats_all", params := hfp 34, body := FuncBody.stmts (hfb 34), scope := hfs 34, globals := 3, closure := [], defaults := Value.none, kwdefaults := Value.none, pyModule := Value.str (Str.ofString "law_uf050018_12") 392, code := Value.ref 244 } }
def hob295 : Params → Obj := fun _ => { cls := Value.type "tuple", data := Data.seq #[] }
def hob162 : Params → Obj := fun _ => { cls := Value.type "tuple", data := Data.seq #[Value.str (Str.ofString "pair") 320, Value.str (Str.ofString "by") 321, Value.str (Str.ofString "many") 322] }
def hob276 : Params → Obj := fun _ => { cls := Value.type "tuple", data := Data.seq #[Value.str (Str.ofString "_law_kind") 472, Value.str (Str.ofString "_law_cell") 473, Value.str (Str.ofString "_law_some") 474] }
def hob70 : Params → Obj := fun _ => { cls := Value.type "tuple", data := Data.seq #[] }
def hob106 : Params → Obj := fun _ => { cls := Value.type "type", data := Data.cls { name := Str.ofString "NoRoom", bases := [Value.ref 24], mro := [Value.ref 61, Value.ref 24, Value.type "ValueError", Value.type "Exception", Value.type "BaseException", Value.type "object"], ns := 60, qualname := Str.ofString "NoRoom" }, slots := #[some (Value.ref 52), none, some (Value.str (Str.ofString "NoRoom") 239), some (Value.str (Str.ofString "NoRoom") 247), some (Value.builtin "ValueError.__new__"), some (Value.bool true)] }
def hob169 : Params → Obj := fun _ => { cls := Value.type "tuple", data := Data.seq #[Value.str (Str.ofString "most") 329, Value.str (Str.ofString "pair") 330, Value.str (Str.ofString "by") 331, Value.str (Str.ofString "many") 332] }
def hob123 : Params → Obj := fun _ => { cls := Value.type "tuple", data := Data.seq #[] }
def hob164 : Params → Obj := fun _ => { cls := Value.none, data := Data.func { name := Str.ofString "stepped", qualname := Str.ofString "stepped", params := hfp 14, body := FuncBody.stmts (hfb 14), scope := hfs 14, globals := 0, closure := [], defaults := Value.none, kwdefaults := Value.none } }
def hob53 : Params → Obj := fun P => { cls := Value.type "dict", data := Data.dict #[{ hash := PyData.keyHash P (Str.ofString "__module__"), key := Value.str (Str.ofString "__module__") 196, val := Value.str (Str.ofString "nearfrac.errors") 187 }, { hash := PyData.keyHash P (Str.ofString "__qualname__"), key := Value.str (Str.ofString "__qualname__") 198, val := Value.str (Str.ofString "FractionError") 197 }, { hash := PyData.keyHash P (Str.ofString "__firstlineno__"), key := Value.str (Str.ofString "__firstlineno__") 200, val := Value.int 2 199 }, { hash := PyData.keyHash P (Str.ofString "__static_attributes__"), key := Value.str (Str.ofString "__static_attributes__") 201, val := Value.ref 22 }] 4 }
def hob159 : Params → Obj := fun _ => { cls := Value.type "function", data := Data.func { name := Str.ofString "gap", qualname := Str.ofString "gap", params := hfp 13, body := FuncBody.stmts (hfb 13), scope := hfs 13, globals := 3, closure := [], defaults := Value.none, kwdefaults := Value.none, pyModule := Value.str (Str.ofString "nearfrac.near") 300, code := Value.ref 111 } }
def hob315 : Params → Obj := fun _ => { cls := Value.type "function", data := Data.func { name := Str.ofString "law", qualname := Str.ofString "law", params := hfp 37, body := FuncBody.stmts (hfb 37), scope := hfs 37, globals := 3, closure := [], defaults := Value.none, kwdefaults := Value.none, pyModule := Value.str (Str.ofString "law_uf050018_12") 392, code := Value.ref 265 } }
def hob302 : Params → Obj := fun _ => { cls := Value.type "tuple", data := Data.seq #[] }
def hob221 : Params → Obj := fun _ => { cls := Value.type "code", data := Data.fields #[Value.str (Str.ofString "_law_way") 402, Value.str (Str.ofString "_law_way") 403, Value.str (Str.ofString "/claim/cut.py") 404, Value.int 102 0, Value.int 3 0, Value.int 0 0, Value.int 0 0, Value.int 3 0, Value.ref 169, Value.bool true, Value.int 181 0, Value.ref 170, Value.none, Value.ref 171, Value.ref 172, Value.ref 173, Value.int 408 0, Value.int 102 0, Value.str (Str.ofString "/claim/cut.py") 409] }
def hob210 : Params → Obj := fun _ => { cls := Value.none, data := Data.fields #[] }
def hob253 : Params → Obj := fun _ => { cls := Value.type "tuple", data := Data.seq #[] }
def hob288 : Params → Obj := fun _ => { cls := Value.type "tuple", data := Data.seq #[] }
def hob308 : Params → Obj := fun _ => { cls := Value.type "function", data := Data.func { name := Str.ofString "_law_refused", qualname := Str.ofString "_law_refused", params := hfp 36, body := FuncBody.stmts (hfb 36), scope := hfs 36, globals := 3, closure := [], defaults := Value.none, kwdefaults := Value.none, pyModule := Value.str (Str.ofString "law_uf050018_12") 392, code := Value.ref 258 } }
def hob254 : Params → Obj := fun _ => { cls := Value.none, data := Data.fields #[] }
def hob287 : Params → Obj := fun _ => { cls := Value.type "function", data := Data.func { name := Str.ofString "_law_beats", qualname := Str.ofString "_law_beats", params := hfp 33, body := FuncBody.stmts (hfb 33), scope := hfs 33, globals := 3, closure := [], defaults := Value.none, kwdefaults := Value.none, pyModule := Value.str (Str.ofString "law_uf050018_12") 392, code := Value.ref 237 } }
def hob301 : Params → Obj := fun _ => { cls := Value.type "function", data := Data.func { name := Str.ofString "_law_between", qualname := Str.ofString "_law_between", params := hfp 35, body := FuncBody.stmts (hfb 35), scope := hfs 35, globals := 3, closure := [], defaults := Value.none, kwdefaults := Value.none, pyModule := Value.str (Str.ofString "law_uf050018_12") 392, code := Value.ref 251 } }
def hob244 : Params → Obj := fun _ => { cls := Value.type "code", data := Data.fields #[Value.str (Str.ofString "_law_frac") 426, Value.str (Str.ofString "_law_frac") 427, Value.str (Str.ofString "/claim/cut.py") 428, Value.int 110 0, Value.int 2 0, Value.int 0 0, Value.int 0 0, Value.int 3 0, Value.ref 190, Value.bool true, Value.int 181 0, Value.ref 191, Value.none, Value.ref 192, Value.ref 193, Value.ref 194, Value.int 432 0, Value.int 110 0, Value.str (Str.ofString "/claim/cut.py") 433] }
def hob161 : Params → Obj := fun _ => { cls := Value.none, data := Data.fields #[] }
def hob274 : Params → Obj := fun _ => { cls := Value.type "tuple", data := Data.seq #[] }
def hob115 : Params → Obj := fun _ => { cls := Value.type "function", data := Data.func { name := Str.ofString "is_whole", qualname := Str.ofString "is_whole", params := hfp 6, body := FuncBody.stmts (hfb 6), scope := hfs 6, globals := 3, closure := [], defaults := Value.none, kwdefaults := Value.none, pyModule := Value.str (Str.ofString "nearfrac.fracs") 255, code := Value.ref 69 } }
def hob264 : Params → Obj := fun _ => { cls := Value.none, data := Data.func { name := Str.ofString "_law_drawn", qualname := Str.ofString "_law_drawn", params := hfp 30, body := FuncBody.stmts (hfb 30), scope := hfs 30, globals := 0, closure := [], defaults := Value.none, kwdefaults := Value.none } }
def hob91 : Params → Obj := fun _ => { cls := Value.type "type", data := Data.cls { name := Str.ofString "NoPath", bases := [Value.ref 24], mro := [Value.ref 49, Value.ref 24, Value.type "ValueError", Value.type "Exception", Value.type "BaseException", Value.type "object"], ns := 48, qualname := Str.ofString "NoPath" }, slots := #[some (Value.ref 40), none, some (Value.str (Str.ofString "NoPath") 223), some (Value.str (Str.ofString "NoPath") 231), some (Value.builtin "ValueError.__new__"), some (Value.bool true)] }
def hob309 : Params → Obj := fun _ => { cls := Value.type "tuple", data := Data.seq #[] }
def hob112 : Params → Obj := fun _ => { cls := Value.type "tuple", data := Data.seq #[] }
def hob234 : Params → Obj := fun _ => { cls := Value.type "tuple", data := Data.seq #[Value.str (Str.ofString "_law_one") 421, Value.str (Str.ofString "_law_other") 422] }
def hob197 : Params → Obj := fun _ => { cls := Value.type "tuple", data := Data.seq #[Value.str (Str.ofString "frac") 377, Value.str (Str.ofString "upper") 378, Value.str (Str.ofString "lower") 379, Value.str (Str.ofString "path") 380, Value.str (Str.ofString "many") 381] }
def hob77 : Params → Obj := fun _ => { cls := Value.type "super", data := Data.fields #[Value.ref 37, Value.ref 37, Value.ref 37] }
def hob280 : Params → Obj := fun _ => { cls := Value.type "function", data := Data.func { name := Str.ofString "_law_no_room", qualname := Str.ofString "_law_no_room", params := hfp 32, body := FuncBody.stmts (hfb 32), scope := hfs 32, globals := 3, closure := [], defaults := Value.none, kwdefaults := Value.none, pyModule := Value.str (Str.ofString "law_uf050018_12") 392, code := Value.ref 230 } }
def hob225 : Params → Obj := fun _ => { cls := Value.type "tuple", data := Data.seq #[Value.str (Str.ofString "_law_found") 414] }
def hob226 : Params → Obj := fun _ => { cls := Value.type "tuple", data := Data.seq #[] }
def hob196 : Params → Obj := fun _ => { cls := Value.none, data := Data.fields #[] }
def hob81 : Params → Obj := fun _ => { cls := Value.type "type", data := Data.cls { name := Str.ofString "FractionError", bases := [Value.type "ValueError"], mro := [Value.ref 24, Value.type "ValueError", Value.type "Exception", Value.type "BaseException", Value.type "object"], ns := 23, qualname := Str.ofString "FractionError", subclasses := [Value.ref 37, Value.ref 49] }, slots := #[some (Value.ref 15), none, some (Value.str (Str.ofString "FractionError") 189), some (Value.str (Str.ofString "FractionError") 197), some (Value.builtin "ValueError.__new__"), some (Value.bool true)] }
def hob283 : Params → Obj := fun _ => { cls := Value.type "tuple", data := Data.seq #[Value.str (Str.ofString "_law_found") 481, Value.str (Str.ofString "_law_other") 482, Value.str (Str.ofString "_law_target") 483, Value.str (Str.ofString "_law_mine") 484, Value.str (Str.ofString "_law_theirs") 485] }
def hob132 : Params → Obj := fun _ => { cls := Value.type "tuple", data := Data.seq #[Value.str (Str.ofString "one") 286, Value.str (Str.ofString "other") 287] }
def hob206 : Params → Obj := fun _ => { cls := Value.none, data := Data.func { name := Str.ofString "sides", qualname := Str.ofString "sides", params := hfp 21, body := FuncBody.stmts (hfb 21), scope := hfs 21, globals := 0, closure := [], defaults := Value.none, kwdefaults := Value.none } }
def hob71 : Params → Obj := fun _ => { cls := Value.none, data := Data.fields #[] }
def hob105 : Params → Obj := fun P => { cls := Value.type "dict", data := Data.dict #[{ hash := PyData.keyHash P (Str.ofString "__module__"), key := Value.str (Str.ofString "__module__") 246, val := Value.str (Str.ofString "nearfrac.errors") 187 }, { hash := PyData.keyHash P (Str.ofString "__firstlineno__"), key := Value.str (Str.ofString "__firstlineno__") 250, val := Value.int 8 249 }, { hash := PyData.keyHash P (Str.ofString "__static_attributes__"), key := Value.str (Str.ofString "__static_attributes__") 251, val := Value.ref 59 }, { hash := PyData.keyHash P (Str.ofString "__doc__"), key := Value.str (Str.ofString "__doc__") 252, val := Value.none }] 2 }
def hob258 : Params → Obj := fun _ => { cls := Value.type "code", data := Data.fields #[Value.str (Str.ofString "_law_number") 442, Value.str (Str.ofString "_law_number") 443, Value.str (Str.ofString "/claim/cut.py") 444, Value.int 119 0, Value.int 2 0, Value.int 0 0, Value.int 0 0, Value.int 3 0, Value.ref 204, Value.bool true, Value.int 181 0, Value.ref 205, Value.none, Value.ref 206, Value.ref 207, Value.ref 208, Value.int 447 0, Value.int 119 0, Value.str (Str.ofString "/claim/cut.py") 448] }
def hob60 : Params → Obj := fun _ => { cls := Value.type "type", data := Data.cls { name := Str.ofString "FractionError", bases := [Value.type "ValueError"], mro := [Value.ref 24, Value.type "ValueError", Value.type "Exception", Value.type "BaseException", Value.type "object"], ns := 23, qualname := Str.ofString "FractionError" }, slots := #[some (Value.ref 15), none, some (Value.str (Str.ofString "FractionError") 189), some (Value.str (Str.ofString "FractionError") 197), some (Value.builtin "ValueError.__new__"), some (Value.bool true)] }
def hob122 : Params → Obj := fun _ => { cls := Value.type "function", data := Data.func { name := Str.ofString "divisor", qualname := Str.ofString "divisor", params := hfp 7, body := FuncBody.stmts (hfb 7), scope := hfs 7, globals := 3, closure := [], defaults := Value.none, kwdefaults := Value.none, pyModule := Value.str (Str.ofString "nearfrac.fracs") 255, code := Value.ref 76 } }
def hob252 : Params → Obj := fun _ => { cls := Value.type "function", data := Data.func { name := Str.ofString "_law_is_frac", qualname := Str.ofString "_law_is_frac", params := hfp 28, body := FuncBody.stmts (hfb 28), scope := hfs 28, globals := 3, closure := [], defaults := Value.none, kwdefaults := Value.none, pyModule := Value.str (Str.ofString "law_uf050018_12") 392, code := Value.ref 202 } }
def hob187 : Params → Obj := fun _ => { cls := Value.type "function", data := Data.func { name := Str.ofString "nearest", qualname := Str.ofString "nearest", params := hfp 17, body := FuncBody.stmts (hfb 17), scope := hfs 17, globals := 3, closure := [], defaults := Value.none, kwdefaults := Value.none, pyModule := Value.str (Str.ofString "nearfrac.near") 300, code := Value.ref 139 } }
def hob103 : Params → Obj := fun _ => { cls := Value.type "frame", slots := #[some (Value.ref 57), some (Value.ref 3), some (Value.ref 54), none, some (Value.str (Str.ofString "nearfrac.errors") 187), none, some (Value.ref 0)] }
def hob157 : Params → Obj := fun _ => { cls := Value.none, data := Data.func { name := Str.ofString "gap", qualname := Str.ofString "gap", params := hfp 13, body := FuncBody.stmts (hfb 13), scope := hfs 13, globals := 0, closure := [], defaults := Value.none, kwdefaults := Value.none } }
def hob243 : Params → Obj := fun _ => { cls := Value.none, data := Data.func { name := Str.ofString "_law_frac", qualname := Str.ofString "_law_frac", params := hfp 27, body := FuncBody.stmts (hfb 27), scope := hfs 27, globals := 0, closure := [], defaults := Value.none, kwdefaults := Value.none } }
def hob56 : Params → Obj := fun _ => { cls := Value.type "code", data := Data.fields #[Value.str (Str.ofString "FractionError") 191, Value.str (Str.ofString "FractionError") 192, Value.str (Str.ofString "/claim/cut.py") 193, Value.int 2 0, Value.int 0 0, Value.int 0 0, Value.int 0 0, Value.int 0 0, Value.ref 18, Value.bool false, Value.int 181 0, Value.ref 19, Value.none, Value.none, Value.none, Value.none, Value.int 194 0, Value.int 2 0, Value.str (Str.ofString "/claim/cut.py") 195] }
def hob49 : Params → Obj := fun P => { cls := Value.type "dict", data := Data.dict #[{ hash := PyData.keyHash P (Str.ofString "__name__"), key := Value.str (Str.ofString "__name__") 165, val := Value.str (Str.ofString "nearfrac.errors") 187 }, { hash := PyData.keyHash P (Str.ofString "__doc__"), key := Value.str (Str.ofString "__doc__") 166, val := Value.none }, { hash := PyData.keyHash P (Str.ofString "__package__"), key := Value.str (Str.ofString "__package__") 167, val := Value.none }, { hash := PyData.keyHash P (Str.ofString "__loader__"), key := Value.str (Str.ofString "__loader__") 168, val := Value.builtin "__main__.__loader__#opaque" }, { hash := PyData.keyHash P (Str.ofString "__spec__"), key := Value.str (Str.ofString "__spec__") 169, val := Value.none }, { hash := PyData.keyHash P (Str.ofString "__annotations__"), key := Value.str (Str.ofString "__annotations__") 170, val := Value.ref 6 }, { hash := PyData.keyHash P (Str.ofString "__builtins__"), key := Value.str (Str.ofString "__builtins__") 171, val := Value.ref 4 }, { hash := PyData.keyHash P (Str.ofString "__file__"), key := Value.str (Str.ofString "__file__") 173, val := Value.str (Str.ofString "/claim/cut.py") 172 }, { hash := PyData.keyHash P (Str.ofString "__cached__"), key := Value.str (Str.ofString "__cached__") 174, val := Value.none }, { hash := PyData.keyHash P (Str.ofString "FractionError"), key := Value.str (Str.ofString "FractionError") 206, val := Value.ref 24 }] 10 }
def hob62 : Params → Obj := fun _ => { cls := Value.type "super", data := Data.fields #[Value.ref 24, Value.ref 24, Value.ref 24] }
def hob211 : Params → Obj := fun _ => { cls := Value.type "tuple", data := Data.seq #[Value.str (Str.ofString "_law_script") 397, Value.str (Str.ofString "_law_k") 398] }
def hob167 : Params → Obj := fun _ => { cls := Value.type "tuple", data := Data.seq #[] }
def hob50 : Params → Obj := fun _ => { cls := Value.none, data := Data.fields #[Value.int 2 0, Value.int 0 0, Value.ref 20] }
def hob304 : Params → Obj := fun _ => { cls := Value.type "tuple", data := Data.seq #[Value.str (Str.ofString "_law_target") 513, Value.str (Str.ofString "_law_most") 514, Value.str (Str.ofString "e") 515] }
def hob172 : Params → Obj := fun _ => { cls := Value.type "code", data := Data.fields #[Value.str (Str.ofString "fitting") 326, Value.str (Str.ofString "fitting") 327, Value.str (Str.ofString "/claim/cut.py") 328, Value.int 37 0, Value.int 4 0, Value.int 0 0, Value.int 0 0, Value.int 3 0, Value.ref 120, Value.bool true, Value.int 181 0, Value.ref 121, Value.none, Value.ref 122, Value.ref 123, Value.ref 124, Value.int 333 0, Value.int 37 0, Value.str (Str.ofString "/claim/cut.py") 334] }
def hob155 : Params → Obj := fun _ => { cls := Value.type "tuple", data := Data.seq #[Value.str (Str.ofString "one") 312, Value.str (Str.ofString "other") 313] }
def hob263 : Params → Obj := fun _ => { cls := Value.type "tuple", data := Data.seq #[] }
def hob67 : Params → Obj := fun _ => { cls := Value.type "tuple", data := Data.seq #[Value.ref 24] }
def hob307 : Params → Obj := fun _ => { cls := Value.type "code", data := Data.fields #[Value.str (Str.ofString "_law_refused") 510, Value.str (Str.ofString "_law_refused") 511, Value.str (Str.ofString "/claim/cut.py") 512, Value.int 148 0, Value.int 2 0, Value.int 0 0, Value.int 0 0, Value.int 3 0, Value.ref 253, Value.bool true, Value.int 181 0, Value.ref 254, Value.none, Value.ref 255, Value.ref 256, Value.ref 257, Value.int 516 0, Value.int 148 0, Value.str (Str.ofString "/claim/cut.py") 517] }
def hob293 : Params → Obj := fun _ => { cls := Value.type "code", data := Data.fields #[Value.str (Str.ofString "_law_beats_all") 489, Value.str (Str.ofString "_law_beats_all") 490, Value.str (Str.ofString "/claim/cut.py") 491, Value.int 137 0, Value.int 3 0, Value.int 0 0, Value.int 0 0, Value.int 3 0, Value.ref 239, Value.bool true, Value.int 181 0, Value.ref 240, Value.none, Value.ref 241, Value.ref 242, Value.ref 243, Value.int 497 0, Value.int 137 0, Value.str (Str.ofString "/claim/cut.py") 498] }
def hob269 : Params → Obj := fun _ => { cls := Value.type "tuple", data := Data.seq #[Value.str (Str.ofString "_law_cell") 464, Value.str (Str.ofString "_law_way_here") 465] }
def hob97 : Params → Obj := fun _ => { cls := Value.type "tuple", data := Data.seq #[Value.ref 24] }
def hob137 : Params → Obj := fun _ => { cls := Value.type "tuple", data := Data.seq #[] }
def hob202 : Params → Obj := fun _ => { cls := Value.type "tuple", data := Data.seq #[] }
def hob140 : Params → Obj := fun _ => { cls := Value.type "tuple", data := Data.seq #[] }
def hob148 : Params → Obj := fun _ => { cls := Value.type "tuple", data := Data.seq #[Value.str (Str.ofString "most") 305] }
def hob76 : Params → Obj := fun _ => { cls := Value.type "type", data := Data.cls { name := Str.ofString "NoFraction", bases := [Value.ref 24], mro := [Value.ref 37, Value.ref 24, Value.type "ValueError", Value.type "Exception", Value.type "BaseException", Value.type "object"], ns := 36, qualname := Str.ofString "NoFraction" }, slots := #[some (Value.ref 28), none, some (Value.str (Str.ofString "NoFraction") 207), some (Value.str (Str.ofString "NoFraction") 215), some (Value.builtin "ValueError.__new__"), some (Value.bool true)] }
def hob129 : Params → Obj := fun _ => { cls := Value.type "function", data := Data.func { name := Str.ofString "lowest", qualname := Str.ofString "lowest", params := hfp 8, body := FuncBody.stmts (hfb 8), scope := hfs 8, globals := 3, closure := [], defaults := Value.none, kwdefaults := Value.none, pyModule := Value.str (Str.ofString "nearfrac.fracs") 255, code := Value.ref 83 } }
def hob64 : Params → Obj := fun P => { cls := Value.type "dict", data := Data.dict #[{ hash := PyData.keyHash P (Str.ofString "__name__"), key := Value.str (Str.ofString "__name__") 165, val := Value.str (Str.ofString "nearfrac.errors") 187 }, { hash := PyData.keyHash P (Str.ofString "__doc__"), key := Value.str (Str.ofString "__doc__") 166, val := Value.none }, { hash := PyData.keyHash P (Str.ofString "__package__"), key := Value.str (Str.ofString "__package__") 167, val := Value.none }, { hash := PyData.keyHash P (Str.ofString "__loader__"), key := Value.str (Str.ofString "__loader__") 168, val := Value.builtin "__main__.__loader__#opaque" }, { hash := PyData.keyHash P (Str.ofString "__spec__"), key := Value.str (Str.ofString "__spec__") 169, val := Value.none }, { hash := PyData.keyHash P (Str.ofString "__annotations__"), key := Value.str (Str.ofString "__annotations__") 170, val := Value.ref 6 }, { hash := PyData.keyHash P (Str.ofString "__builtins__"), key := Value.str (Str.ofString "__builtins__") 171, val := Value.ref 4 }, { hash := PyData.keyHash P (Str.ofString "__file__"), key := Value.str (Str.ofString "__file__") 173, val := Value.str (Str.ofString "/claim/cut.py") 172 }, { hash := PyData.keyHash P (Str.ofString "__cached__"), key := Value.str (Str.ofString "__cached__") 174, val := Value.none }, { hash := PyData.keyHash P (Str.ofString "FractionError"), key := Value.str (Str.ofString "FractionError") 206, val := Value.ref 24 }, { hash := PyData.keyHash P (Str.ofString "NoFraction"), key := Value.str (Str.ofString "NoFraction") 222, val := Value.ref 37 }] 11 }
def hob246 : Params → Obj := fun _ => { cls := Value.type "tuple", data := Data.seq #[] }
def hob270 : Params → Obj := fun _ => { cls := Value.type "tuple", data := Data.seq #[] }
def hob150 : Params → Obj := fun _ => { cls := Value.none, data := Data.func { name := Str.ofString "need_room", qualname := Str.ofString "need_room", params := hfp 12, body := FuncBody.stmts (hfb 12), scope := hfs 12, globals := 0, closure := [], defaults := Value.none, kwdefaults := Value.none } }
def hob127 : Params → Obj := fun _ => { cls := Value.none, data := Data.func { name := Str.ofString "lowest", qualname := Str.ofString "lowest", params := hfp 8, body := FuncBody.stmts (hfb 8), scope := hfs 8, globals := 0, closure := [], defaults := Value.none, kwdefaults := Value.none } }
def hob266 : Params → Obj := fun _ => { cls := Value.type "function", data := Data.func { name := Str.ofString "_law_drawn", qualname := Str.ofString "_law_drawn", params := hfp 30, body := FuncBody.stmts (hfb 30), scope := hfs 30, globals := 3, closure := [], defaults := Value.none, kwdefaults := Value.none, pyModule := Value.str (Str.ofString "law_uf050018_12") 392, code := Value.ref 216 } }
def hob249 : Params → Obj := fun _ => { cls := Value.type "tuple", data := Data.seq #[] }
def hob242 : Params → Obj := fun _ => { cls := Value.type "tuple", data := Data.seq #[] }
def hob201 : Params → Obj := fun _ => { cls := Value.type "function", data := Data.func { name := Str.ofString "path_of", qualname := Str.ofString "path_of", params := hfp 20, body := FuncBody.stmts (hfb 20), scope := hfs 20, globals := 3, closure := [], defaults := Value.none, kwdefaults := Value.none, pyModule := Value.str (Str.ofString "nearfrac.tree") 360, code := Value.ref 153 } }
def hob208 : Params → Obj := fun _ => { cls := Value.type "function", data := Data.func { name := Str.ofString "sides", qualname := Str.ofString "sides", params := hfp 21, body := FuncBody.stmts (hfb 21), scope := hfs 21, globals := 3, closure := [], defaults := Value.none, kwdefaults := Value.none, pyModule := Value.str (Str.ofString "nearfrac.tree") 360, code := Value.ref 160 } }
def hob134 : Params → Obj := fun _ => { cls := Value.none, data := Data.func { name := Str.ofString "less", qualname := Str.ofString "less", params := hfp 9, body := FuncBody.stmts (hfb 9), scope := hfs 9, globals := 0, closure := [], defaults := Value.none, kwdefaults := Value.none } }
def hob87 : Params → Obj := fun _ => { cls := Value.type "code", data := Data.fields #[Value.str (Str.ofString "NoPath") 225, Value.str (Str.ofString "NoPath") 226, Value.str (Str.ofString "/claim/cut.py") 227, Value.int 6 0, Value.int 0 0, Value.int 0 0, Value.int 0 0, Value.int 0 0, Value.ref 43, Value.bool false, Value.int 181 0, Value.ref 44, Value.none, Value.none, Value.none, Value.none, Value.int 228 0, Value.int 6 0, Value.str (Str.ofString "/claim/cut.py") 229] }
def hob125 : Params → Obj := fun _ => { cls := Value.type "tuple", data := Data.seq #[Value.str (Str.ofString "upper") 277, Value.str (Str.ofString "lower") 278, Value.str (Str.ofString "many") 279] }
def hob265 : Params → Obj := fun _ => { cls := Value.type "code", data := Data.fields #[Value.str (Str.ofString "_law_drawn") 450, Value.str (Str.ofString "_law_drawn") 451, Value.str (Str.ofString "/claim/cut.py") 452, Value.int 121 0, Value.int 3 0, Value.int 0 0, Value.int 0 0, Value.int 3 0, Value.ref 211, Value.bool true, Value.int 181 0, Value.ref 212, Value.none, Value.ref 213, Value.ref 214, Value.ref 215, Value.int 458 0, Value.int 121 0, Value.str (Str.ofString "/claim/cut.py") 459] }
def hob119 : Params → Obj := fun _ => { cls := Value.type "tuple", data := Data.seq #[] }
def hob52 : Params → Obj := fun _ => { cls := Value.type "builtin_function_or_method", data := Data.fields #[Value.builtin "type.__prepare__", Value.type "type"] }
def hob224 : Params → Obj := fun _ => { cls := Value.none, data := Data.fields #[] }
def hob126 : Params → Obj := fun _ => { cls := Value.type "tuple", data := Data.seq #[] }
def hob303 : Params → Obj := fun _ => { cls := Value.none, data := Data.fields #[] }
def hob298 : Params → Obj := fun _ => { cls := Value.type "tuple", data := Data.seq #[] }
def hob113 : Params → Obj := fun _ => { cls := Value.none, data := Data.func { name := Str.ofString "is_whole", qualname := Str.ofString "is_whole", params := hfp 6, body := FuncBody.stmts (hfb 6), scope := hfs 6, globals := 0, closure := [], defaults := Value.none, kwdefaults := Value.none } }
def hob117 : Params → Obj := fun _ => { cls := Value.none, data := Data.fields #[] }
def hob173 : Params → Obj := fun _ => { cls := Value.type "function", data := Data.func { name := Str.ofString "fitting", qualname := Str.ofString "fitting", params := hfp 15, body := FuncBody.stmts (hfb 15), scope := hfs 15, globals := 3, closure := [], defaults := Value.none, kwdefaults := Value.none, pyModule := Value.str (Str.ofString "nearfrac.near") 300, code := Value.ref 125 } }
def hob154 : Params → Obj := fun _ => { cls := Value.none, data := Data.fields #[] }
def hob256 : Params → Obj := fun _ => { cls := Value.type "tuple", data := Data.seq #[] }
def hob99 : Params → Obj := fun P => { cls := Value.type "dict", data := Data.dict #[{ hash := PyData.keyHash P (Str.ofString "__module__"), key := Value.str (Str.ofString "__module__") 246, val := Value.str (Str.ofString "nearfrac.errors") 187 }, { hash := PyData.keyHash P (Str.ofString "__qualname__"), key := Value.str (Str.ofString "__qualname__") 248, val := Value.str (Str.ofString "NoRoom") 247 }, { hash := PyData.keyHash P (Str.ofString "__firstlineno__"), key := Value.str (Str.ofString "__firstlineno__") 250, val := Value.int 8 249 }, { hash := PyData.keyHash P (Str.ofString "__static_attributes__"), key := Value.str (Str.ofString "__static_attributes__") 251, val := Value.ref 59 }] 4 }
def hob143 : Params → Obj := fun _ => { cls := Value.type "function", data := Data.func { name := Str.ofString "apart", qualname := Str.ofString "apart", params := hfp 10, body := FuncBody.stmts (hfb 10), scope := hfs 10, globals := 3, closure := [], defaults := Value.none, kwdefaults := Value.none, pyModule := Value.str (Str.ofString "nearfrac.fracs") 255, code := Value.ref 97 } }
def hob275 : Params → Obj := fun _ => { cls := Value.none, data := Data.fields #[] }
def hob222 : Params → Obj := fun _ => { cls := Value.type "function", data := Data.func { name := Str.ofString "_law_way", qualname := Str.ofString "_law_way", params := hfp 24, body := FuncBody.stmts (hfb 24), scope := hfs 24, globals := 3, closure := [], defaults := Value.none, kwdefaults := Value.none, pyModule := Value.str (Str.ofString "law_uf050018_12") 392, code := Value.ref 174 } }
def hob101 : Params → Obj := fun _ => { cls := Value.none, data := Data.fields #[] }
def hob184 : Params → Obj := fun _ => { cls := Value.type "tuple", data := Data.seq #[] }
def hob96 : Params → Obj := fun _ => { cls := Value.type "type", data := Data.cls { name := Str.ofString "FractionError", bases := [Value.type "ValueError"], mro := [Value.ref 24, Value.type "ValueError", Value.type "Exception", Value.type "BaseException", Value.type "object"], ns := 23, qualname := Str.ofString "FractionError", subclasses := [Value.ref 37, Value.ref 49, Value.ref 61] }, slots := #[some (Value.ref 15), none, some (Value.str (Str.ofString "FractionError") 189), some (Value.str (Str.ofString "FractionError") 197), some (Value.builtin "ValueError.__new__"), some (Value.bool true)] }
def ht78 (P : Params) : BT := (.node (boot_o_0 P) (.node (boot_o_1 P) (.node (hob64 P) (.node (boot_o_7 P) (.node (hob51 P) (.node (hob70 P) .nil .nil) .nil) (.node (hob59 P) (.node (hob78 P) .nil .nil) .nil)) (.node (hob43 P) (.node (hob55 P) (.node (hob74 P) .nil .nil) .nil) (.node (hob63 P) .nil .nil))) (.node (boot_o_5 P) (.node (boot_o_9 P) (.node (hob53 P) (.node (hob72 P) .nil .nil) .nil) (.node (hob61 P) .nil .nil)) (.node (hob45 P) (.node (hob57 P) (.node (hob76 P) .nil .nil) .nil) (.node (hob68 P) .nil .nil)))) (.node (boot_o_2 P) (.node (boot_o_4 P) (.node (boot_o_8 P) (.node (hob52 P) (.node (hob71 P) .nil .nil) .nil) (.node (hob66 P) .nil .nil)) (.node (hob65 P) (.node (hob56 P) (.node (hob75 P) .nil .nil) .nil) (.node (hob67 P) .nil .nil))) (.node (boot_o_6 P) (.node (boot_o_10 P) (.node (hob54 P) (.node (hob73 P) .nil .nil) .nil) (.node (hob62 P) .nil .nil)) (.node (hob46 P) (.node (hob58 P) (.node (hob77 P) .nil .nil) .nil) (.node (hob69 P) .nil .nil)))))
def ht143 (P : Params) : BT := (.node (boot_o_0 P) (.node (boot_o_1 P) (.node (hob94 P) (.node (boot_o_7 P) (.node (hob51 P) (.node (hob70 P) (.node (hob108 P) .nil .nil) (.node (hob140 P) .nil .nil)) (.node (hob89 P) (.node (hob124 P) .nil .nil) .nil)) (.node (hob59 P) (.node (hob78 P) (.node (hob116 P) .nil .nil) .nil) (.node (hob100 P) (.node (hob132 P) .nil .nil) .nil))) (.node (hob43 P) (.node (hob55 P) (.node (hob74 P) (.node (hob112 P) .nil .nil) .nil) (.node (hob93 P) (.node (hob128 P) .nil .nil) .nil)) (.node (hob63 P) (.node (hob85 P) (.node (hob120 P) .nil .nil) .nil) (.node (hob104 P) (.node (hob136 P) .nil .nil) .nil)))) (.node (boot_o_5 P) (.node (boot_o_9 P) (.node (hob53 P) (.node (hob72 P) (.node (hob110 P) .nil .nil) (.node (hob142 P) .nil .nil)) (.node (hob91 P) (.node (hob126 P) .nil .nil) .nil)) (.node (hob61 P) (.node (hob83 P) (.node (hob118 P) .nil .nil) .nil) (.node (hob102 P) (.node (hob134 P) .nil .nil) .nil))) (.node (hob45 P) (.node (hob57 P) (.node (hob76 P) (.node (hob114 P) .nil .nil) .nil) (.node (hob98 P) (.node (hob130 P) .nil .nil) .nil)) (.node (hob68 P) (.node (hob87 P) (.node (hob122 P) .nil .nil) .nil) (.node (hob106 P) (.node (hob138 P) .nil .nil) .nil))))) (.node (boot_o_2 P) (.node (boot_o_4 P) (.node (boot_o_8 P) (.node (hob52 P) (.node (hob71 P) (.node (hob109 P) .nil .nil) (.node (hob141 P) .nil .nil)) (.node (hob90 P) (.node (hob125 P) .nil .nil) .nil)) (.node (hob96 P) (.node (hob82 P) (.node (hob117 P) .nil .nil) .nil) (.node (hob101 P) (.node (hob133 P) .nil .nil) .nil))) (.node (hob95 P) (.node (hob56 P) (.node (hob75 P) (.node (hob113 P) .nil .nil) .nil) (.node (hob97 P) (.node (hob129 P) .nil .nil) .nil)) (.node (hob67 P) (.node (hob86 P) (.node (hob121 P) .nil .nil) .nil) (.node (hob105 P) (.node (hob137 P) .nil .nil) .nil)))) (.node (boot_o_6 P) (.node (boot_o_10 P) (.node (hob54 P) (.node (hob73 P) (.node (hob111 P) .nil .nil) (.node (hob143 P) .nil .nil)) (.node (hob92 P) (.node (hob127 P) .nil .nil) .nil)) (.node (hob62 P) (.node (hob84 P) (.node (hob119 P) .nil .nil) .nil) (.node (hob103 P) (.node (hob135 P) .nil .nil) .nil))) (.node (hob46 P) (.node (hob58 P) (.node (hob77 P) (.node (hob115 P) .nil .nil) .nil) (.node (hob99 P) (.node (hob131 P) .nil .nil) .nil)) (.node (hob69 P) (.node (hob88 P) (.node (hob123 P) .nil .nil) .nil) (.node (hob107 P) (.node (hob139 P) .nil .nil) .nil))))))
def hh316 (P : Params) : Heap := ⟨Array.mk [boot_o_0 P, boot_o_1 P, boot_o_2 P, hob230 P, boot_o_4 P, boot_o_5 P, boot_o_6 P, boot_o_7 P, boot_o_8 P, boot_o_9 P, boot_o_10 P, hob43 P, hob231 P, hob45 P, hob46 P, hob51 P, hob52 P, hob53 P, hob54 P, hob55 P, hob56 P, hob57 P, hob58 P, hob59 P, hob96 P, hob61 P, hob62 P, hob63 P, hob67 P, hob68 P, hob69 P, hob70 P, hob71 P, hob72 P, hob73 P, hob74 P, hob75 P, hob76 P, hob77 P, hob78 P, hob82 P, hob83 P, hob84 P, hob85 P, hob86 P, hob87 P, hob88 P, hob89 P, hob90 P, hob91 P, hob92 P, hob93 P, hob97 P, hob98 P, hob99 P, hob100 P, hob101 P, hob102 P, hob103 P, hob104 P, hob105 P, hob106 P, hob107 P, hob108 P, hob109 P, hob110 P, hob111 P, hob112 P, hob113 P, hob114 P, hob115 P, hob116 P, hob117 P, hob118 P, hob119 P, hob120 P, hob121 P, hob122 P, hob123 P, hob124 P, hob125 P, hob126 P, hob127 P, hob128 P, hob129 P, hob130 P, hob131 P, hob132 P, hob133 P, hob134 P, hob135 P, hob136 P, hob137 P, hob138 P, hob139 P, hob140 P, hob141 P, hob142 P, hob143 P, hob146 P, hob147 P, hob148 P, hob149 P, hob150 P, hob151 P, hob152 P, hob153 P, hob154 P, hob155 P, hob156 P, hob157 P, hob158 P, hob159 P, hob160 P, hob161 P, hob162 P, hob163 P, hob164 P, hob165 P, hob166 P, hob167 P, hob168 P, hob169 P, hob170 P, hob171 P, hob172 P, hob173 P, hob174 P, hob175 P, hob176 P, hob177 P, hob178 P, hob179 P, hob180 P, hob181 P, hob182 P, hob183 P, hob184 P, hob185 P, hob186 P, hob187 P, hob188 P, hob189 P, hob190 P, hob191 P, hob192 P, hob193 P, hob194 P, hob195 P, hob196 P, hob197 P, hob198 P, hob199 P, hob200 P, hob201 P, hob202 P, hob203 P, hob204 P, hob205 P, hob206 P, hob207 P, hob208 P, hob209 P, hob210 P, hob211 P, hob212 P, hob213 P, hob214 P, hob215 P, hob216 P, hob217 P, hob218 P, hob219 P, hob220 P, hob221 P, hob222 P, hob223 P, hob224 P, hob225 P, hob226 P, hob227 P, hob228 P, hob229 P, hob232 P, hob233 P, hob234 P, hob235 P, hob236 P, hob237 P, hob238 P, hob239 P, hob240 P, hob241 P, hob242 P, hob243 P, hob244 P, hob245 P, hob246 P, hob247 P, hob248 P, hob249 P, hob250 P, hob251 P, hob252 P, hob253 P, hob254 P, hob255 P, hob256 P, hob257 P, hob258 P, hob259 P, hob260 P, hob261 P, hob262 P, hob263 P, hob264 P, hob265 P, hob266 P, hob267 P, hob268 P, hob269 P, hob270 P, hob271 P, hob272 P, hob273 P, hob274 P, hob275 P, hob276 P, hob277 P, hob278 P, hob279 P, hob280 P, hob281 P, hob282 P, hob283 P, hob284 P, hob285 P, hob286 P, hob287 P, hob288 P, hob289 P, hob290 P, hob291 P, hob292 P, hob293 P, hob294 P, hob295 P, hob296 P, hob297 P, hob298 P, hob299 P, hob300 P, hob301 P, hob302 P, hob303 P, hob304 P, hob305 P, hob306 P, hob307 P, hob308 P, hob309 P, hob310 P, hob311 P, hob312 P, hob313 P, hob314 P, hob315 P], {}⟩
def ht47 (P : Params) : BT := (.node (boot_o_0 P) (.node (boot_o_1 P) (.node (boot_o_3 P) (.node (boot_o_7 P) .nil .nil) (.node (hob43 P) .nil .nil)) (.node (boot_o_5 P) (.node (boot_o_9 P) .nil .nil) (.node (hob45 P) .nil .nil))) (.node (boot_o_2 P) (.node (boot_o_4 P) (.node (boot_o_8 P) .nil .nil) (.node (hob44 P) .nil .nil)) (.node (boot_o_6 P) (.node (boot_o_10 P) .nil .nil) (.node (hob46 P) .nil .nil))))
def ht315 (P : Params) : BT := (.node (boot_o_0 P) (.node (boot_o_1 P) (.node (hob230 P) (.node (boot_o_7 P) (.node (hob51 P) (.node (hob70 P) (.node (hob108 P) (.node (hob174 P) (.node (hob304 P) .nil .nil) .nil) (.node (hob240 P) .nil .nil)) (.node (hob140 P) (.node (hob206 P) .nil .nil) (.node (hob272 P) .nil .nil))) (.node (hob89 P) (.node (hob124 P) (.node (hob190 P) .nil .nil) (.node (hob256 P) .nil .nil)) (.node (hob158 P) (.node (hob222 P) .nil .nil) (.node (hob288 P) .nil .nil)))) (.node (hob59 P) (.node (hob78 P) (.node (hob116 P) (.node (hob182 P) (.node (hob312 P) .nil .nil) .nil) (.node (hob248 P) .nil .nil)) (.node (hob150 P) (.node (hob214 P) .nil .nil) (.node (hob280 P) .nil .nil))) (.node (hob100 P) (.node (hob132 P) (.node (hob198 P) .nil .nil) (.node (hob264 P) .nil .nil)) (.node (hob166 P) (.node (hob232 P) .nil .nil) (.node (hob296 P) .nil .nil))))) (.node (hob43 P) (.node (hob55 P) (.node (hob74 P) (.node (hob112 P) (.node (hob178 P) (.node (hob308 P) .nil .nil) .nil) (.node (hob244 P) .nil .nil)) (.node (hob146 P) (.node (hob210 P) .nil .nil) (.node (hob276 P) .nil .nil))) (.node (hob93 P) (.node (hob128 P) (.node (hob194 P) .nil .nil) (.node (hob260 P) .nil .nil)) (.node (hob162 P) (.node (hob226 P) .nil .nil) (.node (hob292 P) .nil .nil)))) (.node (hob63 P) (.node (hob85 P) (.node (hob120 P) (.node (hob186 P) .nil .nil) (.node (hob252 P) .nil .nil)) (.node (hob154 P) (.node (hob218 P) .nil .nil) (.node (hob284 P) .nil .nil))) (.node (hob104 P) (.node (hob136 P) (.node (hob202 P) .nil .nil) (.node (hob268 P) .nil .nil)) (.node (hob170 P) (.node (hob236 P) .nil .nil) (.node (hob300 P) .nil .nil)))))) (.node (boot_o_5 P) (.node (boot_o_9 P) (.node (hob53 P) (.node (hob72 P) (.node (hob110 P) (.node (hob176 P) (.node (hob306 P) .nil .nil) .nil) (.node (hob242 P) .nil .nil)) (.node (hob142 P) (.node (hob208 P) .nil .nil) (.node (hob274 P) .nil .nil))) (.node (hob91 P) (.node (hob126 P) (.node (hob192 P) .nil .nil) (.node (hob258 P) .nil .nil)) (.node (hob160 P) (.node (hob224 P) .nil .nil) (.node (hob290 P) .nil .nil)))) (.node (hob61 P) (.node (hob83 P) (.node (hob118 P) (.node (hob184 P) (.node (hob314 P) .nil .nil) .nil) (.node (hob250 P) .nil .nil)) (.node (hob152 P) (.node (hob216 P) .nil .nil) (.node (hob282 P) .nil .nil))) (.node (hob102 P) (.node (hob134 P) (.node (hob200 P) .nil .nil) (.node (hob266 P) .nil .nil)) (.node (hob168 P) (.node (hob234 P) .nil .nil) (.node (hob298 P) .nil .nil))))) (.node (hob45 P) (.node (hob57 P) (.node (hob76 P) (.node (hob114 P) (.node (hob180 P) (.node (hob310 P) .nil .nil) .nil) (.node (hob246 P) .nil .nil)) (.node (hob148 P) (.node (hob212 P) .nil .nil) (.node (hob278 P) .nil .nil))) (.node (hob98 P) (.node (hob130 P) (.node (hob196 P) .nil .nil) (.node (hob262 P) .nil .nil)) (.node (hob164 P) (.node (hob228 P) .nil .nil) (.node (hob294 P) .nil .nil)))) (.node (hob68 P) (.node (hob87 P) (.node (hob122 P) (.node (hob188 P) .nil .nil) (.node (hob254 P) .nil .nil)) (.node (hob156 P) (.node (hob220 P) .nil .nil) (.node (hob286 P) .nil .nil))) (.node (hob106 P) (.node (hob138 P) (.node (hob204 P) .nil .nil) (.node (hob270 P) .nil .nil)) (.node (hob172 P) (.node (hob238 P) .nil .nil) (.node (hob302 P) .nil .nil))))))) (.node (boot_o_2 P) (.node (boot_o_4 P) (.node (boot_o_8 P) (.node (hob52 P) (.node (hob71 P) (.node (hob109 P) (.node (hob175 P) (.node (hob305 P) .nil .nil) .nil) (.node (hob241 P) .nil .nil)) (.node (hob141 P) (.node (hob207 P) .nil .nil) (.node (hob273 P) .nil .nil))) (.node (hob90 P) (.node (hob125 P) (.node (hob191 P) .nil .nil) (.node (hob257 P) .nil .nil)) (.node (hob159 P) (.node (hob223 P) .nil .nil) (.node (hob289 P) .nil .nil)))) (.node (hob96 P) (.node (hob82 P) (.node (hob117 P) (.node (hob183 P) (.node (hob313 P) .nil .nil) .nil) (.node (hob249 P) .nil .nil)) (.node (hob151 P) (.node (hob215 P) .nil .nil) (.node (hob281 P) .nil .nil))) (.node (hob101 P) (.node (hob133 P) (.node (hob199 P) .nil .nil) (.node (hob265 P) .nil .nil)) (.node (hob167 P) (.node (hob233 P) .nil .nil) (.node (hob297 P) .nil .nil))))) (.node (hob231 P) (.node (hob56 P) (.node (hob75 P) (.node (hob113 P) (.node (hob179 P) (.node (hob309 P) .nil .nil) .nil) (.node (hob245 P) .nil .nil)) (.node (hob147 P) (.node (hob211 P) .nil .nil) (.node (hob277 P) .nil .nil))) (.node (hob97 P) (.node (hob129 P) (.node (hob195 P) .nil .nil) (.node (hob261 P) .nil .nil)) (.node (hob163 P) (.node (hob227 P) .nil .nil) (.node (hob293 P) .nil .nil)))) (.node (hob67 P) (.node (hob86 P) (.node (hob121 P) (.node (hob187 P) .nil .nil) (.node (hob253 P) .nil .nil)) (.node (hob155 P) (.node (hob219 P) .nil .nil) (.node (hob285 P) .nil .nil))) (.node (hob105 P) (.node (hob137 P) (.node (hob203 P) .nil .nil) (.node (hob269 P) .nil .nil)) (.node (hob171 P) (.node (hob237 P) .nil .nil) (.node (hob301 P) .nil .nil)))))) (.node (boot_o_6 P) (.node (boot_o_10 P) (.node (hob54 P) (.node (hob73 P) (.node (hob111 P) (.node (hob177 P) (.node (hob307 P) .nil .nil) .nil) (.node (hob243 P) .nil .nil)) (.node (hob143 P) (.node (hob209 P) .nil .nil) (.node (hob275 P) .nil .nil))) (.node (hob92 P) (.node (hob127 P) (.node (hob193 P) .nil .nil) (.node (hob259 P) .nil .nil)) (.node (hob161 P) (.node (hob225 P) .nil .nil) (.node (hob291 P) .nil .nil)))) (.node (hob62 P) (.node (hob84 P) (.node (hob119 P) (.node (hob185 P) (.node (hob315 P) .nil .nil) .nil) (.node (hob251 P) .nil .nil)) (.node (hob153 P) (.node (hob217 P) .nil .nil) (.node (hob283 P) .nil .nil))) (.node (hob103 P) (.node (hob135 P) (.node (hob201 P) .nil .nil) (.node (hob267 P) .nil .nil)) (.node (hob169 P) (.node (hob235 P) .nil .nil) (.node (hob299 P) .nil .nil))))) (.node (hob46 P) (.node (hob58 P) (.node (hob77 P) (.node (hob115 P) (.node (hob181 P) (.node (hob311 P) .nil .nil) .nil) (.node (hob247 P) .nil .nil)) (.node (hob149 P) (.node (hob213 P) .nil .nil) (.node (hob279 P) .nil .nil))) (.node (hob99 P) (.node (hob131 P) (.node (hob197 P) .nil .nil) (.node (hob263 P) .nil .nil)) (.node (hob165 P) (.node (hob229 P) .nil .nil) (.node (hob295 P) .nil .nil)))) (.node (hob69 P) (.node (hob88 P) (.node (hob123 P) (.node (hob189 P) .nil .nil) (.node (hob255 P) .nil .nil)) (.node (hob157 P) (.node (hob221 P) .nil .nil) (.node (hob287 P) .nil .nil))) (.node (hob107 P) (.node (hob139 P) (.node (hob205 P) .nil .nil) (.node (hob271 P) .nil .nil)) (.node (hob173 P) (.node (hob239 P) .nil .nil) (.node (hob303 P) .nil .nil))))))))
def ht229 (P : Params) : BT := (.node (boot_o_0 P) (.node (boot_o_1 P) (.node (hob144 P) (.node (boot_o_7 P) (.node (hob51 P) (.node (hob70 P) (.node (hob108 P) (.node (hob174 P) .nil .nil) .nil) (.node (hob140 P) (.node (hob206 P) .nil .nil) .nil)) (.node (hob89 P) (.node (hob124 P) (.node (hob190 P) .nil .nil) .nil) (.node (hob158 P) (.node (hob222 P) .nil .nil) .nil))) (.node (hob59 P) (.node (hob78 P) (.node (hob116 P) (.node (hob182 P) .nil .nil) .nil) (.node (hob150 P) (.node (hob214 P) .nil .nil) .nil)) (.node (hob100 P) (.node (hob132 P) (.node (hob198 P) .nil .nil) .nil) (.node (hob166 P) .nil .nil)))) (.node (hob43 P) (.node (hob55 P) (.node (hob74 P) (.node (hob112 P) (.node (hob178 P) .nil .nil) .nil) (.node (hob146 P) (.node (hob210 P) .nil .nil) .nil)) (.node (hob93 P) (.node (hob128 P) (.node (hob194 P) .nil .nil) .nil) (.node (hob162 P) (.node (hob226 P) .nil .nil) .nil))) (.node (hob63 P) (.node (hob85 P) (.node (hob120 P) (.node (hob186 P) .nil .nil) .nil) (.node (hob154 P) (.node (hob218 P) .nil .nil) .nil)) (.node (hob104 P) (.node (hob136 P) (.node (hob202 P) .nil .nil) .nil) (.node (hob170 P) .nil .nil))))) (.node (boot_o_5 P) (.node (boot_o_9 P) (.node (hob53 P) (.node (hob72 P) (.node (hob110 P) (.node (hob176 P) .nil .nil) .nil) (.node (hob142 P) (.node (hob208 P) .nil .nil) .nil)) (.node (hob91 P) (.node (hob126 P) (.node (hob192 P) .nil .nil) .nil) (.node (hob160 P) (.node (hob224 P) .nil .nil) .nil))) (.node (hob61 P) (.node (hob83 P) (.node (hob118 P) (.node (hob184 P) .nil .nil) .nil) (.node (hob152 P) (.node (hob216 P) .nil .nil) .nil)) (.node (hob102 P) (.node (hob134 P) (.node (hob200 P) .nil .nil) .nil) (.node (hob168 P) .nil .nil)))) (.node (hob45 P) (.node (hob57 P) (.node (hob76 P) (.node (hob114 P) (.node (hob180 P) .nil .nil) .nil) (.node (hob148 P) (.node (hob212 P) .nil .nil) .nil)) (.node (hob98 P) (.node (hob130 P) (.node (hob196 P) .nil .nil) .nil) (.node (hob164 P) (.node (hob228 P) .nil .nil) .nil))) (.node (hob68 P) (.node (hob87 P) (.node (hob122 P) (.node (hob188 P) .nil .nil) .nil) (.node (hob156 P) (.node (hob220 P) .nil .nil) .nil)) (.node (hob106 P) (.node (hob138 P) (.node (hob204 P) .nil .nil) .nil) (.node (hob172 P) .nil .nil)))))) (.node (boot_o_2 P) (.node (boot_o_4 P) (.node (boot_o_8 P) (.node (hob52 P) (.node (hob71 P) (.node (hob109 P) (.node (hob175 P) .nil .nil) .nil) (.node (hob141 P) (.node (hob207 P) .nil .nil) .nil)) (.node (hob90 P) (.node (hob125 P) (.node (hob191 P) .nil .nil) .nil) (.node (hob159 P) (.node (hob223 P) .nil .nil) .nil))) (.node (hob96 P) (.node (hob82 P) (.node (hob117 P) (.node (hob183 P) .nil .nil) .nil) (.node (hob151 P) (.node (hob215 P) .nil .nil) .nil)) (.node (hob101 P) (.node (hob133 P) (.node (hob199 P) .nil .nil) .nil) (.node (hob167 P) .nil .nil)))) (.node (hob145 P) (.node (hob56 P) (.node (hob75 P) (.node (hob113 P) (.node (hob179 P) .nil .nil) .nil) (.node (hob147 P) (.node (hob211 P) .nil .nil) .nil)) (.node (hob97 P) (.node (hob129 P) (.node (hob195 P) .nil .nil) .nil) (.node (hob163 P) (.node (hob227 P) .nil .nil) .nil))) (.node (hob67 P) (.node (hob86 P) (.node (hob121 P) (.node (hob187 P) .nil .nil) .nil) (.node (hob155 P) (.node (hob219 P) .nil .nil) .nil)) (.node (hob105 P) (.node (hob137 P) (.node (hob203 P) .nil .nil) .nil) (.node (hob171 P) .nil .nil))))) (.node (boot_o_6 P) (.node (boot_o_10 P) (.node (hob54 P) (.node (hob73 P) (.node (hob111 P) (.node (hob177 P) .nil .nil) .nil) (.node (hob143 P) (.node (hob209 P) .nil .nil) .nil)) (.node (hob92 P) (.node (hob127 P) (.node (hob193 P) .nil .nil) .nil) (.node (hob161 P) (.node (hob225 P) .nil .nil) .nil))) (.node (hob62 P) (.node (hob84 P) (.node (hob119 P) (.node (hob185 P) .nil .nil) .nil) (.node (hob153 P) (.node (hob217 P) .nil .nil) .nil)) (.node (hob103 P) (.node (hob135 P) (.node (hob201 P) .nil .nil) .nil) (.node (hob169 P) .nil .nil)))) (.node (hob46 P) (.node (hob58 P) (.node (hob77 P) (.node (hob115 P) (.node (hob181 P) .nil .nil) .nil) (.node (hob149 P) (.node (hob213 P) .nil .nil) .nil)) (.node (hob99 P) (.node (hob131 P) (.node (hob197 P) .nil .nil) .nil) (.node (hob165 P) (.node (hob229 P) .nil .nil) .nil))) (.node (hob69 P) (.node (hob88 P) (.node (hob123 P) (.node (hob189 P) .nil .nil) .nil) (.node (hob157 P) (.node (hob221 P) .nil .nil) .nil)) (.node (hob107 P) (.node (hob139 P) (.node (hob205 P) .nil .nil) .nil) (.node (hob173 P) .nil .nil)))))))
def ht93 (P : Params) : BT := (.node (boot_o_0 P) (.node (boot_o_1 P) (.node (hob79 P) (.node (boot_o_7 P) (.node (hob51 P) (.node (hob70 P) .nil .nil) (.node (hob89 P) .nil .nil)) (.node (hob59 P) (.node (hob78 P) .nil .nil) .nil)) (.node (hob43 P) (.node (hob55 P) (.node (hob74 P) .nil .nil) (.node (hob93 P) .nil .nil)) (.node (hob63 P) (.node (hob85 P) .nil .nil) .nil))) (.node (boot_o_5 P) (.node (boot_o_9 P) (.node (hob53 P) (.node (hob72 P) .nil .nil) (.node (hob91 P) .nil .nil)) (.node (hob61 P) (.node (hob83 P) .nil .nil) .nil)) (.node (hob45 P) (.node (hob57 P) (.node (hob76 P) .nil .nil) .nil) (.node (hob68 P) (.node (hob87 P) .nil .nil) .nil)))) (.node (boot_o_2 P) (.node (boot_o_4 P) (.node (boot_o_8 P) (.node (hob52 P) (.node (hob71 P) .nil .nil) (.node (hob90 P) .nil .nil)) (.node (hob81 P) (.node (hob82 P) .nil .nil) .nil)) (.node (hob80 P) (.node (hob56 P) (.node (hob75 P) .nil .nil) .nil) (.node (hob67 P) (.node (hob86 P) .nil .nil) .nil))) (.node (boot_o_6 P) (.node (boot_o_10 P) (.node (hob54 P) (.node (hob73 P) .nil .nil) (.node (hob92 P) .nil .nil)) (.node (hob62 P) (.node (hob84 P) .nil .nil) .nil)) (.node (hob46 P) (.node (hob58 P) (.node (hob77 P) .nil .nil) .nil) (.node (hob69 P) (.node (hob88 P) .nil .nil) .nil)))))
def ht63 (P : Params) : BT := (.node (boot_o_0 P) (.node (boot_o_1 P) (.node (hob49 P) (.node (boot_o_7 P) (.node (hob51 P) .nil .nil) (.node (hob59 P) .nil .nil)) (.node (hob43 P) (.node (hob55 P) .nil .nil) (.node (hob63 P) .nil .nil))) (.node (boot_o_5 P) (.node (boot_o_9 P) (.node (hob53 P) .nil .nil) (.node (hob61 P) .nil .nil)) (.node (hob45 P) (.node (hob57 P) .nil .nil) .nil))) (.node (boot_o_2 P) (.node (boot_o_4 P) (.node (boot_o_8 P) (.node (hob52 P) .nil .nil) (.node (hob60 P) .nil .nil)) (.node (hob50 P) (.node (hob56 P) .nil .nil) .nil)) (.node (boot_o_6 P) (.node (boot_o_10 P) (.node (hob54 P) .nil .nil) (.node (hob62 P) .nil .nil)) (.node (hob46 P) (.node (hob58 P) .nil .nil) .nil))))
def hen : Env := { scope := hp.main.scope, locals := mainNs, globals := mainNs, cells := [], code := .ref 13, frame := some 14 }
def hvw : Program := view hp ((List.range 38).filter fun i => !([0, 5, 11, 18, 22].contains i))
def hcs : List (Str × Addr) := [("FractionError", 24), ("NoFraction", 37), ("NoPath", 49), ("NoRoom", 61)]
def hpl : List Addr := [3, 24, 23, 37, 36, 49, 48, 61, 60]
abbrev hz : Pos := { line := 0, col := 0, endLine := 0, endCol := 0 }
abbrev hcE : Code := .body (behindTheImports hp) hen
abbrev hXt (s : Shared) : Bool := xlAt hvw [] s && recOk (RowW.records PySem.Challenge.rw_uf050018_12.row.toRowW) s
abbrev hH : Hook := ecHook hpl hcs 24
abbrev hs0 (w : World) (os : OsState) : SharedT := { tree := ht47 w.params, n := 15, life := {}, gens := Array.mk [], drawn := {}, toks := 187, os := os }
abbrev hs1 (w : World) (os : OsState) : SharedT := { tree := ht63 w.params, n := 28, life := {}, gens := Array.mk [], drawn := {}, toks := 207, os := os }
abbrev hs2 (w : World) (os : OsState) : SharedT := { tree := ht78 w.params, n := 40, life := {}, gens := Array.mk [], drawn := {}, toks := 223, os := os }
abbrev hs3 (w : World) (os : OsState) : SharedT := { tree := ht93 w.params, n := 52, life := {}, gens := Array.mk [], drawn := {}, toks := 239, os := os }
abbrev hs4 (w : World) (os : OsState) : SharedT := { tree := ht143 w.params, n := 99, life := {}, gens := Array.mk [], drawn := {}, toks := 302, os := os }
abbrev hs5 (w : World) (os : OsState) : SharedT := { tree := ht229 w.params, n := 183, life := {}, gens := Array.mk [], drawn := {}, toks := 418, os := os }
abbrev hs6 (w : World) (os : OsState) : SharedT := { tree := ht315 w.params, n := 267, life := {}, gens := Array.mk [], drawn := {}, toks := 534, os := os }
abbrev hsf (w : World) (os : OsState) : Shared := ⟨hh316 w.params, Array.mk [], {}, 534, os⟩
theorem h_size (w : World) : ((boot_heap w.params).isNs mainGlobals && (Array.mk [] : Array GenState).size == 0, (boot_heap w.params).objs.size, (boot_heap w.params).nsMap mainGlobals "__annotations__") = (true, 11, some (.ref 6)) := by rw [PySem.W.Fast.te8920871248978507458]; kernel_rfl
theorem h_pre (w : World) (os : OsState) : topGo treeTable hp w 11 (some (.ref 6)) 12 ⟨boot_heap w.params, Array.mk [], boot_drawn, boot_toks, os⟩ (topStub hp) = some ((hs0 w os).abs, ⟨denote treeTable hcE, hcE, hz, [topFrame hz]⟩) := by rw [PySem.W.Fast.te15667345088766844465, PySem.W.Fast.te14364793385576792824, PySem.W.Fast.te11892475500146522536]; kernel_rfl
theorem h_blk (w : World) (os : OsState) : segRun treeTable hp w 11 (some (.ref 6)) 1 1 (hs0 w os).abs (blockOf (behindTheImports hp) hen hcE hz [topFrame hz]) = some (.next, (hs0 w os).abs, hcE, hz) := by rw [PySem.W.Fast.te14374325043358763698, PySem.W.Fast.te14364793385576792824]; kernel_rfl
theorem h_p0 (w : World) (os : OsState) : segRunT treeTable hp w 11 (some (.ref 6)) 1 196 (hs0 w os) (piecesOf (((behindTheImports hp).drop 0).take 2) hen hcE { line := 0, col := 0, endLine := 0, endCol := 0 } [topFrame hz]) = some (.next, hs1 w os, hcE, { line := 2, col := 0, endLine := 3, endCol := 8 }) := by rw [PySem.W.Fast.te10110043849684766642, PySem.W.Fast.te14364793385576792824]; kernel_rfl
theorem h_p1 (w : World) (os : OsState) : segRunT treeTable hp w 11 (some (.ref 6)) 1 214 (hs1 w os) (piecesOf (((behindTheImports hp).drop 2).take 1) hen hcE { line := 2, col := 0, endLine := 3, endCol := 8 } [topFrame hz]) = some (.next, hs2 w os, hcE, { line := 4, col := 0, endLine := 5, endCol := 8 }) := by rw [PySem.W.Fast.te10110043849684766642, PySem.W.Fast.te14364793385576792824]; kernel_rfl
theorem h_p2 (w : World) (os : OsState) : segRunT treeTable hp w 11 (some (.ref 6)) 1 214 (hs2 w os) (piecesOf (((behindTheImports hp).drop 3).take 1) hen hcE { line := 4, col := 0, endLine := 5, endCol := 8 } [topFrame hz]) = some (.next, hs3 w os, hcE, { line := 6, col := 0, endLine := 7, endCol := 8 }) := by rw [PySem.W.Fast.te10110043849684766642, PySem.W.Fast.te14364793385576792824]; kernel_rfl
theorem h_p3 (w : World) (os : OsState) : segRunT treeTable hp w 11 (some (.ref 6)) 1 385 (hs3 w os) (piecesOf (((behindTheImports hp).drop 4).take 8) hen hcE { line := 6, col := 0, endLine := 7, endCol := 8 } [topFrame hz]) = some (.next, hs4 w os, hcE, { line := 29, col := 0, endLine := 29, endCol := 8 }) := by rw [PySem.W.Fast.te10110043849684766642, PySem.W.Fast.te14364793385576792824]; kernel_rfl
theorem h_p4 (w : World) (os : OsState) : segRunT treeTable hp w 11 (some (.ref 6)) 1 395 (hs4 w os) (piecesOf (((behindTheImports hp).drop 12).take 14) hen hcE { line := 29, col := 0, endLine := 29, endCol := 8 } [topFrame hz]) = some (.next, hs5 w os, hcE, { line := 104, col := 0, endLine := 105, endCol := 77 }) := by rw [PySem.W.Fast.te10110043849684766642, PySem.W.Fast.te14364793385576792824]; kernel_rfl
theorem h_p5 (w : World) (os : OsState) : segRunT treeTable hp w 11 (some (.ref 6)) 1 381 (hs5 w os) (piecesOf (((behindTheImports hp).drop 26).take 12) hen hcE { line := 104, col := 0, endLine := 105, endCol := 77 } [topFrame hz]) = some (.next, hs6 w os, hcE, { line := 154, col := 0, endLine := 182, endCol := 96 }) := by rw [PySem.W.Fast.te10110043849684766642, PySem.W.Fast.te14364793385576792824]; kernel_rfl
theorem h_fin (w : World) (os : OsState) : topRun treeTable hp w 11 (some (.ref 6)) 2 (hs6 w os).abs ⟨doneF .next, hcE, { line := 154, col := 0, endLine := 182, endCol := 96 }, [topFrame hz]⟩ = some (hsf w os) := by rw [PySem.W.Fast.te14082659384304107361, PySem.W.Fast.te14364793385576792824]; kernel_rfl
theorem h_l0 (w : World) (os : OsState) : (staticsOk (importedModules hp.main.body) (boot_heap w.params) (hsf w os).heap && namesBound hp (hsf w os).heap && gensDone (hsf w os) && laidKept (boot_heap w.params) (hsf w os).heap) = true := by rw [PySem.W.Fast.te5923862056798008813]; kernel_rfl
theorem h_l1 (w : World) (os : OsState) : seen ((recsOf hvw).map (·.name)) (ownsOf hvw) [] { hsf w os with gens := #[] } = expectedOf hvw := by rw [PySem.W.Fast.te5160383126252970620, PySem.W.Fast.te3399658132070893891, PySem.W.Fast.te5991557255702980513]; kernel_rfl
theorem h_l2 (w : World) (os : OsState) : (hsf w os).heap.bltView = bltViewBooted := by kernel_rfl
theorem h_l3 (w : World) (os : OsState) : ((hsf w os).heap.keysOk (looseW hvw []) ((recsOf hvw).map (·.name)) ((litsOf hvw).map (·.1)) ((clssOf hvw (looseW hvw [])).map (·.name)) && (hsf w os).heap.accountedOkI (importedModules hp.main.body) && (hsf w os).heap.isNs mainGlobals && (hsf w os).heap.isNs builtinsNs && tablesOk hvw (hsf w os).heap && hXt (hsf w os) && (if true = true then (hsf w os).gens.size == 0 else !leftWithCleanup (hsf w os).gens)) = true := by rw [PySem.W.Fast.te10880121769531294198, PySem.W.Fast.te821141287760084731, PySem.W.Fast.te3399658132070893891, PySem.W.Fast.te7409074990110511671, PySem.W.Fast.te13664370479719496447, PySem.W.Fast.te14722251495701143533, PySem.W.Fast.te5923862056798008813, PySem.W.Fast.te10994771534591457954]; kernel_rfl
theorem h_l4 (w : World) (os : OsState) : tabsOk hvw (hsf w os) = true := by rw [PySem.W.Fast.te479339242167458305]; kernel_rfl
theorem h_l5 (w : World) (os : OsState) : pinSeenD hvw (drecsOf hvw) (hsf w os) = pinGoodD (drecsOf hvw) := by rw [PySem.W.Fast.te16090120013241838585, PySem.W.Fast.te3247288618530077131]; kernel_rfl
theorem h_l6 (w : World) (os : OsState) : plainSeenE hvw (looseW hvw []) (hsf w os) = plainGoodE hvw (looseW hvw []) := by rw [PySem.W.Fast.te2386780881361962483, PySem.W.Fast.te821141287760084731]; kernel_rfl
theorem h_l7 (w : World) (os : OsState) : plainSeenD hvw [] (hsf w os) = plainGoodD hvw [] := by rw [PySem.W.Fast.te11698064438423848299]; kernel_rfl
theorem h_l8 (w : World) (os : OsState) : wideSeen hvw (hsf w os) = wideGood hvw := by rw [PySem.W.Fast.te7317090234206586261]; kernel_rfl
theorem h_l9 (w : World) (os : OsState) : clsSeenW hvw [] (hsf w os) = clsGoodW hvw [] := by rw [PySem.W.Fast.te7369524293546568484]; kernel_rfl
theorem h_ly (w : World) (os : OsState) : hH.obs (hsf w os) = hH.val w := by kernel_rfl
theorem h_open : ∀ w : World, (fencedOpening treeTable hp w 5600).map (fun s => (s.heap, s.gens, s.drawn, s.toks)) = some (boot_heap w.params, Array.mk [], boot_drawn, boot_toks) := boot_open (by kernel_rfl) (by kernel_rfl) (fun s => by kernel_rfl)
theorem h_parts : ((behindTheImports hp).drop 0).take 2 ++ (((behindTheImports hp).drop 2).take 1 ++ (((behindTheImports hp).drop 3).take 1 ++ (((behindTheImports hp).drop 4).take 8 ++ (((behindTheImports hp).drop 12).take 14 ++ (((behindTheImports hp).drop 26).take 12 ++ ([])))))) = behindTheImports hp := by kernel_rfl
theorem h_run (w : World) (os : OsState) : topRun treeTable hp w 11 (some (.ref 6)) (12 + (1 + (196 + (214 + (214 + (385 + (395 + (381 + (2))))))))) ⟨boot_heap w.params, Array.mk [], boot_drawn, boot_toks, os⟩ (topStub hp) = some (hsf w os) := by
  have r := piece_nil (env := hen) (h_fin w os)
  have r := piece_app (segRun_of (h_p5 w os)) r
  have r := piece_app (segRun_of (h_p4 w os)) r
  have r := piece_app (segRun_of (h_p3 w os)) r
  have r := piece_app (segRun_of (h_p2 w os)) r
  have r := piece_app (segRun_of (h_p1 w os)) r
  have r := piece_app (segRun_of (h_p0 w os)) r
  rw [h_parts] at r
  exact go_top (h_pre w os) (piece_block (h_blk w os) r)
theorem h_left : LeftO hp hvw [] hXt hH.obs hH.val 5600 :=
  LeftO.of_pieces (H₁ := hh316) (gs₁ := Array.mk []) (d₁ := {}) (k₁ := 534) h_open h_size h_run (by kernel_rfl) fun w => funext fun os =>
    looks_of (h_l0 w os) (h_l1 w os) (h_l2 w os) (h_l3 w os) (h_l4 w os) (h_l5 w os) (h_l6 w os) (h_l7 w os) (h_l8 w os) (h_l9 w os) (h_ly w os)
abbrev hl : OpenLaw := PySem.Challenge.rw_uf050018_12
theorem h_q1 : namesResolve hl.row.prog = true := by kernel_rfl
theorem h_q2 : hl.row.prog.boundNames.all (fun n => !worldNames.contains n) = true := by kernel_rfl
theorem h_q3 : (["vars", "dir", "locals"] : List Str).filter (readsOut hl.row.prog hl.row.prog.main.body) = [] := by kernel_rfl
theorem h_q4 : noRoadLSs { strict := !(importedModules hl.row.prog.main.body).all cThrough.contains, foot := none, bare := (["vars", "dir", "locals"] : List Str).filter (readsOut hl.row.prog hl.row.prog.main.body) } hl.row.prog.main.body = true := by rw [h_q3]; kernel_rfl
theorem h_q5 : namesMeet hl.row.prog hl.row.prog.main.body (fun _ n => attrL n) = true := by kernel_rfl
theorem h_s1 : looksOpen hl.row.prog = true := by unfold looksOpen; rw [h_q1, h_q2, h_q4, h_q5]; kernel_rfl
theorem h_s2 : noRoadLSs { strict := true, foot := some hl.bound', writes := hl.writes, may := hl.may } hl.footing = true := by kernel_rfl
theorem h_s3 : hl.bound'.all (fun n => !builtinNamed n || hl.about == [n] || !hl.reads n) = true := by kernel_rfl
theorem h_s4 : namesMeet hl.prog hl.footing (fun sc n => (!(["type", "isinstance", "issubclass", "getattr", "hasattr"] : List Str).contains n || sc.names.lookup n == some .globalImplicit) &&
    (hl.may != some n || sc.kind == .module || sc.names.lookup n == some .globalImplicit)) = true := by kernel_rfl
theorem h_s5 : namesMeet hl.prog hl.above (fun _ n => !hl.own.contains n) = true := by kernel_rfl
theorem h_s6 : namesMeet hl.prog hl.footing (fun sc n => sc.kind == .module || sc.names.lookup n != some .globalExplicit) = true := by kernel_rfl
theorem h_said : hl.wellSaid = true := by unfold OpenLaw.wellSaid OpenRow.wellSaid OpenRow.partSaid; rw [h_s1, h_s2, h_s3, h_s4, h_s5, h_s6]; kernel_rfl
theorem h_ok : (chainsOk hvw && opensWell PySem.Challenge.rw_uf050018_12.row.prog && (frees PySem.Challenge.rw_uf050018_12.row.toRowW && PySem.Challenge.rw_uf050018_12.row.within.isEmpty)) = true := by kernel_rfl
end
end Mine

open PySem PySem.W PyProof.Rows
set_option maxHeartbeats 8000000 in
theorem PySem.Challenge.cw_uf050018_12_holds : PySem.Challenge.rw_uf050018_12.Holds := by
  refine holds_law Mine.h_said fun said => ?_
  refine holds_open (q := Mine.hvw) (loose := []) (Xt := Mine.hXt) (XP := XL Mine.hvw []) (Yf := Mine.hH.obs) (Ya := Mine.hH.val) (YP := Mine.hH.says) (N := 5600) Mine.h_left Mine.hH.of Mine.hH.keeps (fun s e => xl_of s (Bool.and_eq_true_iff.mp e).1) XL.keeps (by rfl) (by rfl) (by rfl) (fun s e => recFacts_of (Bool.and_eq_true_iff.mp e).2) (by rfl) said Mine.h_ok ⟨rfl, rfl, rfl, rfl, rfl, by decide +kernel⟩ ?hw ?hc
  (case hw => w_witness2)
  intro w s₀ s₁ mg mb G Y fa o pm cd doc dV kV ho hd hcd hD hmg hg args vals as hpre hlay hrd hwl hlo
  have T := G.T
  wrow_args hpre hlay hrd hwl hlo
  rename_i ns _ _ _ _ _ _ _ _ _ _ _ _ _ r0 _ _ hcond _
  have hn : ns.length ≤ 63 := by omega
  have hB : Mine.Bn ⟨PySem.Challenge.rw_uf050018_12.row.prog, w, _, _, _, mg, mb⟩ := Mine.bn_of T (by kernel_rfl)
  obtain ⟨K, KX, C⟩ := Y
  have m0 : ((("FractionError" : Str), 24) : Str × Addr) ∈ Mine.hcs := .head _
  have m1 : ((("NoFraction" : Str), 37) : Str × Addr) ∈ Mine.hcs := .tail _ (.head _)
  have m2 : ((("NoPath" : Str), 49) : Str × Addr) ∈ Mine.hcs := .tail _ (.tail _ (.head _))
  have m3 : ((("NoRoom" : Str), 61) : Str × Addr) ∈ Mine.hcs := .tail _ (.tail _ (.tail _ (.head _)))
  exact Mine.law_endW (c := ⟨PySem.Challenge.rw_uf050018_12.row.prog, w, _, _, _, mg, mb⟩) (Mine.f_law (by kernel_rfl) hB (C.eu m3 m0) (C.ec _ m0) hn) T KX hmg r0 hg (raisesW_false (fun _ h => nomatch h)) (postW_of rfl rfl (by first | rfl | decide | simp [same] | w_fin))
