import PyProof.Rows.All
import Wide.All
import OpenK.AllK
import Wide.FinOn
import PyProof.ReprRoads
import PyProof.InstNe
import KE.KAssignIn
import KE.GoesMore
import HandS.ForMost
import HandS.Wide
import HandS.WideBits
import HandS.IsInst
import HandS.Property
import HandS.Star
import HandS.ClsMeth
import HandS.OwnEq
import HandS.Style
import HandS.Deep
import HandS.HeadEnd
import HandS.HeadHook4
import PySem.Challenge.RW_rungladders_k13_whole_patterns_equal_by
import HandS.Walk
import HandS.Evl
import KE.KStateDown
import HandS.Head0
import HandS.Head1
import HandS.Head2
import HandS.Ends
set_option Elab.async false
set_option linter.all false
set_option maxRecDepth 100000
set_option maxHeartbeats 0
namespace K13
/-! ### The plain mathematics: pieces, chains, fronts. A piece: is it a rail, its ohms -/
abbrev Pc := Bool × Int
structure Ch where
  a : Int
  b : Int
  c : Int
  d : Int
deriving DecidableEq
def joinC (m n : Ch) : Ch := ⟨m.a * n.a + m.b * n.c, m.a * n.b + m.b * n.d, m.c * n.a + m.d * n.c, m.c * n.b + m.d * n.d⟩
def pcC (p : Pc) : Ch := if p.1 = true then ⟨1, p.2, 0, 1⟩ else ⟨p.2, 0, 1, p.2⟩
def pcS (p : Pc) (s : Int) : Int := if p.1 = true then s else s * p.2
def stepC (m : Ch × Int) (p : Pc) : Ch × Int := (joinC m.1 (pcC p), pcS p m.2)
def chain (row : List Pc) : Ch × Int := row.foldl stepC (⟨1, 0, 0, 1⟩, 1)
def ledC (m : Ch) (v : Int × Int) : Int × Int := (m.a * v.1 + m.b * v.2, m.c * v.1 + m.d * v.2)
def low (v : Int × Int) : Int × Int := (v.1 / (Int.gcd v.1 v.2 : Int), v.2 / (Int.gcd v.1 v.2 : Int))
def stepF (p : Pc) (v : Int × Int) : Int × Int :=
  if p.1 = true then (v.1 + p.2 * v.2, v.2) else if v.2 = 0 then (p.2, 1) else (p.2 * v.1, p.2 * v.2 + v.1)
/-- the pair ahead of lowest terms, from the last piece on: row reversed -/
def frontU (row : List Pc) (v : Int × Int) : Int × Int := row.reverse.foldl (fun v p => stepF p v) v
def front (row : List Pc) (v : Int × Int) : Int × Int := low (frontU row v)
def nums (row : List Pc) : List (Int × Int) := [low ((chain row).1.a, (chain row).2), low ((chain row).1.b, (chain row).2), low ((chain row).1.c, (chain row).2), low ((chain row).1.d, (chain row).2)]
def fronts (row : List Pc) : List (Int × Int) := [front row (0, 1), front row (1, 1), front row (1, 0)]
def shownC (row : List Pc) (v : Int × Int) : Int × Int := low (ledC (chain row).1 v)

/-- a piece of the program -/
def OkP (p : Pc) : Prop := 1 ≤ p.2 ∧ p.2 ≤ 12
def OkR (row : List Pc) : Prop := ∀ p ∈ row, OkP p
/-- a pair of at least 0, not both 0 -/
def Pr (v : Int × Int) : Prop := 0 ≤ v.1 ∧ 0 ≤ v.2 ∧ (0 < v.1 ∨ 0 < v.2)
structure Good (m : Ch × Int) : Prop where
  a : 0 ≤ m.1.a
  b : 0 ≤ m.1.b
  c : 0 ≤ m.1.c
  d : 0 ≤ m.1.d
  s : 1 ≤ m.2
  det : m.1.a * m.1.d - m.1.b * m.1.c = m.2 * m.2
structure Bd (N : Int) (m : Ch × Int) : Prop where
  a : m.1.a ≤ N
  b : m.1.b ≤ N
  c : m.1.c ≤ N
  d : m.1.d ≤ N
  s : m.2 ≤ N
theorem good_step {m : Ch × Int} {p : Pc} (g : Good m) (h : OkP p) : Good (stepC m p) := by
  obtain ⟨⟨a, b, c, d⟩, s⟩ := m
  obtain ⟨r, o⟩ := p
  obtain ⟨h1, h2, h3, h4, h5, h6⟩ := g
  obtain ⟨o1, o2⟩ := h
  dsimp only at h1 h2 h3 h4 h5 h6 o1 o2
  have o0 : 0 ≤ o := by omega
  have ao := Int.mul_nonneg h1 o0
  have bo := Int.mul_nonneg h2 o0
  have co := Int.mul_nonneg h3 o0
  have dz := Int.mul_nonneg h4 o0
  cases r with
  | true =>
    refine ⟨?_, ?_, ?_, ?_, ?_, ?_⟩ <;> simp only [stepC, joinC, pcC, pcS, if_true] <;> first | omega | grind
  | false =>
    have so : 1 ≤ s * o := by
      have : 0 < s * o := Int.mul_pos (by omega) (by omega)
      omega
    refine ⟨?_, ?_, ?_, ?_, ?_, ?_⟩ <;> simp only [stepC, joinC, pcC, pcS, Bool.false_eq_true, if_false] <;> first | omega | grind
theorem mul12 {x o N : Int} (x0 : 0 ≤ x) (xN : x ≤ N) (o1 : 1 ≤ o) (o2 : o ≤ 12) : x * o ≤ 12 * N := by
  have h1 : x * o ≤ x * 12 := Int.mul_le_mul_of_nonneg_left o2 x0
  omega
theorem bd_step {m : Ch × Int} {p : Pc} {N : Int} (g : Good m) (h : OkP p) (hb : Bd N m) : Bd (13 * N) (stepC m p) := by
  obtain ⟨⟨a, b, c, d⟩, s⟩ := m
  obtain ⟨r, o⟩ := p
  obtain ⟨h1, h2, h3, h4, h5, h6⟩ := g
  obtain ⟨b1, b2, b3, b4, b5⟩ := hb
  obtain ⟨o1, o2⟩ := h
  dsimp only at h1 h2 h3 h4 h5 h6 o1 o2 b1 b2 b3 b4 b5
  have ao := mul12 h1 b1 o1 o2
  have bo := mul12 h2 b2 o1 o2
  have co := mul12 h3 b3 o1 o2
  have dz := mul12 h4 b4 o1 o2
  have so := mul12 (by omega : 0 ≤ s) b5 o1 o2
  cases r with
  | true => refine ⟨?_, ?_, ?_, ?_, ?_⟩ <;> simp only [stepC, joinC, pcC, pcS, if_true] <;> omega
  | false => refine ⟨?_, ?_, ?_, ?_, ?_⟩ <;> simp only [stepC, joinC, pcC, pcS, Bool.false_eq_true, if_false] <;> omega
theorem good_one : Good (⟨1, 0, 0, 1⟩, 1) := ⟨by decide, by decide, by decide, by decide, by decide, by decide⟩
theorem bd_one : Bd 1 (⟨1, 0, 0, 1⟩, 1) := ⟨by decide, by decide, by decide, by decide, by decide⟩
theorem fold_ok : ∀ (row : List Pc) (m : Ch × Int) (k : Nat), OkR row → Good m → Bd (13 ^ k) m → Good (row.foldl stepC m) ∧ Bd (13 ^ (k + row.length)) (row.foldl stepC m)
  | [], m, k, _, g, b => ⟨g, b⟩
  | p :: r, m, k, h, g, b => by
    have hp : OkP p := h p List.mem_cons_self
    have b' := bd_step g hp b
    have e : (13 : Int) * 13 ^ k = 13 ^ (k + 1) := by rw [Int.pow_succ, Int.mul_comm]
    rw [e] at b'
    have z := fold_ok r (stepC m p) (k + 1) (fun q hq => h q (List.mem_cons_of_mem _ hq)) (good_step g hp) b'
    rw [List.length_cons, show k + (r.length + 1) = k + 1 + r.length by omega]
    exact z
theorem pow_le {n : Nat} (h : n ≤ 8) : (13 : Int) ^ n ≤ 815730721 := by
  have : ∀ k : Fin 9, (13 : Int) ^ (k : Nat) ≤ 815730721 := by decide
  exact this ⟨n, by omega⟩
theorem chain_ok {row : List Pc} (h : OkR row) (hl : row.length ≤ 8) : Good (chain row) ∧ Bd 815730721 (chain row) := by
  obtain ⟨g, b⟩ := fold_ok row _ 0 h good_one (by exact bd_one)
  have e := pow_le hl
  rw [Nat.zero_add] at b
  have b : Bd (13 ^ row.length) (chain row) := b
  obtain ⟨b1, b2, b3, b4, b5⟩ := b
  exact ⟨g, ⟨by omega, by omega, by omega, by omega, by omega⟩⟩

/-! ### lowest terms -/
theorem nat_cop {u v u' v' : Nat} (h : Nat.gcd u v = 1) (h' : Nat.gcd u' v' = 1) (e : u * v' = u' * v) : u = u' ∧ v = v' := by
  have d1 : u ∣ u' := by
    have : u ∣ u' * v := ⟨v', e.symm⟩
    exact Nat.Coprime.dvd_of_dvd_mul_right h this
  have d2 : u' ∣ u := by
    have : u' ∣ u * v' := ⟨v, e⟩
    exact Nat.Coprime.dvd_of_dvd_mul_right h' this
  have eu : u = u' := Nat.dvd_antisymm d1 d2
  subst eu
  refine ⟨rfl, ?_⟩
  rcases Nat.eq_zero_or_pos u with z | z
  · subst z
    rw [Nat.gcd_zero_left] at h h'
    omega
  · exact (Nat.eq_of_mul_eq_mul_left z e).symm
theorem low_nat (t b : Nat) : low ((t : Int), (b : Int)) = (((t / Nat.gcd t b : Nat) : Int), ((b / Nat.gcd t b : Nat) : Int)) := by
  unfold low
  have e : Int.gcd (t : Int) (b : Int) = Nat.gcd t b := rfl
  dsimp only
  rw [e, Int.natCast_ediv, Int.natCast_ediv]
theorem nat_low {t b t' b' : Nat} (h : 0 < t ∨ 0 < b) (h' : 0 < t' ∨ 0 < b') :
    (t / Nat.gcd t b = t' / Nat.gcd t' b' ∧ b / Nat.gcd t b = b' / Nat.gcd t' b') ↔ t * b' = t' * b := by
  have g0 : 0 < Nat.gcd t b := by
    rcases h with h | h
    · exact Nat.gcd_pos_of_pos_left _ h
    · exact Nat.gcd_pos_of_pos_right _ h
  have g0' : 0 < Nat.gcd t' b' := by
    rcases h' with h | h
    · exact Nat.gcd_pos_of_pos_left _ h
    · exact Nat.gcd_pos_of_pos_right _ h
  have c : Nat.gcd (t / Nat.gcd t b) (b / Nat.gcd t b) = 1 := by
    rw [Nat.gcd_div (Nat.gcd_dvd_left _ _) (Nat.gcd_dvd_right _ _), Nat.div_self g0]
  have c' : Nat.gcd (t' / Nat.gcd t' b') (b' / Nat.gcd t' b') = 1 := by
    rw [Nat.gcd_div (Nat.gcd_dvd_left _ _) (Nat.gcd_dvd_right _ _), Nat.div_self g0']
  have e1 : t = Nat.gcd t b * (t / Nat.gcd t b) := (Nat.mul_div_cancel' (Nat.gcd_dvd_left t b)).symm
  have e2 : b = Nat.gcd t b * (b / Nat.gcd t b) := (Nat.mul_div_cancel' (Nat.gcd_dvd_right t b)).symm
  have e3 : t' = Nat.gcd t' b' * (t' / Nat.gcd t' b') := (Nat.mul_div_cancel' (Nat.gcd_dvd_left t' b')).symm
  have e4 : b' = Nat.gcd t' b' * (b' / Nat.gcd t' b') := (Nat.mul_div_cancel' (Nat.gcd_dvd_right t' b')).symm
  generalize Nat.gcd t b = g at *
  generalize Nat.gcd t' b' = g' at *
  generalize t / g = u at *
  generalize b / g = v at *
  generalize t' / g' = u' at *
  generalize b' / g' = v' at *
  subst e1 e2 e3 e4
  constructor
  · rintro ⟨rfl, rfl⟩
    grind
  · intro e
    refine nat_cop c c' ?_
    have e5 : (g * g') * (u * v') = (g * g') * (u' * v) := by grind
    exact Nat.eq_of_mul_eq_mul_left (Nat.mul_pos g0 g0') e5
theorem low_iff {v w : Int × Int} (h : Pr v) (h' : Pr w) : low v = low w ↔ v.1 * w.2 = w.1 * v.2 := by
  obtain ⟨t, b⟩ := v
  obtain ⟨t', b'⟩ := w
  obtain ⟨h1, h2, h3⟩ := h
  obtain ⟨h4, h5, h6⟩ := h'
  dsimp only at *
  obtain ⟨t, rfl⟩ := Int.eq_ofNat_of_zero_le h1
  obtain ⟨b, rfl⟩ := Int.eq_ofNat_of_zero_le h2
  obtain ⟨t', rfl⟩ := Int.eq_ofNat_of_zero_le h4
  obtain ⟨b', rfl⟩ := Int.eq_ofNat_of_zero_le h5
  rw [low_nat, low_nat]
  have z := nat_low (t := t) (b := b) (t' := t') (b' := b') (by omega) (by omega)
  constructor
  · intro e
    injection e with e1 e2
    have := z.1 ⟨by exact_mod_cast e1, by exact_mod_cast e2⟩
    exact_mod_cast this
  · intro e
    have e' : t * b' = t' * b := by exact_mod_cast e
    obtain ⟨e1, e2⟩ := z.2 e'
    rw [e1, e2]
theorem low_scale {v w : Int × Int} {k : Int} (h : Pr v) (hk : 0 < k) (e1 : w.1 = k * v.1) (e2 : w.2 = k * v.2) : low w = low v := by
  obtain ⟨h1, h2, h3⟩ := h
  have hw : Pr w := by
    refine ⟨?_, ?_, ?_⟩
    · rw [e1]; exact Int.mul_nonneg (by omega) h1
    · rw [e2]; exact Int.mul_nonneg (by omega) h2
    · rcases h3 with h3 | h3
      · left; rw [e1]; exact Int.mul_pos hk h3
      · right; rw [e2]; exact Int.mul_pos hk h3
  rw [low_iff hw ⟨h1, h2, h3⟩, e1, e2]
  grind

/-! ### the front is what the chain shows -/
theorem led_join (m n : Ch) (v : Int × Int) : ledC (joinC m n) v = ledC m (ledC n v) := by
  unfold ledC joinC
  dsimp only
  refine Prod.ext ?_ ?_ <;> dsimp only <;> grind
def ledRow : List Pc → Int × Int → Int × Int
  | [], v => v
  | p :: r, v => ledC (pcC p) (ledRow r v)
theorem led_fold : ∀ (row : List Pc) (m : Ch × Int) (v : Int × Int), ledC (row.foldl stepC m).1 v = ledC m.1 (ledRow row v)
  | [], _, _ => rfl
  | p :: r, m, v => by
    have z := led_fold r (stepC m p) v
    rw [List.foldl_cons, z]
    show ledC (joinC m.1 (pcC p)) (ledRow r v) = ledC m.1 (ledC (pcC p) (ledRow r v))
    exact led_join _ _ _
theorem led_chain (row : List Pc) (v : Int × Int) : ledC (chain row).1 v = ledRow row v := by
  unfold chain
  rw [led_fold]
  unfold ledC
  dsimp only
  refine Prod.ext ?_ ?_ <;> dsimp only <;> grind
theorem frontU_cons (p : Pc) (r : List Pc) (v : Int × Int) : frontU (p :: r) v = stepF p (frontU r v) := by
  unfold frontU
  rw [List.reverse_cons, List.foldl_append]
  rfl
theorem stepF_pr {p : Pc} {v : Int × Int} (h : OkP p) (hv : Pr v) : Pr (stepF p v) := by
  obtain ⟨r, o⟩ := p
  obtain ⟨x, y⟩ := v
  obtain ⟨o1, o2⟩ := h
  obtain ⟨h1, h2, h3⟩ := hv
  dsimp only at *
  have hoy := Int.mul_nonneg (show 0 ≤ o by omega) h2
  have hox := Int.mul_nonneg (show 0 ≤ o by omega) h1
  unfold stepF Pr
  dsimp only
  split
  · exact ⟨by omega, h2, by omega⟩
  · split
    · exact ⟨by dsimp only; omega, by dsimp only; omega, .inr (by dsimp only; omega)⟩
    · have : 0 < o * y := Int.mul_pos (by omega) (by omega)
      exact ⟨hox, by omega, .inr (by omega)⟩
theorem frontU_pr : ∀ {row : List Pc} {v : Int × Int}, OkR row → Pr v → Pr (frontU row v)
  | [], _, _, hv => hv
  | p :: r, v, h, hv => by
    rw [frontU_cons]
    exact stepF_pr (h p List.mem_cons_self) (frontU_pr (fun q hq => h q (List.mem_cons_of_mem _ hq)) hv)
theorem led_front : ∀ {row : List Pc} {v : Int × Int}, OkR row → Pr v → ∃ k : Int, 0 < k ∧ (ledRow row v).1 = k * (frontU row v).1 ∧ (ledRow row v).2 = k * (frontU row v).2
  | [], v, _, _ => by
    refine ⟨1, by decide, ?_, ?_⟩
    · show v.1 = 1 * v.1
      omega
    · show v.2 = 1 * v.2
      omega
  | p :: r, v, h, hv => by
    have hr : OkR r := fun q hq => h q (List.mem_cons_of_mem _ hq)
    obtain ⟨k, k0, e1, e2⟩ := led_front hr hv
    obtain ⟨h1, h2, h3⟩ := frontU_pr hr hv
    rw [frontU_cons]
    show ∃ k : Int, 0 < k ∧ (ledC (pcC p) (ledRow r v)).1 = _ ∧ (ledC (pcC p) (ledRow r v)).2 = _
    generalize ledRow r v = w at *
    generalize frontU r v = f at *
    obtain ⟨w1, w2⟩ := w
    obtain ⟨f1, f2⟩ := f
    obtain ⟨q, o⟩ := p
    dsimp only at *
    subst e1 e2
    unfold ledC pcC stepF
    dsimp only
    cases q with
    | true =>
      refine ⟨k, k0, ?_, ?_⟩ <;> simp only [if_true] <;> grind
    | false =>
      simp only [Bool.false_eq_true, if_false]
      by_cases hz : f2 = 0
      · subst hz
        rw [if_pos rfl]
        refine ⟨k * f1, Int.mul_pos k0 (by omega), ?_, ?_⟩ <;> dsimp only <;> grind
      · rw [if_neg hz]
        refine ⟨k, k0, ?_, ?_⟩ <;> dsimp only <;> grind
theorem front_is {row : List Pc} {v : Int × Int} (h : OkR row) (hv : Pr v) : front row v = shownC row v := by
  obtain ⟨k, k0, e1, e2⟩ := led_front h hv
  unfold front shownC
  rw [led_chain]
  exact (low_scale (frontU_pr h hv) k0 e1 e2).symm

/-! ### equal fractions, equal fronts -/
theorem led_pr {m : Ch × Int} {v : Int × Int} (g : Good m) (hv : Pr v) : Pr (ledC m.1 v) := by
  obtain ⟨⟨a, b, c, d⟩, s⟩ := m
  obtain ⟨x, y⟩ := v
  obtain ⟨h1, h2, h3, h4, h5, h6⟩ := g
  obtain ⟨q1, q2, q3⟩ := hv
  dsimp only at *
  have ss : 0 < s * s := Int.mul_pos (by omega) (by omega)
  have bc := Int.mul_nonneg h2 h3
  have ad : 0 < a * d := by omega
  have a0 : 0 < a := by
    rcases Int.lt_or_eq_of_le h1 with z | z
    · exact z
    · rw [← z, Int.zero_mul] at ad; omega
  have d0 : 0 < d := by
    rcases Int.lt_or_eq_of_le h4 with z | z
    · exact z
    · rw [← z, Int.mul_zero] at ad; omega
  have ax := Int.mul_nonneg h1 q1
  have by' := Int.mul_nonneg h2 q2
  have cx := Int.mul_nonneg h3 q1
  have dy := Int.mul_nonneg h4 q2
  unfold ledC Pr
  dsimp only
  refine ⟨by omega, by omega, ?_⟩
  rcases q3 with z | z
  · have := Int.mul_pos a0 z
    exact .inl (by omega)
  · have := Int.mul_pos d0 z
    exact .inr (by omega)
theorem ad_pos {m : Ch × Int} (g : Good m) : 0 < m.1.a ∧ 0 < m.1.d := by
  obtain ⟨⟨a, b, c, d⟩, s⟩ := m
  obtain ⟨h1, h2, h3, h4, h5, h6⟩ := g
  dsimp only at *
  have ss : 0 < s * s := Int.mul_pos (by omega) (by omega)
  have bc := Int.mul_nonneg h2 h3
  have ad : 0 < a * d := by omega
  constructor
  · rcases Int.lt_or_eq_of_le h1 with z | z
    · exact z
    · rw [← z, Int.zero_mul] at ad; omega
  · rcases Int.lt_or_eq_of_le h4 with z | z
    · exact z
    · rw [← z, Int.mul_zero] at ad; omega
/-- the same fractions -/
def Prop4 (m n : Ch × Int) : Prop := m.1.a * n.2 = n.1.a * m.2 ∧ m.1.b * n.2 = n.1.b * m.2 ∧ m.1.c * n.2 = n.1.c * m.2 ∧ m.1.d * n.2 = n.1.d * m.2
theorem cancel {x y k : Int} (hk : 0 < k) (h : k * x = k * y) : x = y := Int.eq_of_mul_eq_mul_left (by omega) h
theorem prop4_of {m n : Ch × Int} (g : Good m) (g' : Good n) (e1 : m.1.b * n.1.d = n.1.b * m.1.d) (e2 : m.1.a * n.1.c = n.1.a * m.1.c)
    (e3 : (m.1.a + m.1.b) * (n.1.c + n.1.d) = (n.1.a + n.1.b) * (m.1.c + m.1.d)) : Prop4 m n := by
  obtain ⟨a0, d0⟩ := ad_pos g
  obtain ⟨a0', d0'⟩ := ad_pos g'
  obtain ⟨⟨a, b, c, d⟩, s⟩ := m
  obtain ⟨⟨a', b', c', d'⟩, s'⟩ := n
  obtain ⟨h1, h2, h3, h4, h5, h6⟩ := g
  obtain ⟨k1, k2, k3, k4, k5, k6⟩ := g'
  dsimp only at *
  have ss : 0 < s * s := Int.mul_pos (by omega) (by omega)
  have ad : a * d' = a' * d := by
    have z : a * d' + b * c' = a' * d + b' * c := by grind
    have z2 : (s * s) * (a * d') = (s * s) * (a' * d) := by grind
    exact cancel ss z2
  have sa : s' * a = a' * s := by
    have z : (s' * a) * (s' * a) = (a' * s) * (a' * s) := by
      have z1 : d * ((s' * a) * (s' * a)) = d * ((a' * s) * (a' * s)) := by grind
      exact cancel d0 z1
    have p1 := Int.mul_nonneg (show 0 ≤ s' by omega) h1
    have p2 := Int.mul_nonneg k1 (show 0 ≤ s by omega)
    have z2 : (s' * a - a' * s) * (s' * a + a' * s) = 0 := by grind
    rcases Int.mul_eq_zero.mp z2 with z3 | z3
    · omega
    · omega
  refine ⟨by show a * s' = a' * s; grind, ?_, ?_, ?_⟩
  · show b * s' = b' * s
    refine cancel (Int.mul_pos a0 d0) ?_
    grind
  · show c * s' = c' * s
    exact cancel a0 (by grind)
  · show d * s' = d' * s
    exact cancel a0 (by grind)
theorem prop4_led {m n : Ch × Int} (g : Good m) (g' : Good n) (h : Prop4 m n) (v : Int × Int) : (ledC m.1 v).1 * (ledC n.1 v).2 = (ledC n.1 v).1 * (ledC m.1 v).2 := by
  obtain ⟨⟨a, b, c, d⟩, s⟩ := m
  obtain ⟨⟨a', b', c', d'⟩, s'⟩ := n
  obtain ⟨x, y⟩ := v
  obtain ⟨h1, h2, h3, h4⟩ := h
  have s0 := g.s
  have s0' := g'.s
  unfold ledC
  dsimp only at *
  refine cancel (Int.mul_pos (show 0 < s by omega) (show 0 < s' by omega)) ?_
  grind
theorem pr_n {x s : Int} (hx : 0 ≤ x) (hs : 1 ≤ s) : Pr (x, s) := ⟨hx, by dsimp only; omega, .inr (by dsimp only; omega)⟩
theorem nums_iff {one two : List Pc} (h : OkR one) (h' : OkR two) (l : one.length ≤ 8) (l' : two.length ≤ 8) : nums one = nums two ↔ Prop4 (chain one) (chain two) := by
  obtain ⟨g, _⟩ := chain_ok h l
  obtain ⟨g', _⟩ := chain_ok h' l'
  unfold nums Prop4
  simp only [List.cons.injEq, and_true]
  rw [low_iff (pr_n g.a g.s) (pr_n g'.a g'.s), low_iff (pr_n g.b g.s) (pr_n g'.b g'.s), low_iff (pr_n g.c g.s) (pr_n g'.c g'.s), low_iff (pr_n g.d g.s) (pr_n g'.d g'.s)]
theorem shown_of {one two : List Pc} (h : OkR one) (h' : OkR two) (l : one.length ≤ 8) (l' : two.length ≤ 8) (e : nums one = nums two) {v : Int × Int} (hv : Pr v) : shownC one v = shownC two v := by
  obtain ⟨g, _⟩ := chain_ok h l
  obtain ⟨g', _⟩ := chain_ok h' l'
  unfold shownC
  rw [low_iff (led_pr g hv) (led_pr g' hv)]
  exact prop4_led g g' ((nums_iff h h' l l').mp e) v
theorem pr01 : Pr (0, 1) := ⟨by decide, by decide, .inr (by decide)⟩
theorem pr11 : Pr (1, 1) := ⟨by decide, by decide, .inr (by decide)⟩
theorem pr10 : Pr (1, 0) := ⟨by decide, by decide, .inl (by decide)⟩
/-- THE LAW's mathematics: two rows have the same four fractions exactly if they show the same in front of (0, 1), (1, 1), (1, 0) -/
theorem fronts_iff {one two : List Pc} (h : OkR one) (h' : OkR two) (l : one.length ≤ 8) (l' : two.length ≤ 8) : fronts one = fronts two ↔ nums one = nums two := by
  obtain ⟨g, _⟩ := chain_ok h l
  obtain ⟨g', _⟩ := chain_ok h' l'
  unfold fronts
  rw [front_is h pr01, front_is h pr11, front_is h pr10, front_is h' pr01, front_is h' pr11, front_is h' pr10]
  constructor
  · intro e
    simp only [List.cons.injEq, and_true] at e
    obtain ⟨e1, e2, e3⟩ := e
    unfold shownC at e1 e2 e3
    rw [low_iff (led_pr g pr01) (led_pr g' pr01)] at e1
    rw [low_iff (led_pr g pr11) (led_pr g' pr11)] at e2
    rw [low_iff (led_pr g pr10) (led_pr g' pr10)] at e3
    rw [nums_iff h h' l l']
    unfold ledC at e1 e2 e3
    dsimp only at e1 e2 e3
    simp only [Int.mul_zero, Int.mul_one, Int.zero_add, Int.add_zero] at e1 e2 e3
    exact prop4_of g g' e1 e3 e2
  · intro e
    rw [shown_of h h' l l' e pr01, shown_of h h' l l' e pr11, shown_of h h' l l' e pr10]
/-- the pair itself is bounded -/
theorem led_bd {m : Ch × Int} {v : Int × Int} (g : Good m) (b : Bd 815730721 m) (h1 : 0 ≤ v.1) (h2 : 0 ≤ v.2) (h3 : v.1 ≤ 1000000000000) (h4 : v.2 ≤ 1000000000000) :
    (ledC m.1 v).1 ≤ 1631461442000000000000 ∧ (ledC m.1 v).2 ≤ 1631461442000000000000 := by
  obtain ⟨⟨a, b', c, d⟩, s⟩ := m
  obtain ⟨x, y⟩ := v
  obtain ⟨q1, q2, q3, q4, q5, q6⟩ := g
  obtain ⟨b1, b2, b3, b4, b5⟩ := b
  dsimp only at *
  have m1 : ∀ p z : Int, 0 ≤ p → p ≤ 815730721 → 0 ≤ z → z ≤ 1000000000000 → p * z ≤ 815730721000000000000 := fun p z p0 p1 z0 z1 => by
    have e1 : p * z ≤ p * 1000000000000 := Int.mul_le_mul_of_nonneg_left z1 p0
    omega
  have e1 := m1 a x q1 b1 h1 h3
  have e2 := m1 b' y q2 b2 h2 h4
  have e3 := m1 c x q3 b3 h1 h3
  have e4 := m1 d y q4 b4 h2 h4
  unfold ledC
  dsimp only
  constructor <;> omega
end K13

namespace K13
open PySem PySem.Spec PyProof.Rows L2

/-! ### an attribute as a target -/
def gFld (K : PySem.W.Frag) (to : TE) (f : Str) : TG := fun v σ H Q => to σ H fun x H1 =>
  ∃ a C dx fs, x = .ref a ∧ H1 a = some (.ins C dx fs) ∧ Cls K C ∧ NoAttr K C f ∧ fs.length < 1000 ∧ Q σ (upd H1 a (.ins C dx (putF f v fs)))
theorem pg_fld {X : Cx} {o : Expr} {f : Str} {pos : Pos} {to : TE} (ho : PE X o to) : PG X (.Attribute o f pos) (gFld X.K to f) := by
  constructor
  intro pins s σ H v u Q I rv hw
  refine PySem.W.kas_attr (thn (ho.run pins s σ H _ I hw) fun ov s1 hx => ?_)
  obtain ⟨x, H1, I1, rx, a, C, dx, fs, ex, ea, hc, hn, hl, q⟩ := hx
  subst ex
  have eo : ov = Value.ref a := rx
  subst eo
  exact setattr_ok I1 ea hc hn hl rv fun s2 I2 => ⟨σ, _, I2, q⟩

/-! ### a staticmethod, called on its class -/
structure SMet (K : PySem.W.Frag) (C : Addr) (mc : Value) (m : Str) (p g : Addr) : Prop where
  look : PySem.W.findCls K (.ref C) mc m = some (.get (.builtin "staticmethod.__get__") (.ref p) .none (.ref C))
  recd : ∃ more, PySem.W.recIn K p "staticmethod" = some (.ref g :: more)
  kp : PySem.W.keepIn K (.ref g) = true
def tSMeth (C : Addr) (sp : Sp) (to : TE) (ta : TA) : TE := fun σ H Q => to σ H fun x H1 => x = .ref C ∧ ta σ H1 fun vs H2 => sp vs H2 Q E0
theorem pe_smeth {X : Cx} {k : Nat} {C p g : Addr} {mc : Value} {sp : Sp} {fd : FuncData} {ps : List Str} {o e : Expr} {es : List Expr} {m : Str} {pos apos : Pos} {to : TE} {ta : TA} {pl : Sem Bool}
    (ho : PE X o to) (hrd : ClX.CRead X.K C mc) (hm : SMet X.K C mc m p g) (F : FnOk X.prog X.w X.K X.mg X.base CX0 k g fd ps sp) (room : Room k X.A) (hb : Binds X.K fd ps []) (args : PA X (e :: es) ta)
    (h1 : starEach (e :: es) X.env = (false, eval e X.env) :: starEach es X.env := by rfl) (h2 : (backTo pos (starEach es X.env)).any (·.1) = false := by rfl)
    (h3 : eval (.Call (.Attribute o m apos) (e :: es) [] pos) X.env = (do
      let base ← eval o X.env
      standAt apos.atName
      let (f, first) ← holding [base] (getMethod base m pl)
      callWith pos f first (backTo pos (starEach (e :: es) X.env)) (backToKw pos (keywordEach [] X.env))) := by rfl) :
    PE X (.Call (.Attribute o m apos) (e :: es) [] pos) (tSMeth C sp to ta) := by
  constructor
  intro pins s σ H Q I hw
  refine PySem.W.methodCall_KW (pl := pl) (thn (ho.run pins s σ H _ I hw) fun u s1 hx => ?_) h3
  obtain ⟨x, H1, I1, rx, ex, q⟩ := hx
  subst ex
  have eu : u = Value.ref C := rx
  subst eu
  obtain ⟨more, hp⟩ := hm.recd
  refine PySem.W.method_cls I1.kIn hrd.ga (PySem.W.cls_bind I1.kIn hrd.rd hm.look (wpAny_call ?_))
  refine PySem.W.sm_get (s := { s1 with toks := s1.toks + 1 }) I1.kIn hp (PySem.W.handed_on rfl ?_)
  have I2 := I1.tok (s1.toks + 1)
  refine PySem.W.callWith_K (h₀ := X.base) I2.ok.mod.kin hm.kp (thn (args.run pos pins _ σ H1 _ I2 q) fun us s3 hy => ?_) h1 h2
  obtain ⟨vs, H3, I3, rv, q3⟩ := hy
  exact ⟨I3.kIn, run_fn F room hb .nil pass0 I3 rv (by rw [List.append_nil]; exact q3)⟩

/-! ### a def of the text run one level further in -/
theorem run_in1 {X : Cx} {k : Nat} {f : Addr} {fd : FuncData} {ps : List Str} {sp : Sp} {pins : List (Addr × Obj)} {σ : L2.St} {H : Hp} {s : Shared} {Q : VK} {us : List Value} {vs : List V} {E' : Value → Shared → Prop}
    (F : FnOk X.prog X.w X.K X.mg X.base CX0 k f fd ps sp) (room : Room (k + 1) X.A) (hb : Binds X.K fd ps []) (I : Inv X pins σ H s) (rv : Vals vs us) (hw : sp vs H Q E0) :
    wpAny (model X.prog X.w) X.A.in1 (call (.ref f) us) (EP X pins σ Q) E' s := by
  have hl : (us ++ []).length = ps.length := by
    rw [List.append_nil, ← rv.length]
    exact F.len _ _ _ _ hw
  have bb := hb s us I.kIn hl
  rw [List.append_nil] at bb
  refine wpAny_call (codeAny_mono (F.run X.A.in1 X.stack s H ⟨us, []⟩ us vs Q E0 room.in1 I.env0.in1 bb rv hw) fun r s' z => ?_)
  cases r with
  | error er => exact z.elim
  | ok fl => cases fl with
    | ret u => exact I.after z
    | next => exact z.elim
    | brk => exact z.elim
    | cont => exact z.elim

/-! ### == and != of two instances of a class with its own __eq__, whatever it answers -/
structure OwnEq (K : PySem.W.Frag) (C f : Addr) : Prop where
  eq : PySem.W.findIn K (.ref C) "__eq__" = some (some (.ref f))
  fn : PySem.W.isFn K (.ref f) = true
structure OwnNe (K : PySem.W.Frag) (C : Addr) : Prop where
  ne : PySem.W.findIn K (.ref C) "__ne__" = some (some (.builtin "object.__ne__"))
  sub : PySem.W.subIn K (.ref C) (.type "object") = some true
def rOwn (C : Addr) (sp : Sp) (neg : Bool) : R2 := fun x y H Q => ∃ a b dx dy fs gs, x = .ref a ∧ y = .ref b ∧ H a = some (.ins C dx fs) ∧ H b = some (.ins C dy gs) ∧
  sp [.ref a, .ref b] H (fun v H' => ∃ k, v = .bl k ∧ Q (.bl (neg != k)) H') E0
theorem op_eqOwn {X : Cx} {n : Nat} {C f : Addr} {fd : FuncData} {ps : List Str} {sp : Sp} (F : FnOk X.prog X.w X.K X.mg X.base CX0 n f fd ps sp) (room : Room n X.A) (he : OwnEq X.K C f) (hb : Binds X.K fd ps []) :
    OpR X (compareOp .Eq) (rOwn C sp false) := by
  intro pins s σ H x y v u Q I rx ry hw
  obtain ⟨a, b, dx, dy, fs, gs, rfl, rfl, ha, hb2, q⟩ := hw
  have ev : v = Value.ref a := rx
  have eu : u = Value.ref b := ry
  subst ev eu
  obtain ⟨m1, O1, _⟩ := ins_get I.hok ha
  obtain ⟨m2, O2, _⟩ := ins_get I.hok hb2
  obtain ⟨od1, J1, _⟩ := O1.look
  obtain ⟨od2, J2, _⟩ := O2.look
  obtain ⟨m, hF⟩ := I.fr
  show wpAny (model X.prog X.w) X.A (richCompare .Eq (.ref a) (.ref b)) (EP X pins σ Q) X.xe s
  refine PySem.W.cmp_K (op := .Eq) (tb := .ref C) room.units0 hF I.ok.mod.kin J1 J2.type (by simp [PySem.W.notFirst]) he.eq he.fn ?_
  have r2 : Vals [V.ref a, V.ref b] [Value.ref a, Value.ref b] := .cons rfl (.cons rfl .nil)
  refine thn (run_fn (dvs := []) F room hb .nil pass0 I r2 q) fun w s' hz => ?_
  obtain ⟨z, H', I', rz, k, ez, q'⟩ := hz
  subst ez
  have ew : w = Value.bool k := rz
  subst ew
  rw [Bool.false_bne] at q'
  exact ⟨.bl k, H', I', rfl, q'⟩

section
open PySem.W Builtin
variable {K : Frag} {prog : Program} {w : World} {A : Around} {E : Value → Shared → Prop} {s : Shared} {x y C f : Addr} {ox od : Obj}
/-- the special name of the class is object's own wrapper -/
theorem bound_obj {name : Str} {id : String} {rest : List Value} {Q : Option Value → Shared → Prop} (KX : K.In s.heap) (J : InstAt s.heap x ox C (some od)) (hs : findIn K (.ref C) name = some (some (.builtin id))) (S : Slot "object" name id)
    (h : wpAny (model prog w) A (call (.builtin id) (.ref x :: rest)) (fun v => Q (some v)) E s) : wpAny (model prog w) A (callSpecialIfBound? (.ref x) name rest) Q E s := by
  simp only [callSpecialIfBound?, bindSpecialIfBound?]
  refine wpAny_holding (wpAny_bind (wpAny_bind (wpAny_bind (J.type.here ((looks_findIn KX hs).here ?_)))))
  simp only [S.bind]
  refine wpAny_bind (wpAny_askSetting (wpAny_ite ?_))
  have last : wpAny (model prog w) A (call (.builtin id) ([.ref x] ++ rest) >>= fun v => pure (some v)) Q E s := wpAny_bind (wpAny_mono h (fun _ _ q => wpAny_pure q) fun _ _ q => q)
  split
  · exact wpAny_bind (wpAny_pure (wpAny_pure last))
  · exact wpAny_tryCatch (wpAny_bind (wpAny_pure (wpAny_pure last)))
theorem check_obj {id n : String} {rest : List Value} {Q : Unit → Shared → Prop} (KX : K.In s.heap) (J : InstAt s.heap x ox C (some od)) (hsub : subIn K (.ref C) (.type "object") = some true) (hk : builtinKind id = some .slot) (hs : splitId id = some ("object", n))
    (ha : argsOk id ⟨.ref x :: rest, []⟩) (q : Q () s) : wpAny (model prog w) A (checkBuiltinCall id ⟨.ref x :: rest, []⟩) Q E s := by
  simp only [checkBuiltinCall, hk, hs]
  refine wpAny_bind ?_
  unfold isInstance
  refine wpAny_bind (J.type.here ((looks_subIn KX hsub).here ?_))
  cases e : Manifest.signature? id with
  | none => exact wpAny_pure q
  | some sig =>
    simp only [argsOk, e] at ha
    have h2 : Bind.checkArgs id sig ⟨.ref x :: rest, []⟩ = pure () := ha
    show wpAny (model prog w) A (Bind.checkArgs id sig ⟨.ref x :: rest, []⟩) Q E s
    rw [h2]
    exact wpAny_pure q
theorem ne_entry {Q : Fin → Shared → Prop} (KX : K.In s.heap) (J : InstAt s.heap x ox C (some od)) (hs : findIn K (.ref C) "__eq__" = some (some (.ref f))) (hf : isFn K (.ref f) = true) (hu : A.units < cLine)
    (h : wpAny (model prog w) A (call (.ref f) [.ref x, .ref y]) (fun v s' => ∃ b, v = .bool b ∧ Q (.done (.ret (.bool (!b)))) s') E s) : wpAny (model prog w) A (Builtin.«object.__ne__» ⟨[.ref x, .ref y], []⟩) Q E s := by
  unfold Builtin.«object.__ne__»
  have goal : wpAny (model prog w) A (callSpecialIfBound? (.ref x) (Str.ofString "__eq__") [.ref y]) (fun r s' => ∃ b, r = some (.bool b) ∧ Q (.done (.ret (.bool (!b)))) s') E s :=
    ifBound_K KX J hs hf (wpAny_mono h (fun v s' z => by
      obtain ⟨b, rfl, q⟩ := z
      exact ⟨b, rfl, q⟩) fun _ _ z => z)
  have step : ∀ {k : Option Value → Sem Fin}, (∀ b s', Q (.done (.ret (.bool (!b)))) s' → wpAny (model prog w) A (k (some (.bool b))) Q E s') → wpAny (model prog w) A (callSpecialIfBound? (.ref x) (Str.ofString "__eq__") [.ref y] >>= k) Q E s := fun hk =>
    wpAny_bind (wpAny_mono goal (fun r s' z => by
      obtain ⟨b, rfl, q⟩ := z
      exact hk b s' q) fun _ _ z => z)
  repeat (first
    | with_reducible refine wpAny_cRoomFor hu ?_
    | (refine step fun b s' q => ?_)
    | (with_reducible refine wpAny_bind (m := truthy (.bool _)) (wpAny_truthy_bool ?_))
    | exact q
    | exact wpAny_pure q
    | wp_step)
theorem rich_ne {Q : Value → Shared → Prop} {oy odY : Obj} (KX : K.In s.heap) (J : InstAt s.heap x ox C (some od)) (JY : InstAt s.heap y oy C (some odY)) (he : OwnEq K C f) (hne : OwnNe K C) (hu : A.units + 1 < cLine)
    (h : wpAny (model prog w) A.in1 (call (.ref f) [.ref x, .ref y]) (fun v s' => ∃ b, v = .bool b ∧ Q (.bool (!b)) s') E s) : wpAny (model prog w) A (richCompare .NotEq (.ref x) (.ref y)) Q E s := by
  have one : wpAny (model prog w) A (tryCompare (.ref x) "__ne__" (.ref y)) (fun r s' => ∃ v, r = some v ∧ Q v s') E s := by
    unfold tryCompare
    refine wpAny_bind (bound_obj KX J hne.ne F.cmp_object.ne ?_)
    refine wpAny_call (codeAny_call_builtin F.cmp_object.ne.plain F.cmpEntry_ne (check_obj KX J hne.sub F.cmpKind_ne F.cmpSplit_ne (F.cmpArgs_ne _ _) ?_))
    refine ne_entry (A := A.in1) KX J he.eq he.fn hu (wpAny_mono h (fun v s' z => ?_) fun _ _ z => z)
    obtain ⟨b, rfl, q⟩ := z
    first | exact ⟨b, rfl, wpAny_pure ⟨_, rfl, q⟩⟩ | exact ⟨b, rfl, ⟨_, rfl, q⟩⟩ | exact ⟨b, rfl, wpAny_pure (wpAny_pure ⟨_, rfl, q⟩)⟩
  unfold richCompare
  simp only [oneThing_ref]
  refine wpAny_holding (wpAny_bind (wpAny_cRoomFor (Nat.lt_of_succ_lt hu) ?_))
  rw [cmpInfo_NotEq]
  dsimp only
  refine wpAny_bind (J.type.here (wpAny_bind (JY.type.here ?_)))
  rw [show (Value.ref C != Value.ref C) = false from by simp]
  simp only [Bool.false_eq_true, if_false]
  refine wpAny_bind (wpAny_pure ?_)
  simp only [Bool.false_eq_true, if_false]
  refine wpAny_bind (wpAny_mono one (fun r s' z => ?_) fun _ _ z => z)
  obtain ⟨v, rfl, q⟩ := z
  exact wpAny_pure q
end
theorem op_neOwn {X : Cx} {n : Nat} {C f : Addr} {fd : FuncData} {ps : List Str} {sp : Sp} (F : FnOk X.prog X.w X.K X.mg X.base CX0 n f fd ps sp) (room : Room (n + 1) X.A) (he : OwnEq X.K C f) (hne : OwnNe X.K C) (hb : Binds X.K fd ps []) :
    OpR X (compareOp .NotEq) (rOwn C sp true) := by
  intro pins s σ H x y v u Q I rx ry hw
  obtain ⟨a, b, dx, dy, fs, gs, rfl, rfl, ha, hb2, q⟩ := hw
  have ev : v = Value.ref a := rx
  have eu : u = Value.ref b := ry
  subst ev eu
  obtain ⟨m1, O1, _⟩ := ins_get I.hok ha
  obtain ⟨m2, O2, _⟩ := ins_get I.hok hb2
  obtain ⟨od1, J1, _⟩ := O1.look
  obtain ⟨od2, J2, _⟩ := O2.look
  show wpAny (model X.prog X.w) X.A (richCompare .NotEq (.ref a) (.ref b)) (EP X pins σ Q) X.xe s
  refine rich_ne I.kIn J1 J2 he hne (hu_of room) ?_
  have r2 : Vals [V.ref a, V.ref b] [Value.ref a, Value.ref b] := .cons rfl (.cons rfl .nil)
  refine thn (run_in1 F room hb I r2 q) fun w s' hz => ?_
  obtain ⟨z, H', I', rz, k, ez, q'⟩ := hz
  subst ez
  have ew : w = Value.bool k := rz
  subst ew
  rw [Bool.true_bne] at q'
  exact ⟨k, rfl, .bl (!k), H', I', rfl, q'⟩

/-! ### enumerate over a tuple -/
theorem new_enumT (t : Addr) (items : Array Value) :
    Meets (Builtin.«enumerate.__new__» ⟨[.type "enumerate", .ref t], []⟩) (fun _ R s => s.heap.IsTuple t items ∧
      R (.ok (.ret (.ref (s.heap.push { cls := .type "tuple_iterator", data := .fields #[.ref t, .int 0 0] }).objs.size)))
        { s with heap := (s.heap.push { cls := .type "tuple_iterator", data := .fields #[.ref t, .int 0 0] }).push { cls := .type "enumerate", data := .fields #[.none, .bool false, .ref s.heap.objs.size, rawInt 0, .none, .none] } }) :=
  .of_wp fun prog w A R s h => by
    obtain ⟨hp, g, d, tk, os⟩ := s
    obtain ⟨hT, h⟩ := h
    have hsub := sub_enumerate
    have go : ∀ {A' : Around} {E : Value → Shared → Prop} {Q : Value → Shared → Prop}, Q (.ref hp.objs.size) ⟨hp.push { cls := .type "tuple_iterator", data := .fields #[.ref t, .int 0 0] }, g, d, tk, os⟩ → wpAny (model prog w) A' (pyIter (.ref t)) Q E ⟨hp, g, d, tk, os⟩ :=
      fun q => wpAny_pyIter_tuple (s := ⟨hp, g, d, tk, os⟩) hT q
    wp_walk using go
    refine wpAny_stack_any fun st => wpAny_pure ?_
    split
    · rename_i c _ _ _ _ _
      cases (c == Value.type "enumerate")
      all_goals
        wp_walk using go
        exact ⟨_, rfl, h⟩
    · wp_walk using go
      exact ⟨_, rfl, h⟩
section
variable {prog : Program} {w : World} {A : Around} {E : Value → Shared → Prop} {s : Shared}
theorem call_enumT {t : Addr} {items : Array Value} {Q : Value → Shared → Prop} (hT : s.heap.IsTuple t items)
    (h : ∀ h', IsEnum h' (s.heap.objs.size + 1) s.heap.objs.size 0 .none → h'.IsTupleIter s.heap.objs.size t 0 → (∀ b o, s.heap.get? b = some o → h'.get? b = some o) → Q (.ref (s.heap.objs.size + 1)) { s with heap := h' }) :
    wpAny (model prog w) A (call (.type "enumerate") [.ref t]) Q E s := by
  refine callType_new F.called_enumerate (by decide) (F.typeCall_enumerate_1 _) (F.newCall_enumerate_1 _) (fun obj => F.args_object_init_2 obj _) F.entry_enumerate_new (new_enumT t items) ⟨hT, ?_⟩
  have hz : (s.heap.push { cls := .type "tuple_iterator", data := .fields #[.ref t, .int 0 0] }).objs.size = s.heap.objs.size + 1 := Heap.size_push ..
  show _ ∧ _
  rw [hz]
  have he : IsEnum ((s.heap.push { cls := .type "tuple_iterator", data := .fields #[.ref t, .int 0 0] }).push
      { cls := .type "enumerate", data := .fields #[.none, .bool false, .ref s.heap.objs.size, rawInt 0, .none, .none] }) (s.heap.objs.size + 1) s.heap.objs.size 0 .none := by
    have z := Heap.get?_push_size (s.heap.push { cls := .type "tuple_iterator", data := .fields #[.ref t, .int 0 0] })
      (o := { cls := .type "enumerate", data := .fields #[.none, .bool false, .ref s.heap.objs.size, rawInt 0, .none, .none] }) rfl
    rw [hz] at z
    exact z
  exact ⟨⟨_, he, rfl⟩, h _ he ⟨_, Heap.get?_push_of_some _ (Heap.get?_push_size _ rfl), rfl, rfl⟩ fun b o x => Heap.get?_push_of_some _ (Heap.get?_push_of_some _ x)⟩
end
/-- the tuple at a, each item in a new pair behind its place -/
def IteT (K : PySem.W.Frag) (a : Addr) : It :=
  ⟨fun i H => ∃ (xs : List V) (x : V), SqT K H a xs ∧ xs[i]? = some x, fun i H v H' => ∃ T x, v = .ref T ∧ H T = none ∧ H' = upd H T (.tup [.int (i : Nat), x]) ∧ ∀ xs, SqT K H a xs → xs[i]? = some x, fun i H => ∃ xs : List V, SqT K H a xs ∧ xs.length = i⟩
theorem turn_enumT {P : Program} {w : World} {K : PySem.W.Frag} {elts : List Expr} {kk : Nat} {tpos : Pos} (a e it : Addr) (hai : a ≠ it) (hae : a ≠ e) :
    Turn P w K (.Tuple elts kk tpos) (IteT K a) [e, it] e (fun i h => (∃ old, IsEnum h e it ((i : Nat) : Int) old) ∧ h.IsTupleIter it a i ∧ e ≠ it) where
  mem := by simp
  obj := fun i h st b hb => by
    obtain ⟨⟨old, he⟩, ⟨o, ho, hc, hd⟩, _⟩ := st
    rcases (show b = e ∨ b = it by simpa using hb) with z | z
    · subst z
      exact ⟨_, he, fun v q => nomatch q⟩
    · subst z
      exact ⟨o, ho, fun v q => by rw [hd] at q; cases q⟩
  keep := fun i h h' st k => let ⟨⟨old, he⟩, hi, hne⟩ := st; ⟨⟨old, k e (by simp) _ he⟩, hi.at fun o q => k it (by simp) o q, hne⟩
  item := by
    intro X hP hw hK hc i pins s σ H E I hf st hg
    subst hP hw hK
    obtain ⟨⟨old, he⟩, hit, hne⟩ := st
    obtain ⟨xs, x, hq, hx⟩ := hg
    obtain ⟨its, rv, p, hz⟩ := I.tuple hq
    obtain ⟨u, hu, ru⟩ := rv.get hx
    have hel : e < s.heap.objs.size := Heap.lt_size he
    have hil : it < s.heap.objs.size := by obtain ⟨_, q, _⟩ := hit; exact Heap.lt_size q
    have D := Draws.tuple (prog := X.prog) (w := X.w) (A := X.A.in1) (I.ok.hd hc) it a hai its.toArray
    have hlt : i < its.toArray.size := by
      have := (List.getElem?_eq_some_iff.mp hu).1
      simpa using this
    refine wpAny_pyNext_enum_itemD D he ⟨hit, p⟩ hlt hne (by simp; exact ⟨hne, Ne.symm hae⟩) fun y h' tk hy ho st' hT hsz hk => ?_
    have ey : y = u := by
      have q : its[i]? = some y := by simpa using hy
      rw [hu] at q
      exact (Option.some.inj q).symm
    subst ey
    refine ⟨_, rfl, wpAny_letOwnedTupleGo_enum (s := { s with heap := h', toks := tk + 1 }) ho fun h'' he' sb => ?_⟩
    have hT2 : h''.get? s.heap.objs.size = some { cls := .type "tuple", data := .seq #[.int i tk, y] } := (sb.2 _ (Nat.ne_of_gt hel)).trans hT
    have new : ObjOk X.prog X.w (upd H s.heap.objs.size (.tup [.int (i : Nat), x])) h'' s.heap.objs.size (.tup [.int (i : Nat), x]) :=
      ⟨by show 2 ≤ sizeLine; decide, [.int i tk, y], .cons ⟨_, rfl⟩ (.cons ru .nil), ⟨_, hT2, rfl, _, rfl⟩⟩
    have kk : ∀ b ob, b ∉ [e, it] → s.heap.get? b = some ob → h''.get? b = some ob := fun b ob hb q =>
      (sb.2 b (fun z => hb (by simp [z]))).trans (hk b ob (fun z => hb (by simp [z])) (fun z => hb (by simp [z])) q)
    have I1 : Inv X pins σ (upd H s.heap.objs.size (.tup [.int (i : Nat), x])) { s with heap := h'', toks := tk + 1 } := I.turnedNew (ch := [e, it]) kk hf (Nat.le_refl _) new
    refine ⟨.ref s.heap.objs.size, _, I1, rfl, ⟨_, x, rfl, I.hok.fresh (Nat.le_refl _), rfl, fun ys hy2 => by rw [I.tuple_inj hy2 hq]; exact hx⟩, ⟨⟨y, ?_⟩, st'.1.at fun o q => (sb.2 it (Ne.symm hne)).trans q, hne⟩, fun b hb => ?_⟩
    · rw [show ((i + 1 : Nat) : Int) = (i : Int) + 1 by omega]
      exact he'
    · have hb' : b < s.heap.objs.size := by
        rcases (show b = e ∨ b = it by simpa using hb) with z | z
        · subst z; exact hel
        · subst z; exact hil
      rw [upd_ne (Nat.ne_of_lt hb')]
      exact (hf b hb).1
  done := by
    intro X hP hw hK hc i pins s σ H E I hf st hg
    subst hP hw hK
    obtain ⟨⟨old, he⟩, hit, hne⟩ := st
    obtain ⟨xs, hq, hx⟩ := hg
    obtain ⟨its, rv, p, hz⟩ := I.tuple hq
    obtain ⟨f0, f1, f2, f3, f4, f5⟩ := hf it (by simp)
    have hl := rv.length
    have D := Draws.tuple (prog := X.prog) (w := X.w) (A := X.A.in1) (I.ok.hd hc) it a hai its.toArray
    have ei : its.toArray.size = i := by rw [← hx, hl, List.size_toArray]
    exact wpAny_pyNext_enum_endD D he (by rw [ei]; exact ⟨hit, p⟩) fun h' eb => ⟨rfl, I.turned (t' := s.toks) (fun b o hb q => eb b o hb q) f0 f1 f3 f4 f5⟩
  self := fun A i s Q E st h => let ⟨⟨_, he⟩, _⟩ := st; wpAny_pyIter_enum he h
def iEnumT (K : PySem.W.Frag) (ta : TA) : TI := fun σ H R => ta σ H fun vs H1 => ∃ a xs, vs = [.ref a] ∧ SqT K H1 a xs ∧ R (IteT K a) H1
theorem pi_enumT {X : Cx} {e : Expr} {ta : TA} {p pos tpos : Pos} {elts : List Expr} {kk : Nat} (hg : Gl X "enumerate") (hm : X.mg "enumerate" = none) (ha : PA X [e] ta) (hs : starEach [e] X.env = [(false, eval e X.env)] := by rfl) :
    PI X (.Tuple elts kk tpos) (.Call (.Name "enumerate" p) [e] [] pos) (iEnumT X.K ta) := by
  constructor
  intro pins s σ H R I hw
  refine Call_ (ld_blt I hg hm boot_enumerate (PyProof.Rows.callWith_type1 (thn (ha.run pos pins s σ H _ I hw) fun us s1 hx => ?_) hs rfl))
  obtain ⟨vs, H1, I1, r1, a, xs, ex, hq, q⟩ := hx
  subst ex
  cases r1 with
  | cons r rr =>
    cases rr
    cases r
    obtain ⟨its, rv, p', hz⟩ := I1.tuple hq
    have ha1 : a < s1.heap.objs.size := p'.lt
    refine call_enumT (items := its.toArray) p' fun h' he hit hk => wpAny_pyIter_enum he ?_
    have I2 : Inv X pins σ H1 { s1 with heap := h' } := I1.kept (t' := s1.toks) hk
    refine ⟨s1.heap.objs.size + 1, [s1.heap.objs.size + 1, s1.heap.objs.size], _, _, H1, rfl, I2, turn_enumT a (s1.heap.objs.size + 1) s1.heap.objs.size (Nat.ne_of_lt ha1) (Nat.ne_of_lt (Nat.lt_succ_of_lt ha1)), ⟨⟨.none, he⟩, hit, Nat.succ_ne_self _⟩, fun b hb => ?_, q⟩
    have hle : s1.heap.objs.size ≤ b := by
      rcases (show b = s1.heap.objs.size + 1 ∨ b = s1.heap.objs.size by simpa using hb) with z | z
      · subst z; exact Nat.le_add_right _ _
      · subst z; exact Nat.le_refl _
    exact I1.fpOk hle (I1.hok.fresh hle)
theorem for_enumT {K : PySem.W.Frag} {a : Addr} {xs : List V} {g : TG} {tb : TS} {D : Ends} {σ : L2.St} {H : Hp} (Pv : Nat → L2.St → Hp → Prop) (h0 : Pv 0 σ H) (hl : ∀ i σ H, i ≤ xs.length → Pv i σ H → SqT K H a xs)
    (hs : ∀ i x σ H T, xs[i]? = some x → Pv i σ H → H T = none → g (.ref T) σ (upd H T (.tup [.int (i : Nat), x])) fun σ2 H2 => tb { D with nx := Pv (i + 1), ct := Pv (i + 1), bk := D.nx } σ2 H2) (hd : ∀ σ H, Pv xs.length σ H → D.nx σ H) :
    ∃ W : Nat → Nat → L2.St → Hp → Prop, (∃ m, W 0 m σ H) ∧ ∀ i m σ H, W i m σ H →
      ((IteT K a).stop i H ∧ D.nx σ H) ∨ ((IteT K a).go i H ∧ ∃ N : L2.St → Hp → Prop, (∀ σ' H', N σ' H' → ∃ m', m' < m ∧ W (i + 1) m' σ' H') ∧ ∀ x H', (IteT K a).yld i H x H' → g x σ H' fun σ2 H2 => tb { D with nx := N, ct := N, bk := D.nx } σ2 H2) := by
  refine ⟨fun i m σ H => m = xs.length - i ∧ i ≤ xs.length ∧ Pv i σ H, ⟨xs.length, rfl, Nat.zero_le _, h0⟩, ?_⟩
  rintro i m σ H ⟨rfl, hi, p⟩
  have q := hl i σ H hi p
  by_cases hlt : i < xs.length
  · refine .inr ⟨⟨xs, xs[i], q, List.getElem?_eq_getElem hlt⟩, Pv (i + 1), fun σ' H' p' => ⟨xs.length - (i + 1), by omega, rfl, hlt, p'⟩, fun x H' y => ?_⟩
    obtain ⟨T, z, rfl, hT, rfl, hz⟩ := y
    exact hs i z σ H T (hz xs q) p hT
  · have e : i = xs.length := by omega
    subst e
    exact .inl ⟨⟨xs, q, rfl⟩, hd σ H p⟩

/-! ### repr of a list of bools, where no repr is under way -/
def reprBs (bs : List Bool) : Str := (PyData.list (bs.map PyData.bool)).shown
theorem reads_bools {h : Heap} : ∀ {bs : List Bool} {its : List Value}, Vals (bs.map V.bl) its → ∃ as, ReadsAll h its (bs.map PyData.bool) as ∧ as = []
  | [], _, r => by
    cases r
    exact ⟨[], .nil, rfl⟩
  | b :: bs, _, r => by
    cases r with
    | cons r1 r2 =>
      rename_i u us
      have e : u = Value.bool b := r1
      subst e
      obtain ⟨as, h1, h2⟩ := reads_bools (h := h) r2
      subst h2
      exact ⟨_, .cons (.bool b) h1, rfl⟩
theorem bools_show : ∀ bs : List Bool, PyData.showableAll (bs.map PyData.bool) = true
  | [] => rfl
  | b :: bs => by
    rw [List.map_cons]
    unfold PyData.showableAll
    rw [bools_show bs]
    rfl
theorem bools_dict : ∀ bs : List Bool, PyData.hasDictAll (bs.map PyData.bool) = false
  | [] => rfl
  | b :: bs => by
    rw [List.map_cons]
    unfold PyData.hasDictAll
    rw [bools_dict bs]
    rfl
theorem bools_deep : ∀ bs : List Bool, PyData.depthAll (bs.map PyData.bool) ≤ 0
  | [] => by first | exact Nat.le_refl _ | decide
  | b :: bs => by
    have z := bools_deep bs
    rw [List.map_cons]
    simp only [PyData.depthAll, PyData.depth]
    omega
theorem call_reprBs {X : Cx} {k : Nat} (room : Room k X.A) (hg : X.A.guards = some []) : CallR X (.builtin "repr") (fun xs H Q => ∃ a bs, xs = [.ref a] ∧ SqL X.K H a (bs.map V.bl) ∧ (reprBs bs).length ≤ sizeLine ∧ Q (.str (reprBs bs)) H) := by
  intro pins s σ H xs us Q I r hw
  obtain ⟨a, bs, ex, hq, hz, q⟩ := hw
  subst ex
  obtain ⟨u, eu, ru⟩ := vals1 r
  subst eu
  have e : u = Value.ref a := ru
  subst e
  obtain ⟨its, rv, p, hl⟩ := I.list hq
  obtain ⟨o, n, ho, hc, hd, hdat⟩ := p
  obtain ⟨as, ra, ea⟩ := reads_bools (h := s.heap) rv
  have R : Reads s.heap (.ref a) (.list (bs.map PyData.bool)) (a :: as) := .list ho hc hdat (by simpa using ra)
  have hu := room.units
  have dep : (PyData.list (bs.map PyData.bool)).depth ≤ 1 := by
    have z := bools_deep bs
    simp only [PyData.depth]
    omega
  refine repr_of_reads' (prog := X.prog) (w := X.w) R ?_ ?_ hg ?_ (fun _ _ z => z) (fun h' v tk hk => ?_) hz
  · simp only [PyData.showable]
    exact bools_show bs
  · intro z
    simp only [PyData.hasDict] at z
    rw [bools_dict bs] at z
    cases z
  · omega
  · exact ⟨.str (reprBs bs), H, I.kept (t' := tk) hk, ⟨v, rfl⟩, q⟩
end K13

namespace K13
open PySem PySem.Spec PyProof.Rows L2

/-! ### promises that are kept where no repr is under way -/
structure FnG (P : Program) (w : World) (K : PySem.W.Frag) (mg : Str → Option Value) (base : Heap) (k : Nat) (f : Addr) (fd : FuncData) (ps : List Str) (sp : Sp) : Prop where
  len : ∀ vs H Q E, sp vs H Q E → vs.length = ps.length
  run : ∀ (A : Around) (outer : List Env) (s : Shared) (H : Hp) (args : Args) (us : List Value) (vs : List V) (Q : VK), A.guards = some [] → Room k A → Env0 P w K mg base A outer s H → BindsTo s fd args (ps.zip us) → Vals vs us →
    sp vs H Q E0 → codeAny (model P w) A (.call (.ref f) args) (CR CX0 outer P w H s Q E0) s
section
variable {P : Program} {w : World} {K : PySem.W.Frag} {mg : Str → Option Value} {base : Heap}
theorem fnG_of {x qual : Str} {st : Stmt} {f : Addr} {fd : FuncData} {N ps : List Str} {k : Nat} {sp : Sp} (F : Fun K x qual st f fd) (S : FnScope N ps (defScope st)) (len : ∀ vs H Q E, sp vs H Q E → vs.length = ps.length)
    (hbody : ∀ (cdv : Value) (A : Around) (outer : List Env) (s : Shared) (H : Hp) (vs : List V) (Q : VK), A.guards = some [] → Room k (A.deeper (envOfC qual (defScope st) s.heap.objs.size f cdv)) → sp vs H Q E0 →
      ∃ t, PSs (cxOf CX0 P w K mg base N qual (defScope st) f cdv A outer s H E0).nox (defBody st) t ∧ t { nx := fun _ H' => Q .non H', rt := Q } (start N vs) H) : FnG P w K mg base (k + 1) f fd ps sp := by
  obtain ⟨oc, od, kV, doc, pm, an, cdv, ct, osl, rfl, lk, hcd⟩ := F.ex
  refine ⟨len, fun A outer s H args us vs Q hg room e0 hb rv hw => ?_⟩
  have hl := len _ _ _ _ hw
  have up : ∀ b o, base.get? b = some o → s.heap.get? b = some o := fun b o e => (e0.bs b o e).1
  have KX : K.In s.heap := e0.mod.kin.keeps up
  have lim : s.heap.NoLimit := e0.mod.nolimit.keeps up
  refine codeAny_call_function room.depth (KX _ _ lk) rfl S.co S.gen rfl (PySem.W.codeRec_of KX hcd) (hb _ _ _ _ ?_)
  refine wpAny_newFunctionEnv_cells S.kind (fun y hy => ?_) fun env he s1 x => ?_
  · obtain ⟨n, v⟩ := y
    rcases S.par n (List.of_mem_zip hy).1 with q | q
    · exact .inl q
    · exact .inr ⟨q, PySem.W.cellsFrom_some _ _ _ (.inl q)⟩
  subst he
  refine ⟨lim.keeps x.toInCall.keep, codeAny_func ?_⟩
  obtain ⟨t, ht, hq⟩ := hbody cdv A outer s H vs Q hg (room.deeper _) hw
  have I : Inv (cxOf CX0 P w K mg base N qual (defScope st) f cdv A outer s H E0) [] (start N vs) H s1 := inv_start S room.hd e0 hl rv x
  refine wpAny_mono (ht.nox.run [] s1 (start N vs) H _ I hq) (fun fl s' hs => ?_) fun _ _ hs => hs
  cases fl with
  | ret u =>
    obtain ⟨v, σ', H', J, ru, q⟩ := hs
    exact ⟨v, H', J.os, J.bare, J.base, J.hok, ru, q⟩
  | next =>
    obtain ⟨σ', H', J, q⟩ := hs
    exact ⟨V.non, H', J.os, J.bare, J.base, J.hok, rfl, q⟩
  | brk =>
    obtain ⟨_, _, _, q⟩ := hs
    exact q.elim
  | cont =>
    obtain ⟨_, _, _, q⟩ := hs
    exact q.elim
end
theorem pe_callG {X : Cx} {k : Nat} {f : Addr} {fd : FuncData} {ps : List Str} {sp : Sp} {x : Str} {p pos : Pos} {e : Expr} {es : List Expr} {t : TA} (F : FnG X.prog X.w X.K X.mg X.base k f fd ps sp) (gd : X.A.guards = some []) (room : Room k X.A) (hg : Gl X x) (hm : X.mg x = some (.ref f))
    (hk : PySem.W.keepIn X.K (.ref f) = true) (hb : Binds X.K fd ps []) (ha : PA X (e :: es) t) (h0 : (x == ("__debug__" : Str)) = false := by decide) (h1 : starEach (e :: es) X.env = (false, eval e X.env) :: starEach es X.env := by rfl)
    (h2 : (backTo pos (starEach es X.env)).any (·.1) = false := by rfl) : PE X (.Call (.Name x p) (e :: es) [] pos) (tCall sp [] E0 t) := by
  constructor
  intro pins s σ H Q I hw
  refine wpAny_Call_Name_kw (ld_glob I hg hm ?_ h0)
  refine PySem.W.callWith_K (h₀ := X.base) I.ok.mod.kin hk (thn (ha.run pos pins s σ H _ I hw) fun us s1 hx => ?_) h1 h2
  obtain ⟨vs, H1, I1, rv, q⟩ := hx
  rw [List.append_nil] at q
  refine ⟨I1.kIn, ?_⟩
  have hl : (us ++ []).length = ps.length := by
    rw [List.append_nil, ← rv.length]
    exact F.len _ _ _ _ q
  have bb := hb s1 us I1.kIn hl
  rw [List.append_nil] at bb
  refine wpAny_call (codeAny_mono (F.run X.A X.stack s1 H1 ⟨us, []⟩ us vs Q gd room I1.env0 bb rv q) fun r s' z => ?_)
  cases r with
  | error er => exact z.elim
  | ok fl => cases fl with
    | ret u => exact I1.after z
    | next => exact z.elim
    | brk => exact z.elim
    | cont => exact z.elim

/-! ### the end of the law -/
theorem law_go {P : Program} {w : World} {K : PySem.W.Frag} {mg mb : Str → Option Value} {k : Nat} {fa a : Addr} {fd : FuncData} {x : Str} {sp : Sp} {s : Shared} {vs : List Value} {ns : List Int}
    (KX : K.In s.heap) (hns : s.heap.Ns mainGlobals mg) (hbn : s.heap.Ns builtinsNs mb) (hbb : ∀ y : Str, y ≠ "__name__" → mb y = bootBuiltins y) (lim : s.heap.NoLimit) (gens : s.gens = #[])
    (ha : s.heap.get? a = some { cls := .type "list", data := .seq vs.toArray }) (hi : IntsAre vs ns) (hl : ns.length ≤ sizeLine) (room : Room k callerA)
    (F : ∀ base : Heap, K.In base → base.Ns mainGlobals mg → FnG P w K mg base k fa fd [x] sp) (hbind : ∀ (s : Shared) (u : Value), BindsTo s fd ⟨[u], []⟩ [(x, u)])
    (hsp : ∀ H : Hp, Only H → SqL K H a (ns.map V.int) → sp [.ref a] H (fun v _ => v = .bl true) E0) :
    codeAny (model P w) callerA (.call (.ref fa) ⟨[.ref a], []⟩) (fun r s' => r = .ok (.ret (.bool true)) ∧ OldK s.heap s'.heap ∧ s'.os = s.os ∧ AllBare s'.gens) s := by
  have rv := vals_ints hi
  have hlen := hi.length
  -- the abstract heap: nothing, or the script alone, frozen
  have main : ∀ H : Hp, Only H → SqL K H a (ns.map V.int) → HOk P w H s.heap → (∀ b u, H b = some u → b = a) → (∀ u, H a = some u → K.lookup a = none) →
      codeAny (model P w) callerA (.call (.ref fa) ⟨[.ref a], []⟩) (fun r s' => r = .ok (.ret (.bool true)) ∧ OldK s.heap s'.heap ∧ s'.os = s.os ∧ AllBare s'.gens) s := by
    intro H only hS ok hA hK
    have here : ∀ {b : Addr} {m : Str → Option Value}, s.heap.Ns b m → (hidT s.heap H).Ns b m := fun {b m} n => by
      obtain ⟨o, es, ep, e, d, r⟩ := n
      refine ⟨o, es, ep, hidT_get e ?_, d, r⟩
      cases q : H b with
      | none => rfl
      | some u =>
        have z := hA b u q
        subst z
        rw [ha] at e
        have eo := Option.some.inj e
        subst eo
        have d2 : Data.seq vs.toArray 0 = Data.dict es ep := d
        cases d2
    have kin : K.In (hidT s.heap H) := fun b o e => hidT_get (KX b o e) (by
      cases q : H b with
      | none => rfl
      | some u =>
        have z := hA b u q
        subst z
        rw [hK u q] at e
        cases e)
    have hmod : Mod K mg (hidT s.heap H) := ⟨kin, here hns, ⟨mb, here hbn, hbb⟩, let ⟨mc, h1, h2⟩ := lim; ⟨mc, here h1, h2⟩⟩
    have e0 : Env0 P w K mg (hidT s.heap H) callerA [] s H := ⟨rfl, hmod, fun b o e => of_hidT e, Nat.le_of_eq (hidT_size _ _), trivial, fun b hb => absurd hb List.not_mem_nil, ok, .of_eq gens⟩
    refine codeAny_mono ((F _ kin (here hns)).run callerA [] s H ⟨[.ref a], []⟩ [.ref a] [.ref a] _ rfl room e0 (hbind s (.ref a)) (.cons rfl .nil) (hsp H only hS)) fun r s' z => ?_
    cases r with
    | error e => exact z.elim
    | ok fl => cases fl with
      | next => exact z.elim
      | brk => exact z.elim
      | cont => exact z.elim
      | ret u =>
        obtain ⟨v, H', os, bare, un, ok', ru, q⟩ := z
        have q2 : v = .bl true := q
        subst q2
        have eu : u = Value.bool true := ru
        subst eu
        refine ⟨rfl, OldK.of_keep fun b o e => ?_, os, bare⟩
        rcases only b with z | ⟨ob, xs, z⟩
        · exact un.keep b o e z (fun y => absurd y List.not_mem_nil) (by simp)
        · obtain ⟨e1, _⟩ := ok b _ z
          obtain ⟨e2, _⟩ := ok' b _ (un.frzs b ob _ z)
          rw [e] at e1
          have eo := Option.some.inj e1
          subst eo
          exact e2
  cases q : K.lookup a with
  | some o =>
    have e := KX a o q
    rw [ha] at e
    have eo := Option.some.inj e
    subst eo
    refine main (fun _ => none) (fun _ => .inl rfl) (.inr ⟨_, vs.toArray, _, q, rfl, rfl, rfl, ?_, by simpa using rv⟩) (fun b u z => nomatch z) (fun b u z => nomatch z) fun u z => nomatch z
    rw [List.size_toArray, hlen]
    exact hl
  | none =>
    refine main (fun b => if b = a then some (.frz { cls := .type "list", data := .seq vs.toArray } (.lst (ns.map V.int))) else none) (fun b => ?_) (.inl (.inr ⟨_, if_pos rfl⟩)) (fun b u z => ?_) (fun b u z => ?_) fun _ _ => q
    · by_cases hb : b = a
      · exact .inr ⟨_, _, if_pos hb⟩
      · exact .inl (if_neg hb)
    · by_cases hb : b = a
      · have z2 := (if_pos hb).symm.trans z
        have z3 := Option.some.inj z2
        subst z3
        subst hb
        exact ⟨ha, by rw [List.length_map]; exact hl, vs, _, rv, ha⟩
      · have z2 := (if_neg hb).symm.trans z
        cases z2
    · by_cases hb : b = a
      · exact hb
      · have z2 := (if_neg hb).symm.trans z
        cases z2
theorem walk_g {l : PySem.W.OpenLaw} {n k : Nat} {q : Program} {loose : List Str} {XP : (Str → Option Value) → Heap → Prop} {YP : World → Heap → Prop} {d : DefRec} {x : Str} (hn : l.most = some n) (hn2 : n ≤ sizeLine) (hdf : d.params.defaults = []) (room : Room k callerA)
    (F : ∀ (w : World) (mg : Str → Option Value) (fa : Addr) (h : Heap), YP w h → h.Ns mainGlobals mg → mg d.name = some (.ref fa) →
      ∃ (K : PySem.W.Frag) (fd : FuncData) (sp : Sp), K.In h ∧ (∀ (s : Shared) (u : Value), BindsTo s fd ⟨[u], []⟩ [(x, u)]) ∧ (∀ (H : Hp) (a : Addr) (ns : List Int), ns.length ≤ n → SqL K H a (ns.map V.int) → sp [.ref a] H (fun v _ => v = .bl true) E0) ∧
        ∀ base : Heap, K.In base → base.Ns mainGlobals mg → FnG l.prog w K mg base k fa fd [x] sp) :
    PySem.W.WalkO q loose XP YP l.row.toRowW d [] (fun f vs => PySem.call f vs) := by
  refine Att.attach_call hn hdf fun w s₀ s₁ mg mb fa o pm cd doc a vs ns G Y ho hd hcd hmg hobj hints hlen hg => ?_
  obtain ⟨K, fd, sp, KX, hb, hsp, hF⟩ := F w mg fa _ Y G.T.g hmg
  exact law_go KX G.T.g G.T.b G.T.builtins G.T.nolimit hg hobj hints (Nat.le_trans hlen hn2) room hF hb fun H _ hS => hsp H a ns hlen hS
end K13

namespace K13
open PySem PySem.Spec PyProof.Rows L2

/-! ### built-in names -/
theorem b_int : bootBuiltins "int" = some (.type "int") := by decide +kernel
theorem b_bool : bootBuiltins "bool" = some (.type "bool") := by decide +kernel
theorem b_str : bootBuiltins "str" = some (.type "str") := by decide +kernel
theorem b_tuple : bootBuiltins "tuple" = some (.type "tuple") := by decide +kernel
theorem b_len : bootBuiltins "len" = some (.builtin "len") := by decide +kernel
theorem b_isinstance : bootBuiltins "isinstance" = some (.builtin "isinstance") := by decide +kernel
theorem b_any : bootBuiltins "any" = some (.builtin "any") := by decide +kernel
theorem b_all : bootBuiltins "all" = some (.builtin "all") := by decide +kernel
theorem b_abs : bootBuiltins "abs" = some (.builtin "abs") := by decide +kernel
theorem b_divmod : bootBuiltins "divmod" = some (.builtin "divmod") := by decide +kernel
theorem b_max : bootBuiltins "max" = some (.builtin "max") := by decide +kernel
theorem b_min : bootBuiltins "min" = some (.builtin "min") := by decide +kernel
theorem b_repr : bootBuiltins "repr" = some (.builtin "repr") := by decide +kernel

/-! ### what the top has left: constants, classes -/
structure Txt (K : PySem.W.Frag) (mg : Str → Option Value) where
  int : mg "int" = none
  bool : mg "bool" = none
  str : mg "str" = none
  tuple : mg "tuple" = none
  len : mg "len" = none
  isinstance : mg "isinstance" = none
  any : mg "any" = none
  all : mg "all" = none
  abs : mg "abs" = none
  divmod : mg "divmod" = none
  max : mg "max" = none
  min : mg "min" = none
  repr : mg "repr" = none
  range : mg "range" = none
  enumerate : mg "enumerate" = none
  most_ohms : ∃ t, mg "MOST_OHMS" = some (.int 12 t)
  most_pieces : ∃ t, mg "MOST_PIECES" = some (.int 4 t)
  most_joined : ∃ t, mg "MOST_JOINED" = some (.int 8 t)
  greatest : ∃ t, mg "GREATEST" = some (.int 1000000000000 t)
  most_digits : ∃ t, mg "MOST_DIGITS" = some (.int 13 t)
  digits : ∃ t, mg "DIGITS" = some (.str "0123456789" t)
  aO : Addr
  gO : mg "OPEN" = some (.ref aO)
  tO : ∀ H, SqT K H aO [.int 1, .int 0]
  aN : Addr
  gN : mg "NOTHING" = some (.ref aN)
  tN : ∀ H, SqT K H aN [.int 1, .int 0, .int 0, .int 1]
  aW : Addr
  gW : mg "WORDS" = some (.ref aW)
  tW : ∀ H, SqT K H aW [.str "rail", .str "rung"]
  cR : Addr
  gR : mg "Row" = some (.ref cR)
  lR : Cls K cR
  nR : NoAttr K cR "told"
  cP : Addr
  gP : mg "Pattern" = some (.ref cP)
  lP : Cls K cP
  nP1 : NoAttr K cP "row"
  nP2 : NoAttr K cP "chain"
  nP3 : NoAttr K cP "scale"
  dR : PySem.W.findIn K (.ref cR) "__class__" = some (some (.builtin "object.__class__"))
  dP : PySem.W.findIn K (.ref cP) "__class__" = some (some (.builtin "object.__class__"))
  dG : PySem.W.specialIn K (.builtin "object.__class__") "__get__" = some (some (.builtin "getset_descriptor.__get__"))
  dT : PySem.W.takesIn K (.builtin "object.__class__") = some true
  oR : PySem.W.mroIn K cR (.type "object") = some true
  oP : PySem.W.mroIn K cP (.type "object") = some true
  kRR : PySem.W.kitOne K (.ref cR) (.ref cR) = some true
  kPP : PySem.W.kitOne K (.ref cP) (.ref cP) = some true
  kTR : PySem.W.kitOne K (.type "tuple") (.ref cR) = some false
  ne : OwnNe K cP
  mc : Value
  rd : ClX.CRead K cP mc

/-! ### short rules -/
section
variable {X : Cx} {x : Str} {pos : Pos}
theorem pe_gint {i : Int} (h : ∃ t, X.mg x = some (.int i t)) (hg : Gl X x := by rfl) (hd : (x == ("__debug__" : Str)) = false := by decide) : PE X (.Name x pos) (tC (.int i)) := by
  obtain ⟨t, h⟩ := h
  exact pe_glob hg h ⟨t, rfl⟩ hd
theorem pe_gstr {z : Str} (h : ∃ t, X.mg x = some (.str z t)) (hg : Gl X x := by rfl) (hd : (x == ("__debug__" : Str)) = false := by decide) : PE X (.Name x pos) (tC (.str z)) := by
  obtain ⟨t, h⟩ := h
  exact pe_glob hg h ⟨t, rfl⟩ hd
theorem pe_gref {a : Addr} (h : X.mg x = some (.ref a)) (hg : Gl X x := by rfl) (hd : (x == ("__debug__" : Str)) = false := by decide) : PE X (.Name x pos) (tC (.ref a)) := pe_glob hg h rfl hd
theorem pe_bty {n : String} (h : X.mg x = none) (hv : bootBuiltins x = some (.type n)) (hg : Gl X x := by rfl) (h1 : x ≠ "__name__" := by decide) (hd : (x == ("__debug__" : Str)) = false := by decide) : PE X (.Name x pos) (tC (.ty n)) := pe_bltn hg h hv rfl h1 hd
end

/-! ### defs by name: as they stand, and with their promises -/
def Df (K : PySem.W.Frag) (mg : Str → Option Value) (x : Str) (st : Stmt) (ps : List Str) : Prop := ∃ f fd, Fun K x x st f fd ∧ mg x = some (.ref f) ∧ Binds K fd ps []
def Ok (P : Program) (w : World) (K : PySem.W.Frag) (mg : Str → Option Value) (base : Heap) (k : Nat) (x : Str) (ps : List Str) (sp : Sp) : Prop :=
  ∃ f fd, FnOk P w K mg base CX0 k f fd ps sp ∧ mg x = some (.ref f) ∧ PySem.W.keepIn K (.ref f) = true ∧ Binds K fd ps []
section
variable {P : Program} {w : World} {K : PySem.W.Frag} {mg : Str → Option Value} {base : Heap}
theorem Df.ok {x : Str} {st : Stmt} {N ps : List Str} {k : Nat} {sp : Sp} (D : Df K mg x st ps) (S : FnScope N ps (defScope st)) (len : ∀ vs H Q E, sp vs H Q E → vs.length = ps.length)
    (hbody : ∀ (f : Addr) (cdv : Value) (A : Around) (outer : List Env) (s : Shared) (H : Hp) (vs : List V) (Q : VK) (E : XK), Room k (A.deeper (envOfC x (defScope st) s.heap.objs.size f cdv)) → sp vs H Q E →
      ∃ t, PSs (cxOf CX0 P w K mg base N x (defScope st) f cdv A outer s H E).nox (defBody st) t ∧ t { nx := fun _ H' => Q .non H', rt := Q } (start N vs) H) : Ok P w K mg base (k + 1) x ps sp := by
  obtain ⟨f, fd, F, g, b⟩ := D
  exact ⟨f, fd, F.ok S len fun cdv A outer s H vs Q E hr h => hbody f cdv A outer s H vs Q E hr h, g, F.kp, b⟩
end
theorem pe_cl {X : Cx} {k : Nat} {ps : List Str} {sp : Sp} {x : Str} {p pos : Pos} {e : Expr} {es : List Expr} {t : TA} (O : Ok X.prog X.w X.K X.mg X.base k x ps sp) (room : Room k X.A) (ha : PA X (e :: es) t) (hg : Gl X x := by rfl)
    (h0 : (x == ("__debug__" : Str)) = false := by decide) (h1 : starEach (e :: es) X.env = (false, eval e X.env) :: starEach es X.env := by rfl) (h2 : (backTo pos (starEach es X.env)).any (·.1) = false := by rfl) :
    PE X (.Call (.Name x p) (e :: es) [] pos) (tCall sp [] E0 t) := by
  obtain ⟨f, fd, F, gm, kp, b⟩ := O
  exact pe_call F room hg gm kp b .nil pass0 ha h0 h1 h2

/-! ### the text by places -/
def top (i : Nat) : Stmt := PySem.Challenge.pw_rungladders_k13_whole_patterns_equal_by.main.body.getD i (.Pass ⟨0, 0, 0, 0⟩)

/-! ### heaps -/
/-- all that was tracked but c is as it was -/
def But (c : Addr) (H H' : Hp) : Prop := ∀ b o, b ≠ c → H b = some o → H' b = some o
theorem But.refl (c : Addr) (H : Hp) : But c H H := fun _ _ _ h => h
theorem But.trans {c : Addr} {H H1 H2 : Hp} (a : But c H H1) (b : But c H1 H2) : But c H H2 := fun x o n h => b x o n (a x o n h)
theorem But.of {c : Addr} {H H' : Hp} (s : Same H H') : But c H H' := fun b o _ h => s b o h
theorem same_up {H : Hp} {p : Addr} {o : HO} (h : H p = none) : Same H (upd H p o) := fun b x e => by
  rw [upd_ne (ne_of_none e h)]
  exact e
theorem _root_.L2.Same.up {H H' : Hp} {p : Addr} {o : HO} (s : Same H H') (h : H' p = none) : Same H (upd H' p o) := s.trans (same_up h)
theorem But.up {c : Addr} {H H' : Hp} {p : Addr} {o : HO} (s : But c H H') (h : H' p = none) : But c H (upd H' p o) := s.trans (.of (same_up h))
theorem _root_.L2.Same.sqT {K : PySem.W.Frag} {H H' : Hp} {a : Addr} {xs : List V} (s : Same H H') (h : SqT K H a xs) : SqT K H' a xs := h.ext s
/-- a list that is written: c, tracked -/
def IsLst (H : Hp) (c : Addr) : Prop := ∃ zs, H c = some (.lst zs)
theorem But.sqT {K : PySem.W.Frag} {c : Addr} {H H' : Hp} {a : Addr} {xs : List V} (s : But c H H') (hc : IsLst H c) (h : SqT K H a xs) : SqT K H' a xs := by
  obtain ⟨zs, hc⟩ := hc
  have ne : ∀ {o}, H a = some o → o ≠ .lst zs → a ≠ c := fun {o} e n z => by
    subst z
    rw [hc] at e
    exact n (Option.some.inj e).symm
  rcases h with (h | ⟨o, h⟩) | h
  · exact .inl (.inl (s _ _ (ne h (fun z => nomatch z)) h))
  · exact .inl (.inr ⟨o, s _ _ (ne h (fun z => nomatch z)) h⟩)
  · exact .inr h
theorem But.sqL {K : PySem.W.Frag} {c : Addr} {H H' : Hp} {a : Addr} {xs : List V} (s : But c H H') (n : a ≠ c) (h : SqL K H a xs) : SqL K H' a xs := by
  rcases h with (h | ⟨o, h⟩) | h
  · exact .inl (.inl (s _ _ n h))
  · exact .inl (.inr ⟨o, s _ _ n h⟩)
  · exact .inr h
theorem Paired.of_get {α β : Type} {F : α → β → Prop} : ∀ {l : List α} {m : List β} {i : Nat} {x : α}, Paired F l m → l[i]? = some x → ∃ y, m[i]? = some y ∧ F x y
  | _, _, _, _, .nil, e => by simp at e
  | _, _, 0, _, .cons r _, e => by
    have z := Option.some.inj e
    subst z
    exact ⟨_, rfl, r⟩
  | _, _, i + 1, x, .cons _ t, e => Paired.of_get (i := i) (x := x) t e
theorem Paired.len {α β : Type} {F : α → β → Prop} : ∀ {l : List α} {m : List β}, Paired F l m → l.length = m.length
  | _, _, .nil => rfl
  | _, _, .cons _ t => by rw [List.length_cons, List.length_cons, Paired.len t]
theorem Paired.imp {α β : Type} {F G : α → β → Prop} (f : ∀ a b, F a b → G a b) : ∀ {l : List α} {m : List β}, Paired F l m → Paired G l m
  | _, _, .nil => .nil
  | _, _, .cons r t => .cons (f _ _ r) (Paired.imp f t)
theorem Paired.app {α β : Type} {F : α → β → Prop} : ∀ {l l' : List α} {m m' : List β}, Paired F l m → Paired F l' m' → Paired F (l ++ l') (m ++ m')
  | _, _, _, _, .nil, s => s
  | _, _, _, _, .cons r t, s => .cons r (Paired.app t s)
theorem Paired.rev {α β : Type} {F : α → β → Prop} : ∀ {l : List α} {m : List β}, Paired F l m → Paired F l.reverse m.reverse
  | _, _, .nil => .nil
  | _, _, .cons r t => by
    rw [List.reverse_cons, List.reverse_cons]
    exact Paired.app (Paired.rev t) (.cons r .nil)
theorem Paired.take' {α β : Type} {F : α → β → Prop} : ∀ {l : List α} {m : List β} (n : Nat), Paired F l m → Paired F (l.take n) (m.take n)
  | _, _, 0, _ => .nil
  | _, _, _ + 1, .nil => .nil
  | _, _, n + 1, .cons r t => .cons r (Paired.take' n t)
theorem Paired.drop' {α β : Type} {F : α → β → Prop} : ∀ {l : List α} {m : List β} (n : Nat), Paired F l m → Paired F (l.drop n) (m.drop n)
  | _, _, 0, r => r
  | _, _, _ + 1, .nil => .nil
  | _, _, n + 1, .cons _ t => Paired.drop' n t

/-! ### pieces, rows, pairs, patterns in the heap -/
def wd (b : Bool) : Str := if b = true then "rail" else "rung"
def PcV (K : PySem.W.Frag) (H : Hp) (v : V) (p : Pc) : Prop := ∃ t, v = .ref t ∧ SqT K H t [.str (wd p.1), .int p.2]
def RowV (K : PySem.W.Frag) (H : Hp) (vs : List V) (row : List Pc) : Prop := Paired (PcV K H) vs row
def RowL (K : PySem.W.Frag) (H : Hp) (a : Addr) (row : List Pc) : Prop := ∃ vs, H a = some (.lst vs) ∧ RowV K H vs row
def RowT (K : PySem.W.Frag) (H : Hp) (a : Addr) (row : List Pc) : Prop := ∃ vs, SqT K H a vs ∧ RowV K H vs row
def pairV (v : Int × Int) : List V := [.int v.1, .int v.2]
def chV (m : Ch) : List V := [.int m.a, .int m.b, .int m.c, .int m.d]
def fsP (r t : Addr) (s : Int) : List (Str × V) := putF "scale" (.int s) (putF "chain" (.ref t) (putF "row" (.ref r) []))
def PatAt (K : PySem.W.Frag) (cP : Addr) (H : Hp) (p : Addr) (row : List Pc) : Prop := ∃ dx r t, H p = some (.ins cP dx (fsP r t (chain row).2)) ∧ SqT K H t (chV (chain row).1)
def CupAt (H : Hp) (c : Addr) : Prop := ∃ x y : Int, 0 ≤ x ∧ 0 ≤ y ∧ H c = some (.lst [.int x, .int y])
theorem CupAt.lst {H : Hp} {c : Addr} (h : CupAt H c) : IsLst H c := let ⟨_, _, _, _, e⟩ := h; ⟨_, e⟩
section
variable {K : PySem.W.Frag} {H H' : Hp} {c a cP p : Addr} {row : List Pc} {vs : List V}
theorem RowV.same (h : RowV K H vs row) (s : Same H H') : RowV K H' vs row := Paired.imp (fun _ _ ⟨t, e, q⟩ => ⟨t, e, s.sqT q⟩) h
theorem RowV.but (h : RowV K H vs row) (s : But c H H') (hc : IsLst H c) : RowV K H' vs row := Paired.imp (fun _ _ ⟨t, e, q⟩ => ⟨t, e, s.sqT hc q⟩) h
theorem RowL.same (h : RowL K H a row) (s : Same H H') : RowL K H' a row := let ⟨vs, h1, h2⟩ := h; ⟨vs, s _ _ h1, h2.same s⟩
theorem RowT.same (h : RowT K H a row) (s : Same H H') : RowT K H' a row := let ⟨vs, h1, h2⟩ := h; ⟨vs, s.sqT h1, h2.same s⟩
theorem RowL.but (h : RowL K H a row) (s : But c H H') (hc : IsLst H c) (n : a ≠ c) : RowL K H' a row := let ⟨vs, h1, h2⟩ := h; ⟨vs, s _ _ n h1, h2.but s hc⟩
theorem PatAt.same (h : PatAt K cP H p row) (s : Same H H') : PatAt K cP H' p row := let ⟨dx, r, t, h1, h2⟩ := h; ⟨dx, r, t, s _ _ h1, s.sqT h2⟩
theorem PatAt.but (h : PatAt K cP H p row) (s : But c H H') (hc : IsLst H c) : PatAt K cP H' p row := by
  obtain ⟨dx, r, t, h1, h2⟩ := h
  refine ⟨dx, r, t, s _ _ (fun z => ?_) h1, s.sqT hc h2⟩
  obtain ⟨zs, e⟩ := hc
  subst z
  rw [h1] at e
  cases e
theorem CupAt.same (h : CupAt H c) (s : Same H H') : CupAt H' c := let ⟨x, y, h1, h2, e⟩ := h; ⟨x, y, h1, h2, s _ _ e⟩
end
/-- isinstance's answers -/
theorem tyx_tup {K : PySem.W.Frag} {H : Hp} {a : Addr} {xs : List V} (h : SqT K H a xs) : TyX K H (.ref a) (.type "tuple") := by
  rcases h with (h | ⟨o, h⟩) | ⟨o, its, n, h, hc, _⟩
  · exact .base (.tup h)
  · exact .fTuple h
  · exact .kTuple h hc
theorem tyx_ins {K : PySem.W.Frag} {mg : Str → Option Value} (T : Txt K mg) {H : Hp} {p dx : Addr} {fs : List (Str × V)} (h : H p = some (.ins T.cP dx fs)) : TyX K H (.ref p) (.ref T.cP) := .base (.ins h T.lP T.dP T.dG T.dT T.oP)
theorem tyx_row {K : PySem.W.Frag} {mg : Str → Option Value} (T : Txt K mg) {H : Hp} {p dx : Addr} {fs : List (Str × V)} (h : H p = some (.ins T.cR dx fs)) : TyX K H (.ref p) (.ref T.cR) := .base (.ins h T.lR T.dR T.dG T.dT T.oR)
theorem kit_tt {K : PySem.W.Frag} : PySem.W.kitOne K (.type "tuple") (.type "tuple") = some true := kit_ty (by decide +kernel)
theorem kit_ii {K : PySem.W.Frag} : PySem.W.kitOne K (.type "int") (.type "int") = some true := kit_ty (by decide +kernel)
theorem kit_ib {K : PySem.W.Frag} : PySem.W.kitOne K (.type "int") (.type "bool") = some false := kit_ty (by decide +kernel)
theorem kit_ss {K : PySem.W.Frag} : PySem.W.kitOne K (.type "str") (.type "str") = some true := kit_ty (by decide +kernel)
end K13

namespace K13
open PySem PySem.Spec PyProof.Rows L2

/-! ### the tests of numbers -/
def spIsInteger : Sp := fun vs H Q _ => ∃ i : Int, vs = [.int i] ∧ Q (.bl true) H
def spIsBetween : Sp := fun vs H Q _ => ∃ v lo hi : Int, vs = [.int v, .int lo, .int hi] ∧ Q (.bl (decide (lo ≤ v ∧ v ≤ hi))) H
def spIsFraction (K : PySem.W.Frag) : Sp := fun vs H Q _ => ∃ (a : Addr) (t b : Int), vs = [.ref a] ∧ SqT K H a [.int t, .int b] ∧ 0 ≤ t ∧ Q (.bl (decide (1 ≤ b))) H
/-- a load: a pair of at least 0, not both 0; an open end is (1, 0); none greater than may be -/
structure Load (v : Int × Int) : Prop where
  pr : Pr v
  op : v.2 = 0 → v.1 = 1
  l1 : v.1 ≤ 1000000000000
  l2 : v.2 ≤ 1000000000000
def spLoad (K : PySem.W.Frag) (r : V) : Sp := fun vs H Q _ => ∃ (a : Addr) (v : Int × Int), vs = [.ref a] ∧ SqT K H a (pairV v) ∧ Load v ∧ Q r H
abbrev s_is_integer : Stmt := top 16
abbrev s_is_between : Stmt := top 17
abbrev s_is_fraction : Stmt := top 18
abbrev s_is_number : Stmt := top 19
abbrev s_is_resistance : Stmt := top 20
abbrev s_check_resistance : Stmt := top 24
theorem sc_is_integer : FnScope ["value"] ["value"] (defScope s_is_integer) := ⟨rfl, rfl, rfl, by decide +kernel, rfl, by decide +kernel, by decide +kernel⟩
theorem sc_is_between : FnScope ["value", "low", "high"] ["value", "low", "high"] (defScope s_is_between) := ⟨rfl, rfl, rfl, by decide +kernel, rfl, by decide +kernel, by decide +kernel⟩
theorem sc_is_fraction : FnScope ["value"] ["value"] (defScope s_is_fraction) := ⟨rfl, rfl, rfl, by decide +kernel, rfl, by decide +kernel, by decide +kernel⟩
theorem sc_is_number : FnScope ["value"] ["value"] (defScope s_is_number) := ⟨rfl, rfl, rfl, by decide +kernel, rfl, by decide +kernel, by decide +kernel⟩
theorem sc_is_resistance : FnScope ["value"] ["value"] (defScope s_is_resistance) := ⟨rfl, rfl, rfl, by decide +kernel, rfl, by decide +kernel, by decide +kernel⟩
theorem sc_check_resistance : FnScope ["value"] ["value"] (defScope s_check_resistance) := ⟨rfl, rfl, rfl, by decide +kernel, rfl, by decide +kernel, by decide +kernel⟩
section
variable {P : Program} {w : World} {K : PySem.W.Frag} {mg : Str → Option Value} {base : Heap}
theorem ok_is_integer (T : Txt K mg) (D : Df K mg "is_integer" s_is_integer ["value"]) : Ok P w K mg base 1 "is_integer" ["value"] spIsInteger := by
  refine D.ok sc_is_integer (fun vs H Q E h => ?_) (fun f cdv A outer s H vs Q E hr h => ?_)
  · obtain ⟨i, rfl, _⟩ := h
    rfl
  · obtain ⟨i, rfl, q⟩ := h
    refine ⟨_, (pss_one (ps_ret (pe_and (pe_callB call_isi (by rfl) T.isinstance b_isinstance (pa_cons (pv 0) (pa_cons (pe_bty T.int b_int) pa_nil)))
      (pe_one (pe_not (pe_callB call_isi (by rfl) T.isinstance b_isinstance (pa_cons (pv 0) (pa_cons (pe_bty T.bool b_bool) pa_nil)))))))), ?_⟩
    refine ⟨_, rfl, _, _, _, _, _, rfl, .ty _, .base (.int i), kit_ii, true, rfl, iteT ?_⟩
    exact ⟨_, rfl, _, _, _, _, _, rfl, .ty _, .base (.int i), kit_ib, false, rfl, q⟩
theorem ok_is_between (D : Df K mg "is_between" s_is_between ["value", "low", "high"]) (o_is_integer : Ok P w K mg base 1 "is_integer" ["value"] spIsInteger) : Ok P w K mg base 2 "is_between" ["value", "low", "high"] spIsBetween := by
  refine D.ok sc_is_between (fun vs H Q E h => ?_) (fun f cdv A outer s H vs Q E hr h => ?_)
  · obtain ⟨v, lo, hi, rfl, _⟩ := h
    rfl
  · obtain ⟨v, lo, hi, rfl, q⟩ := h
    refine ⟨_, (pss_one (ps_ret (pe_and (pe_cl o_is_integer (hr.mono (by decide)) (pa_cons (pv 0) pa_nil)) (pe_one (pe_chain op_le op_le (pv 1) (pv 0) (pv 2)))))), ?_⟩
    refine ⟨_, rfl, v, rfl, true, rfl, iteT ?_⟩
    refine ⟨_, rfl, _, rfl, _, _, rfl, rfl, _, rfl, ?_⟩
    by_cases h1 : lo ≤ v
    · rw [decide_eq_true h1]
      refine iteT ⟨_, rfl, _, _, rfl, rfl, ?_⟩
      have e : decide (lo ≤ v ∧ v ≤ hi) = decide (v ≤ hi) := by simp [h1]
      rw [e] at q
      exact q
    · rw [decide_eq_false h1]
      refine iteF ?_
      have e : decide (lo ≤ v ∧ v ≤ hi) = false := decide_eq_false fun z => h1 z.1
      rw [e] at q
      exact q
theorem ok_is_fraction (T : Txt K mg) (D : Df K mg "is_fraction" s_is_fraction ["value"]) (o_is_integer : Ok P w K mg base 1 "is_integer" ["value"] spIsInteger) : Ok P w K mg base 2 "is_fraction" ["value"] (spIsFraction K) := by
  refine D.ok sc_is_fraction (fun vs H Q E h => ?_) (fun f cdv A outer s H vs Q E hr h => ?_)
  · obtain ⟨a, t, b, rfl, _⟩ := h
    rfl
  · obtain ⟨a, t, b, rfl, hT, t0, q⟩ := h
    have g0 : atI [V.int t, V.int b] 0 = some (.int t) := rfl
    have g1 : atI [V.int t, V.int b] 1 = some (.int b) := rfl
    refine ⟨_, (pss_cons (ps_if (pt_not (pt_val (pe_callB call_isi (by rfl) T.isinstance b_isinstance (pa_cons (pv 0) (pa_cons (pe_bty T.tuple b_tuple) pa_nil))))) (pss_one ps_never) pss_nil)
      (pss_one (ps_ret (pe_and (pe_cmpR op_eq (pe_callB call_len_seq (by rfl) T.len b_len (pa_cons (pv 0) pa_nil)) pe_int (nomark _))
        (pe_and (pe_cl o_is_integer (hr.mono (by decide)) (pa_cons (pe_ix ix_tup (pv 0) pe_int (fun _ _ => rfl)) pa_nil))
        (pe_and (pe_cl o_is_integer (hr.mono (by decide)) (pa_cons (pe_ix ix_tup (pv 0) pe_int (fun _ _ => rfl)) pa_nil))
        (pe_and (pe_cmpR op_ge (pe_ix ix_tup (pv 0) pe_int (fun _ _ => rfl)) pe_int (nomark _)) (pe_one (pe_cmpR op_ge (pe_ix ix_tup (pv 0) pe_int (fun _ _ => rfl)) pe_int (nomark _)))))))))), ?_⟩
    refine ⟨_, rfl, _, _, _, _, _, rfl, .ty _, tyx_tup hT, kit_tt, true, rfl, iteF ?_⟩
    refine ⟨_, rfl, a, _, rfl, .inr hT, rfl, true, rfl, iteT ?_⟩
    refine ⟨_, rfl, a, _, _, _, rfl, rfl, hT, g0, _, rfl, true, rfl, iteT ?_⟩
    refine ⟨_, rfl, a, _, _, _, rfl, rfl, hT, g1, _, rfl, true, rfl, iteT ?_⟩
    refine ⟨_, rfl, a, _, _, _, rfl, rfl, hT, g0, _, _, rfl, rfl, true, congrArg V.bl (decide_eq_true t0), iteT ?_⟩
    exact ⟨_, rfl, a, _, _, _, rfl, rfl, hT, g1, _, _, rfl, rfl, q⟩
theorem ok_is_number (T : Txt K mg) (D : Df K mg "is_number" s_is_number ["value"]) (o_is_integer : Ok P w K mg base 1 "is_integer" ["value"] spIsInteger) (o_is_fraction : Ok P w K mg base 2 "is_fraction" ["value"] (spIsFraction K)) :
    Ok P w K mg base 3 "is_number" ["value"] (spLoad K (.bl true)) := by
  refine D.ok sc_is_number (fun vs H Q E h => ?_) (fun f cdv A outer s H vs Q E hr h => ?_)
  · obtain ⟨a, v, rfl, _⟩ := h
    rfl
  · obtain ⟨a, v, rfl, hT, ld, q⟩ := h
    obtain ⟨t, b⟩ := v
    obtain ⟨⟨p1, p2, p3⟩, op, l1, l2⟩ := ld
    dsimp only at p1 p2 p3 op l1 l2
    have hT : SqT K H a [.int t, .int b] := hT
    have g0 : atI [V.int t, V.int b] 0 = some (.int t) := rfl
    have g1 : atI [V.int t, V.int b] 1 = some (.int b) := rfl
    refine ⟨_, (pss_cons (ps_if (pt_val (pe_cl o_is_fraction (hr.mono (by decide)) (pa_cons (pv 0) pa_nil))) (pss_one (ps_ret pe_bl)) pss_nil)
      (pss_cons (ps_if (PW.pt (pw_or (pt_not (pt_val (pe_callB call_isi (by rfl) T.isinstance b_isinstance (pa_cons (pv 0) (pa_cons (pe_bty T.tuple b_tuple) pa_nil)))))
        (pw_or1 (pt_cmpR op_ne (pe_callB call_len_seq (by rfl) T.len b_len (pa_cons (pv 0) pa_nil)) pe_int (nomark _))))) (pss_one ps_never) pss_nil)
      (pss_one (ps_ret (pe_and (pe_cl o_is_integer (hr.mono (by decide)) (pa_cons (pe_ix ix_tup (pv 0) pe_int (fun _ _ => rfl)) pa_nil))
        (pe_and (pe_cl o_is_integer (hr.mono (by decide)) (pa_cons (pe_ix ix_tup (pv 0) pe_int (fun _ _ => rfl)) pa_nil))
        (pe_one (pe_cmpR (op_eqD hr.units) (pv 0) (pe_gref T.gO) (nomark _))))))))), ?_⟩
    refine ⟨_, rfl, a, t, b, rfl, hT, p1, decide (1 ≤ b), rfl, ?_⟩
    by_cases h1 : 1 ≤ b
    · rw [decide_eq_true h1]
      exact iteT q
    · rw [decide_eq_false h1]
      refine iteF ?_
      have b0 : b = 0 := by omega
      subst b0
      have t1 : t = 1 := op rfl
      subst t1
      refine ⟨_, rfl, _, _, _, _, _, rfl, .ty _, tyx_tup hT, kit_tt, true, rfl, iteF ?_⟩
      refine ⟨_, rfl, a, _, rfl, .inr hT, rfl, false, rfl, iteF ?_⟩
      refine ⟨_, rfl, a, _, _, _, rfl, rfl, hT, g0, _, rfl, true, rfl, iteT ?_⟩
      refine ⟨_, rfl, a, _, _, _, rfl, rfl, hT, g1, _, rfl, true, rfl, iteT ?_⟩
      refine ⟨_, rfl, .tuple [.int 1, .int 0], .tuple [.int 1, .int 0], .tup hT (.cons (.int 1) (.cons (.int 0) .nil)), .tup (T.tO H) (.cons (.int 1) (.cons (.int 0) .nil)), by decide +kernel, by decide +kernel, ?_⟩
      have e : PyData.eqv (.tuple [.int 1, .int 0]) (.tuple [.int 1, .int 0]) = true := by decide +kernel
      rw [e]
      exact q
theorem ok_is_resistance (T : Txt K mg) (D : Df K mg "is_resistance" s_is_resistance ["value"]) (o_is_number : Ok P w K mg base 3 "is_number" ["value"] (spLoad K (.bl true))) :
    Ok P w K mg base 4 "is_resistance" ["value"] (spLoad K (.bl true)) := by
  refine D.ok sc_is_resistance (fun vs H Q E h => ?_) (fun f cdv A outer s H vs Q E hr h => ?_)
  · obtain ⟨a, v, rfl, _⟩ := h
    rfl
  · obtain ⟨a, v, rfl, hT, ld, q⟩ := h
    have hT2 : SqT K H a [.int v.1, .int v.2] := hT
    have g0 : atI [V.int v.1, V.int v.2] 0 = some (.int v.1) := rfl
    have g1 : atI [V.int v.1, V.int v.2] 1 = some (.int v.2) := rfl
    refine ⟨_, (pss_cons (ps_if (pt_not (pt_val (pe_cl o_is_number (hr.mono (by decide)) (pa_cons (pv 0) pa_nil)))) (pss_one ps_never) pss_nil)
      (pss_cons (ps_if (pt_val (pe_callB call_isi (by rfl) T.isinstance b_isinstance (pa_cons (pv 0) (pa_cons (pe_bty T.tuple b_tuple) pa_nil))))
        (pss_one (ps_ret (pe_and (pe_cmpR op_le (pe_ix ix_tup (pv 0) pe_int (fun _ _ => rfl)) (pe_gint T.greatest) (nomark _)) (pe_one (pe_cmpR op_le (pe_ix ix_tup (pv 0) pe_int (fun _ _ => rfl)) (pe_gint T.greatest) (nomark _)))))) pss_nil)
      (pss_one ps_never))), ?_⟩
    refine ⟨_, rfl, a, v, rfl, hT, ld, true, rfl, iteF ?_⟩
    refine ⟨_, rfl, _, _, _, _, _, rfl, .ty _, tyx_tup hT2, kit_tt, true, rfl, iteT ?_⟩
    refine ⟨_, rfl, a, _, _, _, rfl, rfl, hT2, g0, _, _, rfl, rfl, true, congrArg V.bl (decide_eq_true ld.l1), iteT ?_⟩
    refine ⟨_, rfl, a, _, _, _, rfl, rfl, hT2, g1, _, _, rfl, rfl, ?_⟩
    have e : decide (v.2 ≤ 1000000000000) = true := decide_eq_true ld.l2
    show Q (.bl (decide (v.2 ≤ 1000000000000))) H
    rw [e]
    exact q
theorem ok_check_resistance (D : Df K mg "check_resistance" s_check_resistance ["value"]) (o_is_resistance : Ok P w K mg base 4 "is_resistance" ["value"] (spLoad K (.bl true))) :
    Ok P w K mg base 5 "check_resistance" ["value"] (spLoad K .non) := by
  refine D.ok sc_check_resistance (fun vs H Q E h => ?_) (fun f cdv A outer s H vs Q E hr h => ?_)
  · obtain ⟨a, v, rfl, _⟩ := h
    rfl
  · obtain ⟨a, v, rfl, hT, ld, q⟩ := h
    refine ⟨_, (pss_one (ps_if (pt_not (pt_val (pe_cl o_is_resistance (hr.mono (by decide)) (pa_cons (pv 0) pa_nil)))) (pss_one ps_never) pss_nil)), ?_⟩
    exact ⟨_, rfl, a, v, rfl, hT, ld, true, rfl, iteF q⟩

/-! ### greatest divisors, lowest terms -/
def spCommon : Sp := fun vs H Q _ => ∃ i j : Int, vs = [.int i, .int j] ∧ 0 ≤ i ∧ 0 ≤ j ∧ Q (.int (Int.gcd i j)) H
/-- pairs below 2 ^ 80 -/
structure PrB (v : Int × Int) : Prop where
  pr : Pr v
  b1 : v.1 < 2 ^ 80
  b2 : v.2 < 2 ^ 80
def spLowest : Sp := fun vs H Q _ => ∃ v : Int × Int, vs = [.int v.1, .int v.2] ∧ PrB v ∧ ∀ p, H p = none → Q (.ref p) (upd H p (.tup (pairV (low v))))
def spPairOf (K : PySem.W.Frag) : Sp := fun vs H Q _ => ∃ (a : Addr) (v : Int × Int), vs = [.ref a] ∧ SqT K H a (pairV v) ∧ PrB v ∧ ∀ p, H p = none → Q (.ref p) (upd H p (.tup (pairV (low v))))
abbrev s_common : Stmt := top 21
abbrev s_lowest : Stmt := top 22
abbrev s_pair_of : Stmt := top 23
theorem sc_common : FnScope ["one", "other"] ["one", "other"] (defScope s_common) := ⟨rfl, rfl, rfl, by decide +kernel, rfl, by decide +kernel, by decide +kernel⟩
theorem sc_lowest : FnScope ["top", "bottom", "by"] ["top", "bottom"] (defScope s_lowest) := ⟨rfl, rfl, rfl, by decide +kernel, rfl, by decide +kernel, by decide +kernel⟩
theorem sc_pair_of : FnScope ["number"] ["number"] (defScope s_pair_of) := ⟨rfl, rfl, rfl, by decide +kernel, rfl, by decide +kernel, by decide +kernel⟩
theorem gcd_step {a b : Int} (ha : 0 ≤ a) (hb : 0 < b) : Int.gcd b (a % b) = Int.gcd a b := by
  obtain ⟨x, rfl⟩ := Int.eq_ofNat_of_zero_le ha
  obtain ⟨y, rfl⟩ := Int.eq_ofNat_of_zero_le (Int.le_of_lt hb)
  have e : ((x : Int) % (y : Int)) = ((x % y : Nat) : Int) := (Int.natCast_emod x y).symm
  rw [e]
  show Nat.gcd y (x % y) = Nat.gcd x y
  rw [Nat.gcd_comm x y, Nat.gcd_rec y x, Nat.gcd_comm]
theorem gcd_pos {v : Int × Int} (h : Pr v) : 0 < (Int.gcd v.1 v.2 : Int) := by
  obtain ⟨h1, h2, h3⟩ := h
  have z : 0 < Int.gcd v.1 v.2 := by
    rcases h3 with h3 | h3
    · exact Nat.gcd_pos_of_pos_left _ (by omega)
    · exact Nat.gcd_pos_of_pos_right _ (by omega)
  omega
theorem gcd_le {v : Int × Int} (h : PrB v) : (Int.gcd v.1 v.2 : Int) < 2 ^ 80 := by
  obtain ⟨⟨h1, h2, h3⟩, b1, b2⟩ := h
  rcases h3 with h3 | h3
  · have z : Int.gcd v.1 v.2 ≤ v.1.natAbs := Nat.gcd_le_left _ (by omega)
    omega
  · have z : Int.gcd v.1 v.2 ≤ v.2.natAbs := Nat.gcd_le_right _ (by omega)
    omega
theorem ok_common (T : Txt K mg) (D : Df K mg "common" s_common ["one", "other"]) : Ok P w K mg base 1 "common" ["one", "other"] spCommon := by
  refine D.ok sc_common (fun vs H Q E h => ?_) (fun f cdv A outer s H vs Q E hr h => ?_)
  · obtain ⟨i, j, rfl, _⟩ := h
    rfl
  · obtain ⟨i, j, rfl, i0, j0, q⟩ := h
    refine ⟨_, (pss_cons (ps_while PassesOwn.never (pt_cmpR op_gt (pv 1) pe_int (nomark _)) (pss_one (ps_par (i := 0) (j := 1) rfl sc_common.nd rfl rfl (by decide) rfl rfl
        (pa_cons (pv 1) (pa_cons (pe_op op_mod (pe_callTy call_int1 (by rfl) T.int b_int (pa_cons (pv 0) pa_nil)) (pe_callTy call_int1 (by rfl) T.int b_int (pa_cons (pv 1) pa_nil))) pa_nil)) (by rfl))))
      (pss_one (ps_ret (pv 0)))), ?_⟩
    refine ⟨fun m σ H' => ∃ a b : Int, σ = [some (.int a), some (.int b)] ∧ H' = H ∧ 0 ≤ a ∧ 0 ≤ b ∧ m = b.toNat ∧ Int.gcd a b = Int.gcd i j, ⟨_, i, j, rfl, rfl, i0, j0, rfl, rfl⟩, ?_⟩
    rintro m σ H' ⟨a, b, rfl, rfl, a0, b0, rfl, e⟩
    refine ⟨_, rfl, _, _, rfl, rfl, decide (0 < b), rfl, ?_⟩
    by_cases hb : 0 < b
    · rw [decide_eq_true hb]
      refine iteT ⟨fun σ' H'' => ∃ a' b' : Int, σ' = [some (.int a'), some (.int b')] ∧ H'' = H' ∧ 0 ≤ a' ∧ 0 ≤ b' ∧ b'.toNat < b.toNat ∧ Int.gcd a' b' = Int.gcd i j, ?_, ?_⟩
      · rintro σ' H'' ⟨a', b', h1, h2, h3, h4, h5, h6⟩
        exact ⟨_, h5, a', b', h1, h2, h3, h4, rfl, h6⟩
      · refine ⟨_, rfl, _, rfl, .inl ⟨a, rfl, _, rfl, .inl ⟨b, rfl, _, _, rfl, rfl, hb, ?_⟩⟩⟩
        have m0 := Int.emod_nonneg a (Int.ne_of_gt hb)
        have m1 := Int.emod_lt_of_pos a hb
        exact ⟨_, _, rfl, b, a % b, rfl, rfl, b0, m0, by omega, (gcd_step a0 hb).trans e⟩
    · rw [decide_eq_false hb]
      refine iteF ⟨_, rfl, ?_⟩
      have z : b = 0 := by omega
      subst z
      have e2 : (Int.gcd i j : Int) = a := by
        rw [← e, Int.gcd_zero]
        omega
      rw [e2] at q
      exact q
theorem ok_lowest (D : Df K mg "lowest" s_lowest ["top", "bottom"]) (o_common : Ok P w K mg base 1 "common" ["one", "other"] spCommon) : Ok P w K mg base 2 "lowest" ["top", "bottom"] spLowest := by
  refine D.ok sc_lowest (fun vs H Q E h => ?_) (fun f cdv A outer s H vs Q E hr h => ?_)
  · obtain ⟨v, rfl, _⟩ := h
    rfl
  · obtain ⟨v, rfl, hb, q⟩ := h
    have g0 := gcd_pos hb.pr
    have g1 := gcd_le hb
    have wd := wide_div (i := v.1) (b := 80) g0 (by omega) (by decide) (by decide)
    have wd2 := wide_div (i := v.2) (b := 80) g0 (by omega) (by decide) (by decide)
    refine ⟨_, (pss_cons (ps_set (i := 2) sc_lowest.nd rfl (Or.inl rfl) (pe_cl o_common (hr.mono (by decide)) (pa_cons (pv 0) (pa_cons (pv 1) pa_nil))))
      (pss_one (ps_ret (pe_tup (pa_cons (pe_op op_fdivW (pv 0) (pv 2)) (pa_cons (pe_op op_fdivW (pv 1) (pv 2)) pa_nil)))))), ?_⟩
    refine ⟨_, rfl, _, rfl, v.1, v.2, rfl, hb.pr.1, hb.pr.2.1, ?_⟩
    refine ⟨_, rfl, _, rfl, _, _, rfl, rfl, wd, _, rfl, _, rfl, _, _, rfl, rfl, wd2, (by show 2 ≤ sizeLine; decide), fun p hp => ?_⟩
    exact q p hp
theorem ok_pair_of (T : Txt K mg) (D : Df K mg "pair_of" s_pair_of ["number"]) (o_lowest : Ok P w K mg base 2 "lowest" ["top", "bottom"] spLowest) : Ok P w K mg base 3 "pair_of" ["number"] (spPairOf K) := by
  refine D.ok sc_pair_of (fun vs H Q E h => ?_) (fun f cdv A outer s H vs Q E hr h => ?_)
  · obtain ⟨a, v, rfl, _⟩ := h
    rfl
  · obtain ⟨a, v, rfl, hT, hb, q⟩ := h
    have hT : SqT K H a [.int v.1, .int v.2] := hT
    have g0 : atI [V.int v.1, V.int v.2] 0 = some (.int v.1) := rfl
    have g1 : atI [V.int v.1, V.int v.2] 1 = some (.int v.2) := rfl
    refine ⟨_, (pss_one (ps_ret (pe_ifExp (pt_val (pe_callB call_isi (by rfl) T.isinstance b_isinstance (pa_cons (pv 0) (pa_cons (pe_bty T.tuple b_tuple) pa_nil))))
      (pe_cl o_lowest (hr.mono (by decide)) (pa_cons (pe_ix ix_tup (pv 0) pe_int (fun _ _ => rfl)) (pa_cons (pe_ix ix_tup (pv 0) pe_int (fun _ _ => rfl)) pa_nil)))
      (pe_tup (pa_cons (pv 0) (pa_cons pe_int pa_nil)))))), ?_⟩
    refine ⟨_, rfl, _, _, _, _, _, rfl, .ty _, tyx_tup hT, kit_tt, true, rfl, iteT ?_⟩
    refine ⟨_, rfl, a, _, _, _, rfl, rfl, hT, g0, _, rfl, a, _, _, _, rfl, rfl, hT, g1, v, rfl, hb, q⟩
end
end K13

namespace K13
open PySem PySem.Spec PyProof.Rows L2

/-! ### chains -/
def Sm (i : Int) : Prop := 0 ≤ i ∧ i ≤ 815730721
/-- a chain whose numbers may be multiplied -/
def SmC (m : Ch) : Prop := Sm m.a ∧ Sm m.b ∧ Sm m.c ∧ Sm m.d
theorem sm_mul {i j : Int} (h : Sm i) : CMul i j := .inl ⟨by have := h.1; omega, by have := h.2; omega⟩
def spJoined (K : PySem.W.Frag) : Sp := fun vs H Q _ => ∃ (a b : Addr) (m n : Ch), vs = [.ref a, .ref b] ∧ SqT K H a (chV m) ∧ SqT K H b (chV n) ∧ SmC m ∧ ∀ p, H p = none → Q (.ref p) (upd H p (.tup (chV (joinC m n))))
def spLed (K : PySem.W.Frag) : Sp := fun vs H Q _ => ∃ (a b : Addr) (m : Ch) (v : Int × Int), vs = [.ref a, .ref b] ∧ SqT K H a (chV m) ∧ SqT K H b (pairV v) ∧ SmC m ∧ ∀ p, H p = none → Q (.ref p) (upd H p (.tup (pairV (ledC m v))))
def spShown (K : PySem.W.Frag) : Sp := fun vs H Q _ => ∃ (a b : Addr) (m : Ch) (v : Int × Int), vs = [.ref a, .ref b] ∧ SqT K H a (chV m) ∧ SqT K H b (pairV v) ∧ SmC m ∧ PrB (ledC m v) ∧
  ∀ H' p, Same H H' → H' p = some (.tup (pairV (low (ledC m v)))) → Q (.ref p) H'
def spChainOf (K : PySem.W.Frag) : Sp := fun vs H Q _ => ∃ (a : Addr) (row : List Pc), vs = [.ref a] ∧ RowT K H a row ∧ OkR row ∧ row.length ≤ 8 ∧
  ∀ H' p t, Same H H' → H' p = some (.tup [.ref t, .int (chain row).2]) → SqT K H' t (chV (chain row).1) → Q (.ref p) H'
abbrev s_joined : Stmt := top 28
abbrev s_chain_of : Stmt := top 29
abbrev s_led : Stmt := top 30
abbrev s_shown : Stmt := top 31
theorem sc_joined : FnScope ["front", "back", "a", "b", "c", "d", "e", "f", "g", "h"] ["front", "back"] (defScope s_joined) := ⟨rfl, rfl, rfl, by decide +kernel, rfl, by decide +kernel, by decide +kernel⟩
theorem sc_chain_of : FnScope ["pieces", "found", "times", "word", "ohms"] ["pieces"] (defScope s_chain_of) := ⟨rfl, rfl, rfl, by decide +kernel, rfl, by decide +kernel, by decide +kernel⟩
theorem sc_led : FnScope ["chain", "pair", "a", "b", "c", "d"] ["chain", "pair"] (defScope s_led) := ⟨rfl, rfl, rfl, by decide +kernel, rfl, by decide +kernel, by decide +kernel⟩
theorem sc_shown : FnScope ["chain", "pair", "top", "bottom"] ["chain", "pair"] (defScope s_shown) := ⟨rfl, rfl, rfl, by decide +kernel, rfl, by decide +kernel, by decide +kernel⟩
theorem not_rail : ¬ V.str (wd false) = V.str "rail" := by decide +kernel
theorem take_next {l : List Pc} {i : Nat} {p : Pc} (h : l[i]? = some p) : l.take (i + 1) = l.take i ++ [p] := by
  rw [List.take_add_one, h]
  rfl
theorem chain_next {l : List Pc} {i : Nat} {p : Pc} (h : l[i]? = some p) : chain (l.take (i + 1)) = stepC (chain (l.take i)) p := by
  unfold chain
  rw [take_next h, List.foldl_append]
  rfl
theorem take_ok {l : List Pc} (h : OkR l) (i : Nat) : OkR (l.take i) := fun p hp => h p (List.mem_of_mem_take hp)
theorem chain_sm {l : List Pc} (h : OkR l) (hl : l.length ≤ 8) : SmC (chain l).1 ∧ Sm (chain l).2 := by
  obtain ⟨g, b⟩ := chain_ok h hl
  have := g.s
  exact ⟨⟨⟨g.a, b.a⟩, ⟨g.b, b.b⟩, ⟨g.c, b.c⟩, ⟨g.d, b.d⟩⟩, by omega, b.s⟩
section
variable {P : Program} {w : World} {K : PySem.W.Frag} {mg : Str → Option Value} {base : Heap}
theorem ok_joined (D : Df K mg "joined" s_joined ["front", "back"]) : Ok P w K mg base 1 "joined" ["front", "back"] (spJoined K) := by
  refine D.ok sc_joined (fun vs H Q E h => ?_) (fun f cdv A outer s H vs Q E hr h => ?_)
  · obtain ⟨a, b, m, n, rfl, _⟩ := h
    rfl
  · obtain ⟨a, b, m, n, rfl, hm, hn, ⟨s1, s2, s3, s4⟩, q⟩ := h
    have hm : SqT K H a [.int m.a, .int m.b, .int m.c, .int m.d] := hm
    have hn : SqT K H b [.int n.a, .int n.b, .int n.c, .int n.d] := hn
    refine ⟨_, (pss_cons (ps_asg (pv 0) (pg_tup rfl (pgs_cons (pg_name (i := 2) sc_joined.nd rfl (Or.inl rfl)) (pgs_cons (pg_name (i := 3) sc_joined.nd rfl (Or.inl rfl)) (pgs_cons (pg_name (i := 4) sc_joined.nd rfl (Or.inl rfl)) (pgs_cons (pg_name (i := 5) sc_joined.nd rfl (Or.inl rfl)) pgs_nil))))))
      (pss_cons (ps_asg (pv 1) (pg_tup rfl (pgs_cons (pg_name (i := 6) sc_joined.nd rfl (Or.inl rfl)) (pgs_cons (pg_name (i := 7) sc_joined.nd rfl (Or.inl rfl)) (pgs_cons (pg_name (i := 8) sc_joined.nd rfl (Or.inl rfl)) (pgs_cons (pg_name (i := 9) sc_joined.nd rfl (Or.inl rfl)) pgs_nil))))))
      (pss_one (ps_ret (pe_tup (pa_cons (pe_op op_add (pe_op op_mul (pv 2) (pv 6)) (pe_op op_mul (pv 3) (pv 8))) (pa_cons (pe_op op_add (pe_op op_mul (pv 2) (pv 7)) (pe_op op_mul (pv 3) (pv 9)))
        (pa_cons (pe_op op_add (pe_op op_mul (pv 4) (pv 6)) (pe_op op_mul (pv 5) (pv 8))) (pa_cons (pe_op op_add (pe_op op_mul (pv 4) (pv 7)) (pe_op op_mul (pv 5) (pv 9))) pa_nil))))))))), ?_⟩
    refine ⟨_, rfl, a, _, rfl, hm, rfl, _, _, rfl, _, _, rfl, _, _, rfl, _, _, rfl, rfl, ?_⟩
    refine ⟨_, rfl, b, _, rfl, hn, rfl, _, _, rfl, _, _, rfl, _, _, rfl, _, _, rfl, rfl, ?_⟩
    refine ⟨_, rfl, _, rfl, _, _, rfl, rfl, sm_mul s1, _, rfl, _, rfl, _, _, rfl, rfl, sm_mul s2, _, _, rfl, rfl, ?_⟩
    refine ⟨_, rfl, _, rfl, _, _, rfl, rfl, sm_mul s1, _, rfl, _, rfl, _, _, rfl, rfl, sm_mul s2, _, _, rfl, rfl, ?_⟩
    refine ⟨_, rfl, _, rfl, _, _, rfl, rfl, sm_mul s3, _, rfl, _, rfl, _, _, rfl, rfl, sm_mul s4, _, _, rfl, rfl, ?_⟩
    refine ⟨_, rfl, _, rfl, _, _, rfl, rfl, sm_mul s3, _, rfl, _, rfl, _, _, rfl, rfl, sm_mul s4, _, _, rfl, rfl, ?_⟩
    exact ⟨by show 4 ≤ sizeLine; decide, q⟩
theorem ok_led (D : Df K mg "led" s_led ["chain", "pair"]) : Ok P w K mg base 1 "led" ["chain", "pair"] (spLed K) := by
  refine D.ok sc_led (fun vs H Q E h => ?_) (fun f cdv A outer s H vs Q E hr h => ?_)
  · obtain ⟨a, b, m, v, rfl, _⟩ := h
    rfl
  · obtain ⟨a, b, m, v, rfl, hm, hv, ⟨s1, s2, s3, s4⟩, q⟩ := h
    have hm : SqT K H a [.int m.a, .int m.b, .int m.c, .int m.d] := hm
    have hv : SqT K H b [.int v.1, .int v.2] := hv
    have g0 : atI [V.int v.1, V.int v.2] 0 = some (.int v.1) := rfl
    have g1 : atI [V.int v.1, V.int v.2] 1 = some (.int v.2) := rfl
    refine ⟨_, (pss_cons (ps_asg (pv 0) (pg_tup rfl (pgs_cons (pg_name (i := 2) sc_led.nd rfl (Or.inl rfl)) (pgs_cons (pg_name (i := 3) sc_led.nd rfl (Or.inl rfl)) (pgs_cons (pg_name (i := 4) sc_led.nd rfl (Or.inl rfl)) (pgs_cons (pg_name (i := 5) sc_led.nd rfl (Or.inl rfl)) pgs_nil))))))
      (pss_one (ps_ret (pe_tup (pa_cons (pe_op op_add (pe_op op_mul (pv 2) (pe_ix ix_tup (pv 1) pe_int (fun _ _ => rfl))) (pe_op op_mul (pv 3) (pe_ix ix_tup (pv 1) pe_int (fun _ _ => rfl))))
        (pa_cons (pe_op op_add (pe_op op_mul (pv 4) (pe_ix ix_tup (pv 1) pe_int (fun _ _ => rfl))) (pe_op op_mul (pv 5) (pe_ix ix_tup (pv 1) pe_int (fun _ _ => rfl)))) pa_nil)))))), ?_⟩
    refine ⟨_, rfl, a, _, rfl, hm, rfl, _, _, rfl, _, _, rfl, _, _, rfl, _, _, rfl, rfl, ?_⟩
    refine ⟨_, rfl, _, rfl, b, _, _, _, rfl, rfl, hv, g0, _, _, rfl, rfl, sm_mul s1, _, rfl, _, rfl, b, _, _, _, rfl, rfl, hv, g1, _, _, rfl, rfl, sm_mul s2, _, _, rfl, rfl, ?_⟩
    refine ⟨_, rfl, _, rfl, b, _, _, _, rfl, rfl, hv, g0, _, _, rfl, rfl, sm_mul s3, _, rfl, _, rfl, b, _, _, _, rfl, rfl, hv, g1, _, _, rfl, rfl, sm_mul s4, _, _, rfl, rfl, ?_⟩
    exact ⟨by show 2 ≤ sizeLine; decide, q⟩
theorem ok_shown (D : Df K mg "shown" s_shown ["chain", "pair"]) (o_led : Ok P w K mg base 1 "led" ["chain", "pair"] (spLed K)) (o_lowest : Ok P w K mg base 2 "lowest" ["top", "bottom"] spLowest) : Ok P w K mg base 3 "shown" ["chain", "pair"] (spShown K) := by
  refine D.ok sc_shown (fun vs H Q E h => ?_) (fun f cdv A outer s H vs Q E hr h => ?_)
  · obtain ⟨a, b, m, v, rfl, _⟩ := h
    rfl
  · obtain ⟨a, b, m, v, rfl, hm, hv, sm, pb, q⟩ := h
    refine ⟨_, (pss_cons (ps_asg (pe_cl o_led (hr.mono (by decide)) (pa_cons (pv 0) (pa_cons (pv 1) pa_nil))) (pg_tup rfl (pgs_cons (pg_name (i := 2) sc_shown.nd rfl (Or.inl rfl)) (pgs_cons (pg_name (i := 3) sc_shown.nd rfl (Or.inl rfl)) pgs_nil))))
      (pss_one (ps_ret (pe_cl o_lowest (hr.mono (by decide)) (pa_cons (pv 2) (pa_cons (pv 3) pa_nil)))))), ?_⟩
    refine ⟨_, rfl, _, rfl, a, b, m, v, rfl, hm, hv, sm, fun p hp => ?_⟩
    refine ⟨p, _, rfl, .of upd_same, rfl, _, _, rfl, _, _, rfl, rfl, ?_⟩
    refine ⟨_, rfl, _, rfl, ledC m v, rfl, pb, fun r hr' => ?_⟩
    exact q _ r ((same_up hp).up hr') upd_same
theorem ok_chain_of (T : Txt K mg) (D : Df K mg "chain_of" s_chain_of ["pieces"]) (o_joined : Ok P w K mg base 1 "joined" ["front", "back"] (spJoined K)) : Ok P w K mg base 2 "chain_of" ["pieces"] (spChainOf K) := by
  refine D.ok sc_chain_of (fun vs H Q E h => ?_) (fun f cdv A outer s H vs Q E hr h => ?_)
  · obtain ⟨a, row, rfl, _⟩ := h
    rfl
  · obtain ⟨a, row, rfl, ⟨vs, hvs, hrow⟩, okr, hl, q⟩ := h
    have hlen := Paired.len hrow
    refine ⟨_, (pss_cons (ps_par (i := 1) (j := 2) rfl sc_chain_of.nd rfl rfl (by decide) rfl rfl (pa_cons (pe_gref T.gN) (pa_cons pe_int pa_nil)) (by rfl))
      (pss_cons (ps_for PassesOwn.never rfl (pi_tup (pv 0)) (pg_tup rfl (pgs_cons (pg_name (i := 3) sc_chain_of.nd rfl (Or.inl rfl)) (pgs_cons (pg_name (i := 4) sc_chain_of.nd rfl (Or.inl rfl)) pgs_nil)))
        (pss_one (ps_if (pt_cmpR op_eq (pv 3) pe_str (nomark _)) (pss_one (ps_set (i := 1) sc_chain_of.nd rfl (Or.inl rfl) (pe_cl o_joined (hr.mono (by decide)) (pa_cons (pv 1) (pa_cons (pe_tup (pa_cons pe_int (pa_cons (pv 4) (pa_cons pe_int (pa_cons pe_int pa_nil))))) pa_nil)))))
          (pss_one (ps_par (i := 1) (j := 2) rfl sc_chain_of.nd rfl rfl (by decide) rfl rfl (pa_cons (pe_cl o_joined (hr.mono (by decide)) (pa_cons (pv 1) (pa_cons (pe_tup (pa_cons (pv 4) (pa_cons pe_int (pa_cons pe_int (pa_cons (pv 4) pa_nil))))) pa_nil))) (pa_cons (pe_op op_mul (pv 2) (pv 4)) pa_nil)) (by rfl))))))
      (pss_one (ps_ret (pe_tup (pa_cons (pv 1) (pa_cons (pv 2) pa_nil))))))), ?_⟩
    refine ⟨_, _, rfl, ?_⟩
    refine ⟨_, rfl, a, rfl, ⟨_, hvs⟩, for_tup (xs := vs) (fun i σ H' => ∃ (t : Addr) (x4 x5 : Option V), σ = [some (.ref a), some (.ref t), some (.int (chain (row.take i)).2), x4, x5] ∧ Same H H' ∧ SqT K H' t (chV (chain (row.take i)).1))
      ⟨T.aN, none, none, rfl, Same.refl H, T.tN H⟩ (fun i σ H' _ h => ?_) (fun i x σ H' hx h => ?_) (fun σ H' h => ?_)⟩
    · obtain ⟨_, _, _, _, sm, _⟩ := h
      exact sm.sqT hvs
    · obtain ⟨t, x4, x5, rfl, sm, ht⟩ := h
      obtain ⟨p, hp, t2, rfl, h2⟩ := Paired.of_get hrow hx
      have h2 := sm.sqT h2
      have ok1 : OkP p := okr p (List.mem_of_getElem? hp)
      have hlt : i < row.length := (List.getElem?_eq_some_iff.mp hp).1
      obtain ⟨c1, c2⟩ := chain_sm (take_ok okr i) (by rw [List.length_take]; omega)
      have cn := chain_next hp
      refine ⟨t2, _, rfl, h2, rfl, _, _, rfl, _, _, rfl, rfl, ?_⟩
      obtain ⟨b, o⟩ := p
      cases b with
      | true =>
        refine ⟨_, rfl, rfl, true, congrArg V.bl (decide_eq_true rfl), iteT ?_⟩
        refine ⟨_, rfl, _, rfl, (by show 4 ≤ sizeLine; decide), fun r hr' => ?_⟩
        refine ⟨t, r, (chain (row.take i)).1, pcC (true, o), rfl, (same_up hr').sqT ht, .of upd_same, c1, fun u hu => ?_⟩
        refine ⟨u, some (.str (wd true)), some (.int o), ?_, (sm.up hr').up hu, ?_⟩
        · rw [cn]
          rfl
        · rw [cn]
          exact .of upd_same
      | false =>
        refine ⟨_, rfl, rfl, false, congrArg V.bl (decide_eq_false not_rail), iteF ?_⟩
        refine ⟨_, rfl, _, rfl, _, rfl, (by show 4 ≤ sizeLine; decide), fun r hr' => ?_⟩
        refine ⟨t, r, (chain (row.take i)).1, pcC (false, o), rfl, (same_up hr').sqT ht, .of upd_same, c1, fun u hu => ?_⟩
        refine ⟨_, rfl, _, rfl, _, _, rfl, rfl, sm_mul c2, _, _, rfl, u, some (.str (wd false)), some (.int o), ?_, (sm.up hr').up hu, ?_⟩
        · rw [cn]
          rfl
        · rw [cn]
          exact .of upd_same
    · obtain ⟨t, x4, x5, rfl, sm, ht⟩ := h
      have e : row.take vs.length = row := by rw [hlen, List.take_length]
      rw [e] at ht ⊢
      refine ⟨_, rfl, _, rfl, (by show 2 ≤ sizeLine; decide), fun p hp => ?_⟩
      exact q _ p t (sm.up hp) upd_same ((same_up hp).sqT ht)
end
end K13

namespace K13
open PySem PySem.Spec PyProof.Rows L2

/-! ### texts of pieces -/
def numT (o : Int) : Str := (toString o : String)
def ptext (p : Pc) : Str := (wd p.1 ++ (" " : Str)) ++ numT p.2
def rtext (row : List Pc) : Str := Txt.join (", " : Str) (row.map ptext)
theorem all12 {R : Int → Prop} (h : ∀ k : _root_.Fin 12, R (((k : Nat) : Int) + 1)) : ∀ o : Int, 1 ≤ o → o ≤ 12 → R o := fun o h1 h2 => by
  have z := h ⟨(o - 1).toNat, by omega⟩
  have e : (((o - 1).toNat : Nat) : Int) + 1 = o := by omega
  simp only [e] at z
  exact z
def digitsOf : List Nat := ("0123456789" : Str).cps.toList
structure NumOk (o : Int) : Prop where
  len : 1 ≤ (numT o).length ∧ (numT o).length ≤ 2
  dig : ∀ c ∈ (numT o).cps.toList, c ∈ digitsOf
  hd : ∃ c, (numT o).cps.toList[0]? = some c ∧ ¬ ((⟨#[c]⟩ : Str) = "0")
  val : PySem.intText? (numT o) = some o
theorem num_len : ∀ o : Int, 1 ≤ o → o ≤ 12 → 1 ≤ (numT o).length ∧ (numT o).length ≤ 2 := all12 (by decide +kernel)
theorem num_dig : ∀ o : Int, 1 ≤ o → o ≤ 12 → ∀ c ∈ (numT o).cps.toList, c ∈ digitsOf := all12 (by decide +kernel)
theorem num_hd : ∀ o : Int, 1 ≤ o → o ≤ 12 → ¬ ((⟨#[(numT o).cps.toList.getD 0 0]⟩ : Str) = "0") := all12 (by decide +kernel)
theorem num_val : ∀ o : Int, 1 ≤ o → o ≤ 12 → PySem.intText? (numT o) = some o := all12 (by decide +kernel)
theorem num_ok {o : Int} (h1 : 1 ≤ o) (h2 : o ≤ 12) : NumOk o := by
  refine ⟨num_len o h1 h2, num_dig o h1 h2, ?_, num_val o h1 h2⟩
  have l := (num_len o h1 h2).1
  have l' : 0 < (numT o).cps.toList.length := by
    have e : (numT o).cps.toList.length = (numT o).length := by simp [Str.length]
    omega
  refine ⟨(numT o).cps.toList[0], List.getElem?_eq_getElem l', ?_⟩
  have z := num_hd o h1 h2
  have e : (numT o).cps.toList.getD 0 0 = (numT o).cps.toList[0] := by simp [List.getD, List.getElem?_eq_getElem l']
  rw [e] at z
  exact z
theorem p_split0 : ∀ o : Int, 1 ≤ o → o ≤ 12 → Txt.split (ptext (true, o)) (" " : Str) = [wd true, numT o] := all12 (by decide +kernel)
theorem p_split1 : ∀ o : Int, 1 ≤ o → o ≤ 12 → Txt.split (ptext (false, o)) (" " : Str) = [wd false, numT o] := all12 (by decide +kernel)
theorem p_split {p : Pc} (h : OkP p) : Txt.split (ptext p) (" " : Str) = [wd p.1, numT p.2] := by
  obtain ⟨b, o⟩ := p
  cases b with
  | true => exact p_split0 o h.1 h.2
  | false => exact p_split1 o h.1 h.2
theorem p_len0 : ∀ o : Int, 1 ≤ o → o ≤ 12 → (ptext (true, o)).length ≤ 7 := all12 (by decide +kernel)
theorem p_len1 : ∀ o : Int, 1 ≤ o → o ≤ 12 → (ptext (false, o)).length ≤ 7 := all12 (by decide +kernel)
theorem p_len {p : Pc} (h : OkP p) : (ptext p).length ≤ 7 := by
  obtain ⟨b, o⟩ := p
  cases b with
  | true => exact p_len0 o h.1 h.2
  | false => exact p_len1 o h.1 h.2
theorem p_free0 : ∀ o : Int, 1 ≤ o → o ≤ 12 → 44 ∉ (ptext (true, o)).cps.toList := all12 (by decide +kernel)
theorem p_free1 : ∀ o : Int, 1 ≤ o → o ≤ 12 → 44 ∉ (ptext (false, o)).cps.toList := all12 (by decide +kernel)
theorem p_free {p : Pc} (h : OkP p) : 44 ∉ (ptext p).cps.toList := by
  obtain ⟨b, o⟩ := p
  cases b with
  | true => exact p_free0 o h.1 h.2
  | false => exact p_free1 o h.1 h.2
theorem r_split {row : List Pc} (h : OkR row) (hne : row ≠ []) : Txt.split (rtext row) (", " : Str) = row.map ptext := by
  have z : Txt.split (Txt.join (", " : Str) (row.map ptext)) (", " : Str) = row.map ptext := by
    refine TL.split_join (s := 44) (S := [32]) (by decide +kernel) (by decide +kernel) (by simpa using hne) ?_
    intro q hq
    obtain ⟨p, hp, rfl⟩ := List.mem_map.mp hq
    exact p_free (h p hp)
  exact z
end K13

namespace K13
open PySem PySem.Spec PyProof.Rows L2

theorem joinL_len : ∀ (S : List Nat) (parts : List (List Nat)) (n : Nat), (∀ p ∈ parts, p.length ≤ n) → (TL.joinL S parts).length ≤ (n + S.length) * parts.length
  | S, [], n, _ => by simp [TL.joinL]
  | S, [p], n, h => by
    have := h p List.mem_cons_self
    simp [TL.joinL]
    omega
  | S, p :: q :: r, n, h => by
    have h1 := h p List.mem_cons_self
    have ih := joinL_len S (q :: r) n fun x hx => h x (List.mem_cons_of_mem _ hx)
    have e : TL.joinL S (p :: q :: r) = p ++ (S ++ TL.joinL S (q :: r)) := by first | rfl | simp [TL.joinL]
    rw [e, List.length_append, List.length_append]
    have e2 : (n + S.length) * (p :: q :: r).length = (n + S.length) * (q :: r).length + (n + S.length) := by
      rw [List.length_cons (a := p), Nat.mul_add, Nat.mul_one]
    omega
theorem r_len {row : List Pc} (h : OkR row) (hl : row.length ≤ 8) : (rtext row).length ≤ 72 := by
  unfold rtext
  rw [TL.join_eq, TL.len_tl, TL.tl_join]
  have z := joinL_len (TL.tl (", " : Str)) ((row.map ptext).map TL.tl) 7 (fun p hp => by
    obtain ⟨q, hq, rfl⟩ := List.mem_map.mp hp
    obtain ⟨x, hx, rfl⟩ := List.mem_map.mp hq
    rw [← TL.len_tl]
    exact p_len (h x hx))
  have e : (TL.tl (", " : Str)).length = 2 := by decide +kernel
  rw [e, List.length_map, List.length_map] at z
  omega

/-! ### texts of numbers, of pieces -/
def spIntegerIn : Sp := fun vs H Q _ => ∃ o : Int, vs = [.str (numT o)] ∧ 1 ≤ o ∧ o ≤ 12 ∧ ∀ H', Same H H' → Q (.int o) H'
def spPieceIn (K : PySem.W.Frag) : Sp := fun vs H Q _ => ∃ p : Pc, vs = [.str (ptext p)] ∧ OkP p ∧ ∀ H' v, Same H H' → PcV K H' v p → Q v H'
abbrev s_integer_in : Stmt := top 25
abbrev s_piece_in : Stmt := top 37
theorem sc_integer_in : FnScope ["word", "digit"] ["word"] (defScope s_integer_in) := ⟨rfl, rfl, rfl, by decide +kernel, rfl, by decide +kernel, by decide +kernel⟩
theorem sc_piece_in : FnScope ["text", "words", "ohms"] ["text"] (defScope s_piece_in) := ⟨rfl, rfl, rfl, by decide +kernel, rfl, by decide +kernel, by decide +kernel⟩
/-- a comprehension without a test -/
theorem yesT {A B : Hp → Prop} {σ : L2.St} {H : Hp} (h : A H) : tYes σ H (fun b H3 => if b = true then A H3 else B H3) := by
  show if true = true then A H else B H
  rw [if_pos rfl]
  exact h
theorem any_none : ∀ n : Nat, (List.replicate n false).any id = false
  | 0 => rfl
  | n + 1 => by
    rw [List.replicate_succ, List.any_cons, any_none n]
    rfl
section
variable {P : Program} {w : World} {K : PySem.W.Frag} {mg : Str → Option Value} {base : Heap}
theorem ok_integer_in (T : Txt K mg) (D : Df K mg "integer_in" s_integer_in ["word"]) : Ok P w K mg base 1 "integer_in" ["word"] spIntegerIn := by
  refine D.ok sc_integer_in (fun vs H Q E h => ?_) (fun f cdv A outer s H vs Q E hr h => ?_)
  · obtain ⟨o, rfl, _⟩ := h
    rfl
  · obtain ⟨o, rfl, o1, o2, q⟩ := h
    obtain ⟨⟨l1, l2⟩, hdig, ⟨c0, hc0, hz⟩, hval⟩ := num_ok o1 o2
    refine ⟨_, (pss_cons (ps_if (PW.pt (pw_or (pt_not (pt_chain op_le op_le pe_int (pe_callB call_len_str (by rfl) T.len b_len (pa_cons (pv 0) pa_nil)) (pe_gint T.most_digits)))
        (pw_or1 (pt_val (pe_callB (cr_any rfl) (by rfl) T.any b_any (pa_cons (pe_lc (own := [("digit", 1)]) rfl sc_integer_in.nd (pi_str (pv 0)) (blkOk_by (N := ["word", "digit"]) (sc := defScope s_integer_in) (by decide +kernel)) (fun _ _ _ _ _ => (pg_name (i := 1) sc_integer_in.nd rfl (Or.inl rfl))) (fun _ _ _ _ _ => pts_nil)
          (fun _ _ _ _ _ => (pe_cmpR op_notIn_sign (pv 1) (pe_gstr T.digits) rfl))) pa_nil)))))) (pss_one (ps_ret pe_non)) pss_nil)
      (pss_one (ps_ret (pe_ifExp (PW.pt (pw_and (pt_cmpR op_eq (pe_ix ix_str (pv 0) pe_int (fun _ _ => rfl)) pe_str (nomark _)) (pw_and1 (pt_cmpR op_ne (pv 0) pe_str (nomark _))))) pe_non
        (pe_callTy call_int_str (by rfl) T.int b_int (pa_cons (pv 0) pa_nil)))))), ?_⟩
    have small : (numT o).length ≤ sizeLine := Nat.le_trans l2 (by decide)
    refine ⟨_, rfl, _, rfl, small, _, _, rfl, rfl, true, congrArg V.bl (decide_eq_true (by omega)), iteT ?_⟩
    refine ⟨_, _, rfl, rfl, true, congrArg V.bl (decide_eq_true (by omega)), iteF ?_⟩
    refine ⟨_, rfl, numT o, rfl, fun L hL => ?_⟩
    refine lc_it walk_str (fun i H' => Same H H' ∧ H' L = some (.lst ((List.replicate i false).map V.bl))) ⟨same_up hL, upd_same⟩ (fun _ _ _ _ => trivial) (fun i x H1 H2 hi hp hy => ?_) (fun H' hp => ?_)
    · obtain ⟨rfl, c, hc, rfl⟩ := hy
      obtain ⟨sm, hD⟩ := hp
      have hc2 : c ∈ (numT o).cps.toList := by
        have e : (numT o).cps.toList[i]? = some c := by
          rw [Array.getElem?_toList]
          exact hc
        exact List.mem_of_getElem? e
      have hin := hdig c hc2
      have hlt : i < (numT o).length := hi
      refine ⟨rfl, yesT ?_⟩
      refine ⟨_, rfl, c, ("0123456789" : Str), rfl, rfl, ?_⟩
      have e : (!decide (c ∈ ("0123456789" : Str).cps.toList)) = false := by
        rw [decide_eq_true (show c ∈ ("0123456789" : Str).cps.toList from hin)]
        rfl
      rw [e]
      refine ⟨_, hD, ?_, ?_, ?_⟩
      · rw [List.length_map, List.length_replicate]
        exact Nat.lt_of_lt_of_le hlt small
      · intro b u hb
        have nb : b ≠ L := ne_of_none hb hL
        rw [upd_ne nb]
        exact sm b u hb
      · rw [upd_same, List.replicate_succ', List.map_append]
        rfl
    · obtain ⟨sm, hD⟩ := hp
      refine ⟨L, _, rfl, .of hD, _, rfl, ?_⟩
      rw [any_none]
      refine iteF ?_
      refine ⟨_, rfl, numT o, 0, c0, rfl, rfl, small, atI_nat (j := 0) hc0, rfl, false, ?_, iteF ?_⟩
      · refine congrArg V.bl (decide_eq_false fun z => ?_)
        injection z with z
        exact hz z
      · exact ⟨_, rfl, _, _, rfl, hval, Nat.le_trans l2 (by decide), q _ sm⟩
theorem words_have (b : Bool) : inV (.str (wd b)) [.str "rail", .str "rung"] = true := by
  cases b with
  | true => decide +kernel
  | false => decide +kernel
theorem ok_piece_in (T : Txt K mg) (D : Df K mg "piece_in" s_piece_in ["text"]) (o_integer_in : Ok P w K mg base 1 "integer_in" ["word"] spIntegerIn) (o_is_between : Ok P w K mg base 2 "is_between" ["value", "low", "high"] spIsBetween) :
    Ok P w K mg base 3 "piece_in" ["text"] (spPieceIn K) := by
  refine D.ok sc_piece_in (fun vs H Q E h => ?_) (fun f cdv A outer s H vs Q E hr h => ?_)
  · obtain ⟨p, rfl, _⟩ := h
    rfl
  · obtain ⟨p, rfl, hp, q⟩ := h
    have el := p_len hp
    refine ⟨_, (pss_cons (ps_set (i := 1) sc_piece_in.nd rfl (Or.inl rfl) (pe_split (pv 0) pe_str))
      (pss_cons (ps_if (PW.pt (pw_or (pt_cmpR op_ne (pe_callB call_len_seq (by rfl) T.len b_len (pa_cons (pv 1) pa_nil)) pe_int (nomark _)) (pw_or1 (pt_cmpR op_notIn_seq (pe_ix ix_list (pv 1) pe_int (fun _ _ => rfl)) (pe_gref T.gW) rfl)))) (pss_one (ps_ret pe_non)) pss_nil)
      (pss_cons (ps_set (i := 2) sc_piece_in.nd rfl (Or.inl rfl) (pe_cl o_integer_in (hr.mono (by decide)) (pa_cons (pe_ix ix_list (pv 1) pe_int (fun _ _ => rfl)) pa_nil)))
      (pss_one (ps_ret (pe_ifExp (pt_val (pe_cl o_is_between (hr.mono (by decide)) (pa_cons (pv 2) (pa_cons pe_int (pa_cons (pe_gint T.most_ohms) pa_nil))))) (pe_tup (pa_cons (pe_ix ix_list (pv 1) pe_int (fun _ _ => rfl)) (pa_cons (pv 2) pa_nil))) pe_non)))))), ?_⟩
    refine ⟨_, rfl, ⟨_, rfl⟩, _, _, rfl, rfl, rfl, Nat.le_trans (Nat.add_le_add_right el 2) (by decide), fun L hL => ?_⟩
    rw [p_split hp]
    have hl : (upd H L (.lst ([wd p.1, numT p.2].map V.str))) L = some (.lst [V.str (wd p.1), V.str (numT p.2)]) := upd_same
    have g0 : atI [V.str (wd p.1), V.str (numT p.2)] 0 = some (.str (wd p.1)) := rfl
    have g1 : atI [V.str (wd p.1), V.str (numT p.2)] 1 = some (.str (numT p.2)) := rfl
    refine ⟨_, rfl, L, _, rfl, .inl (.of hl), rfl, false, rfl, iteF ?_⟩
    refine ⟨_, rfl, L, _, _, _, rfl, rfl, .of hl, g0, _, _, rfl, .inr (T.tW _), rfl, rfl, false, ?_, iteF ?_⟩
    · rw [words_have]
      rfl
    refine ⟨_, rfl, L, _, _, _, rfl, rfl, .of hl, g1, p.2, rfl, hp.1, hp.2, fun H2 s2 => ?_⟩
    have hl2 := s2 _ _ hl
    refine ⟨_, rfl, p.2, 1, 12, rfl, true, congrArg V.bl (decide_eq_true hp), iteT ?_⟩
    refine ⟨_, rfl, L, _, _, _, rfl, rfl, .of hl2, g0, _, rfl, (by show 2 ≤ sizeLine; decide), fun t ht => ?_⟩
    exact q _ _ (((same_up hL).trans s2).up ht) ⟨t, rfl, .of upd_same⟩
end
end K13

namespace K13
open PySem PySem.Spec PyProof.Rows L2

/-! ### pieces, checked -/
def spIsPiece (K : PySem.W.Frag) : Sp := fun vs H Q _ => ∃ (v : V) (p : Pc), vs = [v] ∧ PcV K H v p ∧ OkP p ∧ Q (.bl true) H
def spCheckPieces (K : PySem.W.Frag) : Sp := fun vs H Q _ => ∃ (a : Addr) (row : List Pc), vs = [.ref a] ∧ RowT K H a row ∧ OkR row ∧ 1 ≤ row.length ∧ row.length ≤ 4 ∧ ∀ H', Same H H' → Q .non H'
abbrev s_is_piece : Stmt := top 35
abbrev s_check_pieces : Stmt := top 36
abbrev s_Row_init : Stmt := inClass (top 34) 0
abbrev s_Pat_init : Stmt := inClass (top 40) 0
theorem sc_is_piece : FnScope ["value"] ["value"] (defScope s_is_piece) := ⟨rfl, rfl, rfl, by decide +kernel, rfl, by decide +kernel, by decide +kernel⟩
theorem sc_check_pieces : FnScope ["pieces", "index", "piece"] ["pieces"] (defScope s_check_pieces) := ⟨rfl, rfl, rfl, by decide +kernel, rfl, by decide +kernel, by decide +kernel⟩
theorem sc_Row_init : FnScope ["self", "told"] ["self", "told"] (defScope s_Row_init) := ⟨rfl, rfl, rfl, by decide +kernel, rfl, by decide +kernel, by decide +kernel⟩
theorem sc_Pat_init : FnScope ["self", "pieces"] ["self", "pieces"] (defScope s_Pat_init) := ⟨rfl, rfl, rfl, by decide +kernel, rfl, by decide +kernel, by decide +kernel⟩
section
variable {P : Program} {w : World} {K : PySem.W.Frag} {mg : Str → Option Value} {base : Heap}
theorem ok_is_piece (T : Txt K mg) (D : Df K mg "is_piece" s_is_piece ["value"]) (o_is_between : Ok P w K mg base 2 "is_between" ["value", "low", "high"] spIsBetween) : Ok P w K mg base 3 "is_piece" ["value"] (spIsPiece K) := by
  refine D.ok sc_is_piece (fun vs H Q E h => ?_) (fun f cdv A outer s H vs Q E hr h => ?_)
  · obtain ⟨v, p, rfl, _⟩ := h
    rfl
  · obtain ⟨v, p, rfl, ⟨a, rfl, hT⟩, hp, q⟩ := h
    have g0 : atI [V.str (wd p.1), V.int p.2] 0 = some (.str (wd p.1)) := rfl
    have g1 : atI [V.str (wd p.1), V.int p.2] 1 = some (.int p.2) := rfl
    refine ⟨_, (pss_cons (ps_if (PW.pt (pw_or (pt_not (pt_val (pe_callB call_isi (by rfl) T.isinstance b_isinstance (pa_cons (pv 0) (pa_cons (pe_bty T.tuple b_tuple) pa_nil)))))
        (pw_or (pt_cmpR op_ne (pe_callB call_len_seq (by rfl) T.len b_len (pa_cons (pv 0) pa_nil)) pe_int (nomark _))
        (pw_or1 (pt_not (pt_val (pe_callB call_isi (by rfl) T.isinstance b_isinstance (pa_cons (pe_ix ix_tup (pv 0) pe_int (fun _ _ => rfl)) (pa_cons (pe_bty T.str b_str) pa_nil))))))))) (pss_one ps_never) pss_nil)
      (pss_one (ps_ret (pe_and (pe_cmpR op_in_seq (pe_ix ix_tup (pv 0) pe_int (fun _ _ => rfl)) (pe_gref T.gW) rfl)
        (pe_one (pe_cl o_is_between (hr.mono (by decide)) (pa_cons (pe_ix ix_tup (pv 0) pe_int (fun _ _ => rfl)) (pa_cons pe_int (pa_cons (pe_gint T.most_ohms) pa_nil))))))))), ?_⟩
    refine ⟨_, rfl, _, _, _, _, _, rfl, .ty _, tyx_tup hT, kit_tt, true, rfl, iteF ?_⟩
    refine ⟨_, rfl, a, _, rfl, .inr hT, rfl, false, rfl, iteF ?_⟩
    refine ⟨_, rfl, a, _, _, _, rfl, rfl, hT, g0, _, _, _, _, _, rfl, .ty _, .base (.str _), kit_ss, true, rfl, iteF ?_⟩
    refine ⟨_, rfl, a, _, _, _, rfl, rfl, hT, g0, _, _, rfl, .inr (T.tW _), rfl, rfl, true, congrArg V.bl (words_have p.1), iteT ?_⟩
    refine ⟨_, rfl, a, _, _, _, rfl, rfl, hT, g1, p.2, 1, 12, rfl, ?_⟩
    have e : decide (1 ≤ p.2 ∧ p.2 ≤ 12) = true := decide_eq_true hp
    rw [e]
    exact q
theorem ok_check_pieces (T : Txt K mg) (D : Df K mg "check_pieces" s_check_pieces ["pieces"]) (o_is_piece : Ok P w K mg base 3 "is_piece" ["value"] (spIsPiece K)) : Ok P w K mg base 4 "check_pieces" ["pieces"] (spCheckPieces K) := by
  refine D.ok sc_check_pieces (fun vs H Q E h => ?_) (fun f cdv A outer s H vs Q E hr h => ?_)
  · obtain ⟨a, row, rfl, _⟩ := h
    rfl
  · obtain ⟨a, row, rfl, ⟨vs, hvs, hrow⟩, okr, l1, l2, q⟩ := h
    have hlen := Paired.len hrow
    refine ⟨_, (pss_cons (ps_if (PW.pt (pw_or (pt_cmpR op_eq (pe_callB call_len_seq (by rfl) T.len b_len (pa_cons (pv 0) pa_nil)) pe_int (nomark _)) (pw_or1 (pt_cmpR op_gt (pe_callB call_len_seq (by rfl) T.len b_len (pa_cons (pv 0) pa_nil)) (pe_gint T.most_pieces) (nomark _))))) (pss_one ps_never) pss_nil)
      (pss_one (ps_for PassesOwn.never rfl (pi_enumT (by rfl) T.enumerate (pa_cons (pv 0) pa_nil)) (pg_tup rfl (pgs_cons (pg_name (i := 1) sc_check_pieces.nd rfl (Or.inl rfl)) (pgs_cons (pg_name (i := 2) sc_check_pieces.nd rfl (Or.inl rfl)) pgs_nil)))
        (pss_one (ps_if (pt_not (pt_val (pe_cl o_is_piece (hr.mono (by decide)) (pa_cons (pv 2) pa_nil)))) (pss_one ps_never) pss_nil))))), ?_⟩
    refine ⟨_, rfl, a, _, rfl, .inr hvs, rfl, false, congrArg V.bl (decide_eq_false fun z => ?_), iteF ?_⟩
    · injection z with z
      omega
    refine ⟨_, rfl, a, _, rfl, .inr hvs, _, _, rfl, rfl, false, congrArg V.bl (decide_eq_false (by omega)), iteF ?_⟩
    refine ⟨_, rfl, a, _, rfl, hvs, for_enumT (xs := vs) (fun i σ H' => ∃ x1 x2 : Option V, σ = [some (.ref a), x1, x2] ∧ Same H H') ⟨none, none, rfl, Same.refl H⟩ (fun i σ H' _ h => ?_) (fun i x σ H' L hx h hL => ?_) (fun σ H' h => ?_)⟩
    · obtain ⟨_, _, _, sm⟩ := h
      exact sm.sqT hvs
    · obtain ⟨x1, x2, rfl, sm⟩ := h
      obtain ⟨p, hp, hpc⟩ := Paired.of_get hrow hx
      refine ⟨L, _, rfl, .of upd_same, rfl, _, _, rfl, _, _, rfl, rfl, ?_⟩
      have sm2 := sm.up (p := L) (o := .tup [.int (i : Nat), x]) hL
      obtain ⟨t, e, ht⟩ := hpc
      refine ⟨_, rfl, x, p, rfl, ⟨t, e, sm2.sqT ht⟩, okr p (List.mem_of_getElem? hp), true, rfl, iteF ?_⟩
      exact ⟨_, _, rfl, sm2⟩
    · obtain ⟨_, _, rfl, sm⟩ := h
      exact q _ sm

/-! ### instances made -/
def spRowInit (cR : Addr) : Sp := fun vs H Q _ => ∃ (x dx : Addr) (v : V), vs = [.ref x, v] ∧ H x = some (.ins cR dx []) ∧ Q .non (upd H x (.ins cR dx (putF "told" v [])))
def OkRow (P : Program) (w : World) (K : PySem.W.Frag) (mg : Str → Option Value) (base : Heap) (T : Txt K mg) : Prop := ∃ f fd, Mk K T.cR f ∧ FnOk P w K mg base CX0 1 f fd ["self", "told"] (spRowInit T.cR) ∧ Binds K fd ["self", "told"] []
theorem ok_Row (T : Txt K mg) (D : ∃ f fd, Fun K "__init__" "Row.__init__" s_Row_init f fd ∧ Mk K T.cR f ∧ Binds K fd ["self", "told"] []) : OkRow P w K mg base T := by
  obtain ⟨f, fd, F, M, b⟩ := D
  refine ⟨f, fd, M, F.ok sc_Row_init (fun vs H Q E h => ?_) (fun cdv A outer s H vs Q E hr h => ?_), b⟩
  · obtain ⟨x, dx, v, rfl, _⟩ := h
    rfl
  · obtain ⟨x, dx, v, rfl, hx, q⟩ := h
    refine ⟨_, (pss_one (ps_fld (pv 0) (pv 1) rfl)), ?_⟩
    exact ⟨_, rfl, _, rfl, x, _, dx, _, rfl, hx, T.lR, T.nR, (by show 0 < 1000; decide), q⟩
/-- what Pattern(..) is given: a Row with the row's tuple, or the pieces themselves -/
def Src (K : PySem.W.Frag) (cR : Addr) (H : Hp) (rest : List V) (row : List Pc) : Prop :=
  (∃ q dq r fr, rest = [.ref q] ∧ H q = some (.ins cR dq fr) ∧ fr.lookup ("told" : Str) = some (.ref r) ∧ RowT K H r row) ∨ (RowV K H rest row ∧ 1 ≤ row.length ∧ row.length ≤ 4)
theorem Src.same {cR : Addr} {H H' : Hp} {rest : List V} {row : List Pc} (h : Src K cR H rest row) (s : Same H H') : Src K cR H' rest row := by
  rcases h with ⟨q, dq, r, fr, h1, h2, h3, h4⟩ | ⟨h1, h2⟩
  · exact .inl ⟨q, dq, r, fr, h1, s _ _ h2, h3, h4.same s⟩
  · exact .inr ⟨h1.same s, h2⟩
def spPatInit (K : PySem.W.Frag) (cR cP : Addr) : Sp := fun vs H Q _ => ∃ (x t dx : Addr) (rest : List V) (row : List Pc), vs = [.ref x, .ref t] ∧ H x = some (.ins cP dx []) ∧ H t = some (.tup rest) ∧ Src K cR H rest row ∧ OkR row ∧ row.length ≤ 8 ∧
  ∀ H', But x H H' → PatAt K cP H' x row → Q .non H'
/-- what stands beside an instance that is being made -/
theorem But.sqT' {x a dx C : Addr} {fs : List (Str × V)} {H H' : Hp} {xs : List V} (s : But x H H') (hx : H x = some (.ins C dx fs)) (h : SqT K H a xs) : SqT K H' a xs := by
  have ne : ∀ {o}, H a = some o → o ≠ .ins C dx fs → a ≠ x := fun {o} e n z => by
    subst z
    rw [hx] at e
    exact n (Option.some.inj e).symm
  rcases h with (h | ⟨o, h⟩) | h
  · exact .inl (.inl (s _ _ (ne h (fun z => nomatch z)) h))
  · exact .inl (.inr ⟨o, s _ _ (ne h (fun z => nomatch z)) h⟩)
  · exact .inr h
theorem But.rowT {x a dx C : Addr} {fs : List (Str × V)} {H H' : Hp} {row : List Pc} (s : But x H H') (hx : H x = some (.ins C dx fs)) (h : RowT K H a row) : RowT K H' a row := by
  obtain ⟨vs, h1, h2⟩ := h
  exact ⟨vs, s.sqT' hx h1, Paired.imp (fun _ _ ⟨t, e, q⟩ => ⟨t, e, s.sqT' hx q⟩) h2⟩
theorem but_upd {x : Addr} {H : Hp} {o : HO} : But x H (upd H x o) := fun b u n e => by
  rw [upd_ne n]
  exact e
theorem row_lookup (r : Addr) : (putF "row" (.ref r) []).lookup ("row" : Str) = some (.ref r) := by rw [lookup_putF, if_pos rfl]
theorem body_init (T : Txt K mg) (o_check_pieces : Ok P w K mg base 4 "check_pieces" ["pieces"] (spCheckPieces K)) (o_chain_of : Ok P w K mg base 2 "chain_of" ["pieces"] (spChainOf K)) {f : Addr} {cdv : Value} {A : Around} {outer : List Env} {s : Shared} {H : Hp} {vs : List V} {Q : VK} {E : XK}
    (hr : Room 4 (A.deeper (envOfC "Pattern.__init__" (defScope s_Pat_init) s.heap.objs.size f cdv))) (h : spPatInit K T.cR T.cP vs H Q E) :
    ∃ t, PSs (cxOf CX0 P w K mg base ["self", "pieces"] "Pattern.__init__" (defScope s_Pat_init) f cdv A outer s H E).nox (defBody s_Pat_init) t ∧ t { nx := fun _ H' => Q .non H', rt := Q } (L2.start ["self", "pieces"] vs) H := by
  obtain ⟨x, t, dx, rest, row, rfl, hx, ht, src, okr, hl, q⟩ := h
  refine ⟨_, (Evl.pss_cut (ps_if (PW.pt (pw_and (pt_cmpR op_eq (pe_callB call_len_seq (by rfl) T.len b_len (pa_cons (pv 1) pa_nil)) pe_int (nomark _))
        (pw_and1 (pt_val (pe_callB call_isi (by rfl) T.isinstance b_isinstance (pa_cons (pe_ix ix_tup (pv 1) pe_int (fun _ _ => rfl)) (pa_cons (pe_gref T.gR) pa_nil)))))))
      (pss_one (ps_fld (pv 0) (pe_fld (pe_ix ix_tup (pv 1) pe_int (fun _ _ => rfl)) rfl) rfl))
      (pss_cons (ps_expr (pe_cl o_check_pieces (hr.mono (by decide)) (pa_cons (pv 1) pa_nil))) (pss_one (ps_fld (pv 0) (pe_callTy call_tupleT (by rfl) T.tuple b_tuple (pa_cons (pv 1) pa_nil)) rfl))))
    (pss_one (ps_asg (pe_cl o_chain_of (hr.mono (by decide)) (pa_cons (pe_fld (pv 0) rfl) pa_nil)) (pg_tup rfl (pgs_cons (pg_fld (pv 0)) (pgs_cons (pg_fld (pv 0)) pgs_nil)))))), ?_⟩
  have hT : SqT K H t rest := .of ht
  refine ⟨fun σ' H' => σ' = [some (.ref x), some (.ref t)] ∧ ∃ r, But x H H' ∧ H' x = some (.ins T.cP dx (putF "row" (.ref r) [])) ∧ RowT K H' r row, ?_, ?_⟩
  · -- the row, from the Row or from the pieces
    have set0 : ∀ {H2 : Hp} {r : Addr}, Same H H2 → RowT K H2 r row → ([some (.ref x), some (.ref t)] : L2.St) = [some (.ref x), some (.ref t)] ∧ ∃ r', But x H (upd H2 x (.ins T.cP dx (putF "row" (.ref r) []))) ∧
        upd H2 x (.ins T.cP dx (putF "row" (.ref r) [])) x = some (.ins T.cP dx (putF "row" (.ref r') [])) ∧ RowT K (upd H2 x (.ins T.cP dx (putF "row" (.ref r) []))) r' row := fun {H2 r} s2 hr2 =>
      ⟨rfl, r, (But.of s2).trans but_upd, upd_same, but_upd.rowT (s2 _ _ hx) hr2⟩
    have two : ∀ {H2 : Hp}, Same H H2 → RowV K H rest row → 1 ≤ row.length → row.length ≤ 4 →
        tSeq (tDrop (tCall (spCheckPieces K) [] E0 (tCons (tVar 1) tNil))) (sFld K (tVar 0) (tCB (fun xs H Q => ∃ a ys, xs = [.ref a] ∧ SqT K H a ys ∧ Q (.ref a) H) (tCons (tVar 1) tNil)) "row")
          { nx := fun σ' H' => σ' = [some (.ref x), some (.ref t)] ∧ ∃ r, But x H H' ∧ H' x = some (.ins T.cP dx (putF "row" (.ref r) [])) ∧ RowT K H' r row, rt := Q } [some (.ref x), some (.ref t)] H2 := fun {H2} s2 hv l1 l2 => by
      refine ⟨_, rfl, t, row, rfl, ⟨rest, s2.sqT hT, hv.same s2⟩, okr, l1, l2, fun H3 s3 => ?_⟩
      have s4 := s2.trans s3
      refine ⟨_, rfl, t, _, rfl, s4.sqT hT, _, rfl, x, _, dx, _, rfl, s4 _ _ hx, T.lP, T.nP1, (by show 0 < 1000; decide), ?_⟩
      exact set0 s4 ⟨rest, s4.sqT hT, hv.same s4⟩
    rcases src with ⟨y, dq, r, fr, rfl, hq, hf, hr1⟩ | ⟨hv, l1, l2⟩
    · have g0 : atI [V.ref y] 0 = some (.ref y) := rfl
      refine ⟨_, rfl, t, _, rfl, .inr hT, rfl, true, rfl, iteT ?_⟩
      refine ⟨_, rfl, t, _, _, _, rfl, rfl, hT, g0, _, _, _, _, _, rfl, .own _, tyx_row T hq, T.kRR, true, rfl, iteT ?_⟩
      refine ⟨_, rfl, t, _, _, _, rfl, rfl, hT, g0, y, _, dq, fr, _, rfl, hq, T.lR, T.nR, hf, _, rfl, x, _, dx, _, rfl, hx, T.lP, T.nP1, (by show 0 < 1000; decide), ?_⟩
      exact set0 (Same.refl H) hr1
    · have hlen := Paired.len hv
      refine ⟨_, rfl, t, _, rfl, .inr hT, rfl, decide (V.int ((rest.length : Nat) : Int) = V.int 1), rfl, ?_⟩
      by_cases h1 : rest.length = 1
      · rw [decide_eq_true (show V.int ((rest.length : Nat) : Int) = V.int 1 by rw [h1]; rfl)]
        refine iteT ?_
        obtain ⟨v, rfl⟩ : ∃ v, rest = [v] := by
          match rest, h1 with
          | [v], _ => exact ⟨v, rfl⟩
        obtain ⟨p, _, a, rfl, hpa⟩ := Paired.of_get (i := 0) hv rfl
        have g0 : atI [V.ref a] 0 = some (.ref a) := rfl
        refine ⟨_, rfl, t, _, _, _, rfl, rfl, hT, g0, _, _, _, _, _, rfl, .own _, tyx_tup hpa, T.kTR, false, rfl, iteF ?_⟩
        exact two (Same.refl H) hv l1 l2
      · rw [decide_eq_false (show ¬ V.int ((rest.length : Nat) : Int) = V.int 1 from fun z => h1 (by injection z with z; omega))]
        exact iteF (iteF (two (Same.refl H) hv l1 l2))
  · rintro σ' H' ⟨rfl, r, bx, hx2, hrow⟩
    refine ⟨_, rfl, x, _, dx, _, _, rfl, hx2, T.lP, T.nP1, row_lookup r, r, row, rfl, hrow, okr, hl, fun H2 p u s2 hp hu => ?_⟩
    have e1 : upd H2 x (.ins T.cP dx (putF "chain" (.ref u) (putF "row" (.ref r) []))) x = some (.ins T.cP dx (putF "chain" (.ref u) (putF "row" (.ref r) []))) := upd_same
    refine ⟨p, _, rfl, .of hp, rfl, _, _, rfl, ⟨_, rfl, x, _, dx, _, rfl, s2 _ _ hx2, T.lP, T.nP2, (by have := length_putF "row" (.ref r) []; show _ < 1000; simp at this ⊢; omega), ?_⟩⟩
    refine ⟨_, _, rfl, ⟨_, rfl, x, _, dx, _, rfl, e1, T.lP, T.nP3, ?_, ?_⟩⟩
    · have h1 := length_putF "row" (.ref r) []
      have h2 := length_putF "chain" (.ref u) (putF "row" (.ref r) [])
      simp at h1 h2 ⊢
      omega
    refine ⟨rfl, q _ ?_ ⟨dx, r, u, upd_same, ?_⟩⟩
    · exact ((bx.trans (.of s2)).trans but_upd).trans but_upd
    · exact (but_upd.trans but_upd).sqT' (s2 _ _ hx2) hu
end
end K13

namespace K13
open PySem PySem.Spec PyProof.Rows L2

/-! ### data: pairs, pieces -/
def piD (v : Int × Int) : PyData := .tuple [.int v.1, .int v.2]
def pcD (p : Pc) : PyData := .tuple [.str (wd p.1), .int p.2]
def PrV (K : PySem.W.Frag) (H : Hp) (v : V) (q : Int × Int) : Prop := ∃ t, v = .ref t ∧ SqT K H t (pairV q)
def PrsV (K : PySem.W.Frag) (H : Hp) (vs : List V) (qs : List (Int × Int)) : Prop := Paired (PrV K H) vs qs
section
variable {K : PySem.W.Frag} {H H' : Hp} {c : Addr} {vs : List V} {qs : List (Int × Int)} {row : List Pc}
theorem _root_.L2.Same.sqL {K : PySem.W.Frag} {H H' : Hp} {a : Addr} {xs : List V} (s : Same H H') (h : SqL K H a xs) : SqL K H' a xs := h.ext s
theorem PrsV.same (h : PrsV K H vs qs) (s : Same H H') : PrsV K H' vs qs := Paired.imp (fun _ _ ⟨t, e, q⟩ => ⟨t, e, s.sqT q⟩) h
theorem PrsV.but (h : PrsV K H vs qs) (s : But c H H') (hc : IsLst H c) : PrsV K H' vs qs := Paired.imp (fun _ _ ⟨t, e, q⟩ => ⟨t, e, s.sqT hc q⟩) h
theorem dp_prs : ∀ {vs : List V} {qs : List (Int × Int)}, PrsV K H vs qs → DpAll K H vs (qs.map piD)
  | _, _, .nil => .nil
  | _, _, .cons ⟨t, e, q⟩ r => by
    subst e
    exact .cons (.tup q (.cons (.int _) (.cons (.int _) .nil))) (dp_prs r)
theorem dp_row : ∀ {vs : List V} {row : List Pc}, RowV K H vs row → DpAll K H vs (row.map pcD)
  | _, _, .nil => .nil
  | _, _, .cons ⟨t, e, q⟩ r => by
    subst e
    exact .cons (.tup q (.cons (.str _) (.cons (.int _) .nil))) (dp_row r)
end
theorem piD_eqv (z w : Int × Int) : PyData.eqv (piD z) (piD w) = decide (z = w) := by
  obtain ⟨a, b⟩ := z
  obtain ⟨c, d⟩ := w
  have e : PyData.eqv (piD (a, b)) (piD (c, d)) = ((a == c) && ((b == d) && true)) := by simp only [piD, PyData.eqv, PyData.eqvAll]
  rw [e]
  by_cases h1 : a = c
  · by_cases h2 : b = d
    · subst h1 h2
      simp
    · rw [decide_eq_false fun z => h2 (Prod.ext_iff.mp z).2, beq_eq_false_iff_ne.mpr h2, Bool.false_and, Bool.and_false]
  · rw [decide_eq_false fun z => h1 (Prod.ext_iff.mp z).1, beq_eq_false_iff_ne.mpr h1, Bool.false_and]
theorem piDs_eqv : ∀ zs ws : List (Int × Int), PyData.eqvAll (zs.map piD) (ws.map piD) = decide (zs = ws)
  | [], [] => by simp [PyData.eqvAll]
  | [], w :: ws => by simp [PyData.eqvAll]
  | z :: zs, [] => by simp [PyData.eqvAll]
  | z :: zs, w :: ws => by
    rw [List.map_cons, List.map_cons]
    unfold PyData.eqvAll
    rw [piD_eqv, piDs_eqv zs ws]
    by_cases h1 : z = w
    · by_cases h2 : zs = ws
      · subst h1 h2
        simp
      · rw [decide_eq_false h2, Bool.and_false, decide_eq_false fun q => h2 (List.cons.inj q).2]
    · rw [decide_eq_false h1, Bool.false_and, decide_eq_false fun q => h1 (List.cons.inj q).1]
theorem piT_eqv (zs ws : List (Int × Int)) : PyData.eqv (.tuple (zs.map piD)) (.tuple (ws.map piD)) = decide (zs = ws) := by
  rw [← piDs_eqv]
  simp only [PyData.eqv]
theorem piL_eqv (zs ws : List (Int × Int)) : PyData.eqv (.list (zs.map piD)) (.list (ws.map piD)) = decide (zs = ws) := by
  rw [← piDs_eqv]
  simp only [PyData.eqv]
theorem piDs_lay : ∀ zs : List (Int × Int), PyData.canLayAll0 (zs.map piD) = true
  | [] => by simp [PyData.canLayAll0]
  | z :: zs => by simp [piD, PyData.canLayAll0, PyData.canLay0, piDs_lay zs]
theorem piDs_depth : ∀ zs : List (Int × Int), PyData.depthAll (zs.map piD) ≤ 1
  | [] => by simp [PyData.depthAll]
  | z :: zs => by
    have h1 := piDs_depth zs
    have h2 : (piD z).depth = 1 := by simp [piD, PyData.depth, PyData.depthAll]
    simp only [List.map_cons, PyData.depthAll]
    omega
theorem wd_ok (b : Bool) : PyData.strOk (wd b) = true := by
  cases b with
  | true => decide +kernel
  | false => decide +kernel
theorem pcDs_lay : ∀ zs : List Pc, PyData.canLayAll0 (zs.map pcD) = true
  | [] => by simp [PyData.canLayAll0]
  | z :: zs => by simp [pcD, PyData.canLayAll0, PyData.canLay0, pcDs_lay zs, wd_ok]
theorem pcDs_depth : ∀ zs : List Pc, PyData.depthAll (zs.map pcD) ≤ 1
  | [] => by simp [PyData.depthAll]
  | z :: zs => by
    have h1 := pcDs_depth zs
    have h2 : (pcD z).depth = 1 := by simp [pcD, PyData.depth, PyData.depthAll]
    simp only [List.map_cons, PyData.depthAll]
    omega
theorem shp {d : PyData} (h1 : d.canLay0 = true) (h2 : d.depth ≤ 64) : SeqAt.shaped d = true := by
  show (d.canLay0 && decide (d.depth ≤ 64)) = true
  rw [h1, decide_eq_true h2]
  rfl
theorem piT_shaped (zs : List (Int × Int)) : SeqAt.shaped (.tuple (zs.map piD)) = true := by
  have h := piDs_depth zs
  refine shp (by simp only [PyData.canLay0]; exact piDs_lay zs) ?_
  simp only [PyData.depth]
  omega
theorem piL_shaped (zs : List (Int × Int)) : SeqAt.shaped (.list (zs.map piD)) = true := by
  have h := piDs_depth zs
  refine shp (by simp only [PyData.canLay0]; exact piDs_lay zs) ?_
  simp only [PyData.depth]
  omega
theorem pcL_shaped (zs : List Pc) : SeqAt.shaped (.list (zs.map pcD)) = true := by
  have h := pcDs_depth zs
  refine shp (by simp only [PyData.canLay0]; exact pcDs_lay zs) ?_
  simp only [PyData.depth]
  omega
theorem pc_none : ∀ zs : List Pc, ((zs.map pcD).any fun z => PyData.eqv z .none) = false
  | [] => rfl
  | z :: zs => by
    rw [List.map_cons, List.any_cons, pc_none zs]
    simp [pcD, PyData.eqv]

/-! ### Pattern(..) -/
def spStar (K : PySem.W.Frag) (cR cP : Addr) : Sp := fun vs H Q E => ∃ ws rest, vs = ws ++ rest ∧ ws.length = (["self"] : List Str).length ∧ rest.length ≤ sizeLine ∧ ∀ p, H p = none → spPatInit K cR cP (ws ++ [V.ref p]) (upd H p (.tup rest)) Q E
theorem make_pat2 {K : PySem.W.Frag} {cR cP : Addr} {H1 : Hp} {rest : List V} {row : List Pc} {Z : VK} {E : XK} (src : Src K cR H1 rest row) (okr : OkR row) (l : row.length ≤ 8) (lr : rest.length ≤ sizeLine)
    (x dx : Addr) (hx : H1 x = none) (hdx : H1 dx = none) (hne : dx ≠ x) (q : ∀ H', Same H1 H' → PatAt K cP H' x row → Z .non H') :
    spStar K cR cP (.ref x :: rest) (upd (upd H1 dx (.own x)) x (.ins cP dx [])) Z E := by
  refine ⟨[.ref x], rest, rfl, rfl, lr, fun p hp => ?_⟩
  have np : x ≠ p := fun z => by
    subst z
    rw [upd_same] at hp
    cases hp
  have s1 : Same H1 (upd (upd (upd H1 dx (.own x)) x (.ins cP dx [])) p (.tup rest)) := fun b o hb => by
    have n3 : b ≠ p := fun z => by
      subst z
      rw [upd_ne (ne_of_none hb hx), upd_ne (ne_of_none hb hdx), hb] at hp
      cases hp
    rw [upd_ne n3, upd_ne (ne_of_none hb hx), upd_ne (ne_of_none hb hdx)]
    exact hb
  refine ⟨x, p, dx, rest, row, rfl, ?_, upd_same, src.same s1, okr, l, fun H' bt pa => q H' ?_ pa⟩
  · rw [upd_ne np, upd_same]
  · exact fun b o hb => bt b o (ne_of_none hb hx) (s1 b o hb)
theorem make_pat {K : PySem.W.Frag} {cR cP : Addr} {H1 : Hp} {rest : List V} {row : List Pc} {Q : VK} {E : XK} (src : Src K cR H1 rest row) (okr : OkR row) (l : row.length ≤ 8) (lr : rest.length ≤ sizeLine)
    (q : ∀ H' p, Same H1 H' → PatAt K cP H' p row → Q (.ref p) H') (x dx : Addr) (hx : H1 x = none) (hdx : H1 dx = none) (hne : dx ≠ x) :
    spStar K cR cP (.ref x :: rest) (upd (upd H1 dx (.own x)) x (.ins cP dx [])) (fun v H2 => v = .non ∧ Q (.ref x) H2) E :=
  make_pat2 src okr l lr x dx hx hdx hne fun H' s pa => ⟨rfl, q H' x s pa⟩
def OkPat (P : Program) (w : World) (K : PySem.W.Frag) (mg : Str → Option Value) (base : Heap) (T : Txt K mg) : Prop := ∃ f, Mk K T.cP f ∧ L2.FnR P w K mg base CX0 5 f (spStar K T.cR T.cP)
section
variable {P : Program} {w : World} {K : PySem.W.Frag} {mg : Str → Option Value} {base : Heap}
theorem ok_Pat (T : Txt K mg) (D : ∃ f fd, Fun K "__init__" "Pattern.__init__" s_Pat_init f fd ∧ Mk K T.cP f) (o_check_pieces : Ok P w K mg base 4 "check_pieces" ["pieces"] (spCheckPieces K)) (o_chain_of : Ok P w K mg base 2 "chain_of" ["pieces"] (spChainOf K)) : OkPat P w K mg base T := by
  obtain ⟨f, fd, F, M⟩ := D
  obtain ⟨oc, od, kV, doc, pm, an, cdv, ct, osl, rfl, lk, hcd⟩ := F.ex
  refine ⟨f, M, StX.fn_star (ps := ["self"]) (pv := "pieces") lk hcd sc_Pat_init StX.cxUp_none (StX.bind_star1 (B := fun us => bindArgs (PySem.W.fnOf "__init__" "Pattern.__init__" (defArgs s_Pat_init) (defBody s_Pat_init) (defScope s_Pat_init) .none kV doc pm an cdv ct) ⟨us, []⟩) (p1 := "self") (pv := "pieces") (fun a => rfl) (fun a r rs => rfl)) fun A outer s H vs Q E hr h => ?_⟩
  obtain ⟨t, ht, hq⟩ := body_init T o_check_pieces o_chain_of hr h
  exact ⟨t, ht.nox, hq⟩

/-! ### texts of rows -/
def spPatternIn (K : PySem.W.Frag) (cP : Addr) : Sp := fun vs H Q _ => ∃ row : List Pc, vs = [.str (rtext row)] ∧ OkR row ∧ 1 ≤ row.length ∧ row.length ≤ 8 ∧ ∀ H' p, Same H H' → PatAt K cP H' p row → Q (.ref p) H'
abbrev s_pattern_in : Stmt := top 38
theorem sc_pattern_in : FnScope ["text", "pieces", "part"] ["text"] (defScope s_pattern_in) := ⟨rfl, rfl, rfl, by decide +kernel, rfl, by decide +kernel, by decide +kernel⟩
theorem ok_pattern_in (T : Txt K mg) (D : Df K mg "pattern_in" s_pattern_in ["text"]) (o_piece_in : Ok P w K mg base 3 "piece_in" ["text"] (spPieceIn K)) (oR : OkRow P w K mg base T) (oP : OkPat P w K mg base T) : Ok P w K mg base 7 "pattern_in" ["text"] (spPatternIn K T.cP) := by
  refine D.ok sc_pattern_in (fun vs H Q E h => ?_) (fun f cdv A outer s H vs Q E hr h => ?_)
  · obtain ⟨row, rfl, _⟩ := h
    rfl
  · obtain ⟨row, rfl, okr, l1, l2, q⟩ := h
    obtain ⟨fR, fdR, MR, FR, bR⟩ := oR
    obtain ⟨fP, MP, FP⟩ := oP
    have hu : A.units + 3 + 65 < cLine := by
      have := hr.un
      have e : (A.deeper (envOfC "pattern_in" (defScope s_pattern_in) s.heap.objs.size f cdv)).units = A.units + 3 := rfl
      omega
    refine ⟨_, (pss_cons (ps_setLc (i := 1) (own := [("part", 2)]) rfl sc_pattern_in.nd rfl rfl (sw_true rfl rfl rfl (by decide +kernel)) (pi_list (pe_split (pv 0) pe_str)) (blkOk_by (N := ["text", "pieces", "part"]) (sc := defScope s_pattern_in) (by decide +kernel)) (fun _ _ _ _ _ => (pg_name (i := 2) sc_pattern_in.nd rfl (Or.inl rfl))) (fun _ _ _ _ _ => pts_nil) (fun _ _ _ _ _ => (pe_cl o_piece_in (hr.mono (by decide)) (pa_cons (pv 2) pa_nil))))
      (pss_cons (ps_if (PW.pt (pw_or (pt_cmpR (op_inD hu) pe_non (pv 1) rfl) (pw_or1 (pt_cmpR op_gt (pe_callB call_len_seq (by rfl) T.len b_len (pa_cons (pv 1) pa_nil)) (pe_gint T.most_joined) (nomark _))))) (pss_one (ps_ret pe_non)) pss_nil)
      (pss_one (ps_ret (StX.pe_makeR MP FP (hr.mono (by decide)) rfl T.gP pass0 (pa_cons (pe_make MR FR (hr.mono (by decide)) rfl T.gR bR .nil pass0 (pa_cons (pe_callTy call_tuple_of (by rfl) T.tuple b_tuple (pa_cons (pv 1) pa_nil)) pa_nil)) pa_nil)))))), ?_⟩
    have ne : row ≠ [] := fun z => by
      rw [z] at l1
      cases l1
    refine ⟨_, rfl, ⟨_, rfl⟩, _, _, rfl, rfl, rfl, Nat.le_trans (Nat.add_le_add_right (r_len okr l2) 2) (by decide), fun L hL => ?_⟩
    rw [r_split okr ne]
    refine ⟨L, rfl, ⟨_, .of upd_same⟩, fun D hD => ?_⟩
    refine lc_it (walk_list (xs := (row.map ptext).map V.str)) (fun i H' => Same (upd H L (.lst ((row.map ptext).map V.str))) H' ∧ ∃ vs, H' D = some (.lst vs) ∧ RowV K H' vs (row.take i)) ⟨same_up hD, [], upd_same, .nil⟩ (fun i H' _ hp => (Same.sqL hp.1 (.of upd_same))) (fun i x H1 H2 hi hp hy => ?_) (fun H' hp => ?_)
    · obtain ⟨rfl, hx⟩ := hy
      obtain ⟨sm, vs, hD', hrow⟩ := hp
      rw [List.map_map, List.getElem?_map] at hx
      cases hg : row[i]? with
      | none =>
        rw [hg] at hx
        cases hx
      | some p =>
        rw [hg] at hx
        have ex := Option.some.inj hx
        subst ex
        have okp : OkP p := okr p (List.mem_of_getElem? hg)
        have hlt : i < row.length := (List.getElem?_eq_some_iff.mp hg).1
        have hlen : vs.length = i := by
          rw [Paired.len hrow, List.length_take]
          omega
        refine ⟨rfl, yesT ⟨_, rfl, p, rfl, okp, fun H3 v s3 hv => ?_⟩⟩
        have e3 := s3 _ _ hD'
        refine ⟨vs, e3, ?_, ?_, vs ++ [v], upd_same, ?_⟩
        · rw [hlen]
          exact Nat.lt_of_lt_of_le hlt (Nat.le_trans l2 (by decide))
        · intro b o hb
          rw [upd_ne (ne_of_none hb hD)]
          exact s3 _ _ (sm b o hb)
        · rw [take_next hg]
          exact Paired.app ((hrow.same s3).but but_upd ⟨_, e3⟩) (.cons (let ⟨t, e, z⟩ := hv; ⟨t, e, But.sqT but_upd ⟨_, e3⟩ z⟩) .nil)
    · obtain ⟨sm, vs, hD', hrow⟩ := hp
      have e : row.take ((row.map ptext).map V.str).length = row := by rw [List.length_map, List.length_map, List.take_length]
      rw [e] at hrow
      have hlen := Paired.len hrow
      have sm0 : Same H H' := (same_up hL).trans sm
      refine ⟨_, rfl, .none, row.map pcD, .non, .lst (.of hD') (dp_row hrow), rfl, pcL_shaped row, false, congrArg V.bl (pc_none row), iteF ?_⟩
      refine ⟨_, rfl, D, vs, rfl, .inl (.of hD'), _, _, rfl, rfl, false, congrArg V.bl (decide_eq_false (by omega)), iteF ?_⟩
      refine ⟨_, rfl, D, vs, rfl, .inl ⟨.of hD', fun l hl => ?_⟩⟩
      intro y dy hy hdy nyd
      refine ⟨y, dy, .ref l, rfl, upd_same, rfl, ?_⟩
      intro x dx hx hdx hne
      have s2 : Same H' (upd (upd (upd (upd H' l (.tup vs)) dy (.own y)) y (.ins T.cR dy [])) y (.ins T.cR dy (putF "told" (.ref l) []))) := fun b o hb => by
        have n0 := ne_of_none hb hl
        have hb1 : (upd H' l (.tup vs)) b = some o := by
          rw [upd_ne n0]
          exact hb
        rw [upd_ne (ne_of_none hb1 hy), upd_ne (ne_of_none hb1 hy), upd_ne (ne_of_none hb1 hdy)]
        exact hb1
      have hl1 : (upd (upd (upd (upd H' l (.tup vs)) dy (.own y)) y (.ins T.cR dy [])) y (.ins T.cR dy (putF "told" (.ref l) []))) l = some (.tup vs) := by
        have hb1 : (upd H' l (.tup vs)) l = some (.tup vs) := upd_same
        rw [upd_ne (ne_of_none hb1 hy), upd_ne (ne_of_none hb1 hy), upd_ne (ne_of_none hb1 hdy)]
        exact hb1
      refine make_pat (row := row) (.inl ⟨y, dy, l, putF "told" (.ref l) [], rfl, upd_same, ?_, vs, .of hl1, hrow.same s2⟩) okr l2 (by show 1 ≤ sizeLine; decide) (fun H3 p s3 pa => q H3 p ((sm0.trans s2).trans s3) pa) x dx hx hdx hne
      rw [lookup_putF, if_pos rfl]
end
end K13

namespace K13
open PySem PySem.Spec PyProof.Rows L2

/-! ### lowest terms of a load, bounds of what a chain shows -/
theorem low_mul {v : Int × Int} (h : Pr v) : v.1 = (Int.gcd v.1 v.2 : Int) * (low v).1 ∧ v.2 = (Int.gcd v.1 v.2 : Int) * (low v).2 :=
  ⟨(Int.mul_ediv_cancel' (Int.gcd_dvd_left (a := v.1) (b := v.2))).symm, (Int.mul_ediv_cancel' (Int.gcd_dvd_right (a := v.1) (b := v.2))).symm⟩
theorem low_le {v : Int × Int} (h : Pr v) : 0 ≤ (low v).1 ∧ (low v).1 ≤ v.1 ∧ 0 ≤ (low v).2 ∧ (low v).2 ≤ v.2 := by
  have g0 := gcd_pos h
  have a0 : 0 ≤ (low v).1 := Int.ediv_nonneg h.1 (Int.le_of_lt g0)
  have b0 : 0 ≤ (low v).2 := Int.ediv_nonneg h.2.1 (Int.le_of_lt g0)
  exact ⟨a0, Int.ediv_le_self _ h.1, b0, Int.ediv_le_self _ h.2.1⟩
theorem low_pr {v : Int × Int} (h : Pr v) : Pr (low v) := by
  obtain ⟨a0, _, b0, _⟩ := low_le h
  obtain ⟨e1, e2⟩ := low_mul h
  refine ⟨a0, b0, ?_⟩
  rcases h.2.2 with q | q
  · left
    rcases Int.lt_or_eq_of_le a0 with z | z
    · exact z
    · rw [← z, Int.mul_zero] at e1
      omega
  · right
    rcases Int.lt_or_eq_of_le b0 with z | z
    · exact z
    · rw [← z, Int.mul_zero] at e2
      omega
theorem led_low {row : List Pc} (h : OkR row) (l : row.length ≤ 8) {v : Int × Int} (hv : Pr v) : low (ledC (chain row).1 (low v)) = shownC row v := by
  obtain ⟨g, b⟩ := chain_ok h l
  obtain ⟨e1, e2⟩ := low_mul hv
  have z := low_scale (w := ledC (chain row).1 v) (k := (Int.gcd v.1 v.2 : Int)) (led_pr g (low_pr hv)) (gcd_pos hv)
    (by unfold ledC; dsimp only; rw [Int.mul_add, Int.mul_left_comm _ (chain row).1.a, Int.mul_left_comm _ (chain row).1.b, ← e1, ← e2])
    (by unfold ledC; dsimp only; rw [Int.mul_add, Int.mul_left_comm _ (chain row).1.c, Int.mul_left_comm _ (chain row).1.d, ← e1, ← e2])
  exact z.symm
theorem led_prB {row : List Pc} (h : OkR row) (l : row.length ≤ 8) {v : Int × Int} (hv : Load v) : PrB (ledC (chain row).1 (low v)) := by
  obtain ⟨g, b⟩ := chain_ok h l
  obtain ⟨a0, a1, b0, b1⟩ := low_le hv.pr
  obtain ⟨x, y⟩ := led_bd (v := low v) g b a0 b0 (Int.le_trans a1 hv.l1) (Int.le_trans b1 hv.l2)
  exact ⟨led_pr g (low_pr hv.pr), by omega, by omega⟩
theorem load_prB {v : Int × Int} (h : Load v) : PrB v := ⟨h.pr, by have := h.l1; omega, by have := h.l2; omega⟩
theorem ch_get {m : Ch} {i : Nat} {x : V} (h : (chV m)[i]? = some x) : ∃ n : Int, x = .int n ∧ [m.a, m.b, m.c, m.d][i]? = some n := by
  match i, h with
  | 0, h => exact ⟨_, (Option.some.inj h).symm, rfl⟩
  | 1, h => exact ⟨_, (Option.some.inj h).symm, rfl⟩
  | 2, h => exact ⟨_, (Option.some.inj h).symm, rfl⟩
  | 3, h => exact ⟨_, (Option.some.inj h).symm, rfl⟩
  | i + 4, h => cases h
theorem nums_map (row : List Pc) : nums row = [(chain row).1.a, (chain row).1.b, (chain row).1.c, (chain row).1.d].map fun n => low (n, (chain row).2) := rfl
theorem sm_get {m : Ch} {i : Nat} {n : Int} (h : SmC m) (e : [m.a, m.b, m.c, m.d][i]? = some n) : Sm n := by
  obtain ⟨h1, h2, h3, h4⟩ := h
  have hm := List.mem_of_getElem? e
  simp only [List.mem_cons, List.not_mem_nil, or_false] at hm
  rcases hm with z | z | z | z <;> (rw [z]; assumption)

theorem pe_fldK {X : Cx} {K : PySem.W.Frag} {e : Expr} {f : Str} {pos : Pos} {ta : TE} (hK : X.K = K) (he : PE X e ta) (hb : attributeBase e f X.env (eval e X.env) = eval e X.env) : PE X (.Attribute e f pos) (tFld K ta f) := by
  subst hK
  exact pe_fld he hb

/-! ### Pattern's methods -/
def spRead (K : PySem.W.Frag) (cP : Addr) : Sp := spPatternIn K cP
def spNumbers (K : PySem.W.Frag) (cP : Addr) : Sp := fun vs H Q _ => ∃ (a : Addr) (row : List Pc), vs = [.ref a] ∧ PatAt K cP H a row ∧ OkR row ∧ row.length ≤ 8 ∧
  ∀ H' p us, Same H H' → SqT K H' p us → PrsV K H' us (nums row) → Q (.ref p) H'
def spCall (K : PySem.W.Frag) (cP : Addr) : Sp := fun vs H Q _ => ∃ (a b : Addr) (row : List Pc) (v : Int × Int), vs = [.ref a, .ref b] ∧ PatAt K cP H a row ∧ SqT K H b (pairV v) ∧ Load v ∧ OkR row ∧ row.length ≤ 8 ∧
  ∀ H' p, Same H H' → H' p = some (.tup (pairV (shownC row v))) → Q (.ref p) H'
def spEq (K : PySem.W.Frag) (cP : Addr) : Sp := fun vs H Q _ => ∃ (a b : Addr) (one two : List Pc), vs = [.ref a, .ref b] ∧ PatAt K cP H a one ∧ PatAt K cP H b two ∧ OkR one ∧ OkR two ∧ one.length ≤ 8 ∧ two.length ≤ 8 ∧
  ∀ H', Same H H' → Q (.bl (decide (nums one = nums two))) H'
abbrev s_Pattern_read : Stmt := inClass (top 40) 1
abbrev s_Pattern_numbers : Stmt := inClass (top 40) 3
abbrev s_Pattern_call : Stmt := inClass (top 40) 4
abbrev s_Pattern_eq : Stmt := inClass (top 40) 7
theorem sc_Pattern_read : FnScope ["text", "found"] ["text"] (defScope s_Pattern_read) := ⟨rfl, rfl, rfl, by decide +kernel, rfl, by decide +kernel, by decide +kernel⟩
theorem sc_Pattern_numbers : FnScope ["self", "number"] ["self"] (defScope s_Pattern_numbers) := ⟨rfl, rfl, rfl, by decide +kernel, rfl, by decide +kernel, by decide +kernel⟩
theorem sc_Pattern_call : FnScope ["self", "load"] ["self", "load"] (defScope s_Pattern_call) := ⟨rfl, rfl, rfl, by decide +kernel, rfl, by decide +kernel, by decide +kernel⟩
theorem sc_Pattern_eq : FnScope ["self", "other"] ["self", "other"] (defScope s_Pattern_eq) := ⟨rfl, rfl, rfl, by decide +kernel, rfl, by decide +kernel, by decide +kernel⟩
theorem fs_chain {r t : Addr} {s : Int} : (fsP r t s).lookup ("chain" : Str) = some (.ref t) := by
  unfold fsP
  rw [lookup_putF, if_neg (by decide +kernel), lookup_putF, if_pos rfl]
theorem fs_scale {r t : Addr} {s : Int} : (fsP r t s).lookup ("scale" : Str) = some (.int s) := by
  unfold fsP
  rw [lookup_putF, if_pos rfl]
def OkRead (P : Program) (w : World) (K : PySem.W.Frag) (mg : Str → Option Value) (base : Heap) (T : Txt K mg) : Prop := ∃ p g fd, SMet K T.cP T.mc "read" p g ∧ FnOk P w K mg base CX0 8 g fd ["text"] (spRead K T.cP) ∧ Binds K fd ["text"] []
def OkNums (P : Program) (w : World) (K : PySem.W.Frag) (mg : Str → Option Value) (base : Heap) (T : Txt K mg) : Prop := ∃ p g fd, PropOf K T.cP "numbers" p g ∧ FnOk P w K mg base CX0 3 g fd ["self"] (spNumbers K T.cP) ∧ Binds K fd ["self"] []
def OkCall (P : Program) (w : World) (K : PySem.W.Frag) (mg : Str → Option Value) (base : Heap) (T : Txt K mg) : Prop := ∃ g, StX.CallO K T.cP g ∧ L2.FnR P w K mg base CX0 6 g (spCall K T.cP)
def OkEq (P : Program) (w : World) (K : PySem.W.Frag) (mg : Str → Option Value) (base : Heap) (T : Txt K mg) : Prop := ∃ g fd, OwnEq K T.cP g ∧ FnOk P w K mg base CX0 5 g fd ["self", "other"] (spEq K T.cP) ∧ Binds K fd ["self", "other"] []
section
variable {P : Program} {w : World} {K : PySem.W.Frag} {mg : Str → Option Value} {base : Heap}
theorem ok_Read (T : Txt K mg) (D : ∃ p g fd, Fun K "read" "Pattern.read" s_Pattern_read g fd ∧ SMet K T.cP T.mc "read" p g ∧ Binds K fd ["text"] []) (o_pattern_in : Ok P w K mg base 7 "pattern_in" ["text"] (spPatternIn K T.cP)) : OkRead P w K mg base T := by
  obtain ⟨p, g, fd, F, M, b⟩ := D
  refine ⟨p, g, fd, M, F.ok sc_Pattern_read (fun vs H Q E h => ?_) (fun cdv A outer s H vs Q E hr h => ?_), b⟩
  · obtain ⟨row, rfl, _⟩ := h
    rfl
  · obtain ⟨row, rfl, okr, l1, l2, q⟩ := h
    refine ⟨_, (pss_cons (ps_set (i := 1) sc_Pattern_read.nd rfl (Or.inl rfl) (pe_ifExp (pt_val (pe_callB call_isi (by rfl) T.isinstance b_isinstance (pa_cons (pv 0) (pa_cons (pe_bty T.str b_str) pa_nil)))) (pe_cl o_pattern_in (hr.mono (by decide)) (pa_cons (pv 0) pa_nil)) pe_non))
      (pss_cons (ps_if (pt_cmpR op_isN (pv 1) pe_non (nomark _)) (pss_one ps_never) pss_nil)
      (pss_one (ps_ret (pv 1))))), ?_⟩
    refine ⟨_, rfl, _, _, _, _, _, rfl, .ty _, .base (.str _), kit_ss, true, rfl, iteT ?_⟩
    refine ⟨_, rfl, row, rfl, okr, l1, l2, fun H' p s1 pa => ?_⟩
    refine ⟨_, rfl, rfl, false, rfl, iteF ?_⟩
    exact ⟨_, rfl, q H' p s1 pa⟩
theorem ok_Nums (T : Txt K mg) (D : ∃ p g fd, Fun K "numbers" "Pattern.numbers" s_Pattern_numbers g fd ∧ PropOf K T.cP "numbers" p g ∧ Binds K fd ["self"] []) (o_lowest : Ok P w K mg base 2 "lowest" ["top", "bottom"] spLowest) : OkNums P w K mg base T := by
  obtain ⟨p, g, fd, F, M, b⟩ := D
  refine ⟨p, g, fd, M, F.ok sc_Pattern_numbers (fun vs H Q E h => ?_) (fun cdv A outer s H vs Q E hr h => ?_), b⟩
  · obtain ⟨a, row, rfl, _⟩ := h
    rfl
  · obtain ⟨a, row, rfl, ⟨dx, r, t, ha, ht⟩, okr, l, q⟩ := h
    obtain ⟨c1, c2⟩ := chain_sm okr l
    have hs : 1 ≤ (chain row).2 := (chain_ok okr l).1.s
    refine ⟨_, (pss_one (ps_ret (pe_callTy call_tuple_of (by rfl) T.tuple b_tuple (pa_cons (pe_lc (own := [("number", 1)]) rfl sc_Pattern_numbers.nd (pi_tup (pe_fld (pv 0) rfl)) (blkOk_by (N := ["self", "number"]) (sc := defScope s_Pattern_numbers) (by decide +kernel)) (fun _ _ _ _ _ => (pg_name (i := 1) sc_Pattern_numbers.nd rfl (Or.inl rfl))) (fun _ _ _ _ _ => pts_nil)
      (fun _ _ _ _ _ => (pe_cl o_lowest (hr.mono (by decide)) (pa_cons (pv 1) (pa_cons (pe_fldK (K := K) rfl (pv 0) rfl) pa_nil))))) pa_nil)))), ?_⟩
    refine ⟨_, rfl, a, _, dx, _, _, rfl, ha, T.lP, T.nP2, fs_chain, t, rfl, ⟨_, ht⟩, fun D hD => ?_⟩
    refine lc_it (walk_tup (xs := chV (chain row).1)) (fun i H' => Same H H' ∧ ∃ vs, H' D = some (.lst vs) ∧ PrsV K H' vs ((nums row).take i)) ⟨same_up hD, [], upd_same, .nil⟩ (fun i H' _ hp => Same.sqT hp.1 ht) (fun i x H1 H2 hi hp hy => ?_) (fun H' hp => ?_)
    · obtain ⟨rfl, hx⟩ := hy
      obtain ⟨sm, vs, hD', hrow⟩ := hp
      obtain ⟨n, rfl, hn⟩ := ch_get hx
      have sn := sm_get c1 hn
      have hlen : vs.length ≤ 4 := by
        rw [Paired.len hrow, List.length_take]
        have : (nums row).length = 4 := rfl
        omega
      refine ⟨rfl, yesT ⟨_, rfl, _, rfl, a, _, dx, _, _, rfl, sm _ _ ha, T.lP, T.nP3, fs_scale, (n, (chain row).2), rfl, ⟨pr_n sn.1 hs, ?_, ?_⟩, fun u hu => ?_⟩⟩
      · have := sn.2
        dsimp only
        omega
      · have := c2.2
        dsimp only
        omega
      · have e3 := (same_up (o := .tup (pairV (low (n, (chain row).2)))) hu) _ _ hD'
        refine ⟨vs, e3, Nat.lt_of_le_of_lt hlen (by decide), ?_, vs ++ [.ref u], upd_same, ?_⟩
        · intro b o hb
          rw [upd_ne (ne_of_none hb hD)]
          exact same_up hu _ _ (sm b o hb)
        · have et : (nums row).take (i + 1) = (nums row).take i ++ [low (n, (chain row).2)] := by
            rw [List.take_add_one, nums_map, List.getElem?_map, hn]
            rfl
          rw [et]
          exact Paired.app (PrsV.but (PrsV.same hrow (same_up hu)) but_upd ⟨_, e3⟩) (.cons ⟨u, rfl, But.sqT but_upd ⟨_, e3⟩ (.of upd_same)⟩ .nil)
    · obtain ⟨sm, vs, hD', hrow⟩ := hp
      have e : (nums row).take (chV (chain row).1).length = nums row := rfl
      rw [e] at hrow
      refine ⟨D, vs, rfl, .inl ⟨.of hD', fun u hu => ?_⟩⟩
      exact q _ u vs (Same.up sm hu) (.of upd_same) (PrsV.same hrow (same_up hu))
theorem ok_Call (T : Txt K mg) (D : ∃ g fd, Fun K "__call__" "Pattern.__call__" s_Pattern_call g fd ∧ StX.CallO K T.cP g ∧ Binds K fd ["self", "load"] []) (o_check_resistance : Ok P w K mg base 5 "check_resistance" ["value"] (spLoad K .non))
    (o_shown : Ok P w K mg base 3 "shown" ["chain", "pair"] (spShown K)) (o_pair_of : Ok P w K mg base 3 "pair_of" ["number"] (spPairOf K)) : OkCall P w K mg base T := by
  obtain ⟨g, fd, F, M, b⟩ := D
  have F2 : FnOk P w K mg base CX0 6 g fd ["self", "load"] (spCall K T.cP) := by
    refine F.ok sc_Pattern_call (fun vs H Q E h => ?_) (fun cdv A outer s H vs Q E hr h => ?_)
    · obtain ⟨a, b, row, v, rfl, _⟩ := h
      rfl
    · obtain ⟨a, b, row, v, rfl, ⟨dx, r, t, ha, ht⟩, hv, lv, okr, l, q⟩ := h
      obtain ⟨c1, c2⟩ := chain_sm okr l
      refine ⟨_, (pss_cons (ps_expr (pe_cl o_check_resistance (hr.mono (by decide)) (pa_cons (pv 1) pa_nil)))
        (pss_one (ps_ret (pe_cl o_shown (hr.mono (by decide)) (pa_cons (pe_fld (pv 0) rfl) (pa_cons (pe_cl o_pair_of (hr.mono (by decide)) (pa_cons (pv 1) pa_nil)) pa_nil)))))), ?_⟩
      refine ⟨_, rfl, b, v, rfl, hv, lv, ?_⟩
      refine ⟨_, rfl, a, _, dx, _, _, rfl, ha, T.lP, T.nP2, fs_chain, _, rfl, b, v, rfl, hv, load_prB lv, fun u hu => ?_⟩
      refine ⟨t, u, (chain row).1, low v, rfl, (same_up hu).sqT ht, .of upd_same, c1, led_prB okr l lv, fun H' p s1 hp => ?_⟩
      rw [led_low okr l lv.pr] at hp
      exact q H' p ((same_up hu).trans s1) hp
  exact ⟨g, M, (F2.raw b .nil).imp fun vs H Q E h => by rw [List.append_nil]; exact h⟩
theorem ok_Eq (T : Txt K mg) (D : ∃ g fd, Fun K "__eq__" "Pattern.__eq__" s_Pattern_eq g fd ∧ OwnEq K T.cP g ∧ Binds K fd ["self", "other"] []) (oN : OkNums P w K mg base T) : OkEq P w K mg base T := by
  obtain ⟨g, fd, F, M, b⟩ := D
  obtain ⟨pN, gN, fdN, MN, FN, bN⟩ := oN
  refine ⟨g, fd, M, F.ok sc_Pattern_eq (fun vs H Q E h => ?_) (fun cdv A outer s H vs Q E hr h => ?_), b⟩
  · obtain ⟨a, b, one, two, rfl, _⟩ := h
    rfl
  · obtain ⟨a, b, one, two, rfl, pa, pb, ok1, ok2, l1, l2, q⟩ := h
    refine ⟨_, (pss_cons (ps_if (pt_not (pt_val (pe_callB call_isi (by rfl) T.isinstance b_isinstance (pa_cons (pv 1) (pa_cons (pe_gref T.gP) pa_nil))))) (pss_one ps_never) pss_nil)
      (pss_one (ps_ret (pe_cmpR (op_eqD hr.units) (pe_prop (pv 0) T.lP MN FN (hr.mono (by decide)) bN .nil pass0 rfl) (pe_prop (pv 1) T.lP MN FN (hr.mono (by decide)) bN .nil pass0 rfl) (nomark _))))), ?_⟩
    obtain ⟨dxb, rb, tb, hb, htb⟩ := id pb
    obtain ⟨dxa, ra, ta, ha, hta⟩ := id pa
    refine ⟨_, rfl, _, _, _, _, _, rfl, .own _, tyx_ins T hb, T.kPP, true, rfl, iteF ?_⟩
    refine ⟨_, rfl, a, dxa, _, rfl, ha, a, one, rfl, pa, ok1, l1, fun H1 p1 us1 s1 h1 n1 => ?_⟩
    refine ⟨_, rfl, b, dxb, _, rfl, s1 _ _ hb, b, two, rfl, pb.same s1, ok2, l2, fun H2 p2 us2 s2 h2 n2 => ?_⟩
    refine ⟨_, _, .tup (s2.sqT h1) (dp_prs (PrsV.same n1 s2)), .tup h2 (dp_prs n2), piT_shaped _, piT_shaped _, ?_⟩
    rw [piT_eqv]
    exact q H2 (s1.trans s2)
end
end K13

namespace K13
open PySem PySem.Spec PyProof.Rows L2

/-! ### the law's cup -/
def spCup (K : PySem.W.Frag) : Sp := fun vs H Q _ => ∃ (a : Addr) (ns : List Int) (k : Nat), vs = [.ref a, .int (k : Nat)] ∧ SqL K H a (ns.map V.int) ∧ ∀ H' p, Same H H' → H p = none → CupAt H' p → Q (.ref p) H'
def spSip : Sp := fun vs H Q _ => ∃ (c : Addr) (m : Int), vs = [.ref c, .int m] ∧ CupAt H c ∧ 1 ≤ m ∧ m < 1073741824 ∧ ∀ H' r, But c H H' → CupAt H' c → 0 ≤ r → r < m → Q (.int r) H'
def spPick : Sp := fun vs H Q _ => ∃ (c L : Addr) (xs : List V), vs = [.ref c, .ref L] ∧ CupAt H c ∧ L ≠ c ∧ H L = some (.lst xs) ∧ 1 ≤ xs.length ∧ xs.length < 1000 ∧ ∀ H' x, But c H H' → CupAt H' c → x ∈ xs → Q x H'
abbrev s_law_cup : Stmt := top 42
abbrev s_law_sip : Stmt := top 43
abbrev s_law_pick : Stmt := top 44
abbrev s_law_pair : Stmt := top 45
theorem sc_law_cup : FnScope ["_law_script", "_law_spot", "_law_cell", "_law_one"] ["_law_script", "_law_spot"] (defScope s_law_cup) := ⟨rfl, rfl, rfl, by decide +kernel, rfl, by decide +kernel, by decide +kernel⟩
theorem sc_law_sip : FnScope ["_law_cup_here", "_law_many", "_law_part"] ["_law_cup_here", "_law_many"] (defScope s_law_sip) := ⟨rfl, rfl, rfl, by decide +kernel, rfl, by decide +kernel, by decide +kernel⟩
theorem sc_law_pick : FnScope ["_law_cup_here", "_law_things"] ["_law_cup_here", "_law_things"] (defScope s_law_pick) := ⟨rfl, rfl, rfl, by decide +kernel, rfl, by decide +kernel, by decide +kernel⟩
theorem sc_law_pair : FnScope ["_law_top", "_law_bottom", "_law_one", "_law_two"] ["_law_top", "_law_bottom"] (defScope s_law_pair) := ⟨rfl, rfl, rfl, by decide +kernel, rfl, by decide +kernel, by decide +kernel⟩
theorem cm_r {i j : Int} (h0 : 0 ≤ j) (h : j ≤ 4294967296) : CMul i j := .inr ⟨by omega, by omega⟩
theorem cm_l {i j : Int} (h0 : 0 ≤ i) (h : i ≤ 4294967296) : CMul i j := .inl ⟨by omega, by omega⟩
theorem none_of {H H' : Hp} {p : Addr} (s : Same H H') (h : H' p = none) : H p = none := by
  cases e : H p with
  | none => rfl
  | some o => rw [s p o e] at h; cases h
theorem cut_ints (ns : List Int) (lo hi : Option Int) : ∃ ms : List Int, cutV (ns.map V.int) lo hi = ms.map V.int := by
  refine ⟨(ns.drop (HT.sIx (ns.map V.int).length 0 lo)).take (HT.sIx (ns.map V.int).length (ns.map V.int).length hi - HT.sIx (ns.map V.int).length 0 lo), ?_⟩
  unfold cutV
  rw [List.map_take, List.map_drop]
section
variable {P : Program} {w : World} {K : PySem.W.Frag} {mg : Str → Option Value} {base : Heap}
theorem ok_law_cup (T : Txt K mg) (D : Df K mg "_law_cup" s_law_cup ["_law_script", "_law_spot"]) : Ok P w K mg base 1 "_law_cup" ["_law_script", "_law_spot"] (spCup K) := by
  refine D.ok sc_law_cup (fun vs H Q E h => ?_) (fun f cdv A outer s H vs Q E hr h => ?_)
  · obtain ⟨a, ns, k, rfl, _⟩ := h
    rfl
  · obtain ⟨a, ns, k, rfl, hS, q⟩ := h
    refine ⟨_, (Evl.pss_cut (ps_set (i := 2) sc_law_cup.nd rfl (Or.inl rfl) (pe_ifExp (pt_cmpR op_lt (pv 1) (pe_callB call_len_seq (by rfl) T.len b_len (pa_cons (pv 0) pa_nil)) (nomark _)) (pe_ix ix_list (pv 0) (pv 1) (fun _ _ => rfl)) (pe_op op_add (pe_op op_mul pe_int (pv 1)) pe_int)))
      (Evl.pss_cut (ps_for PassesOwn.never rfl (pi_list (pe_ifExp (pt_cmpR op_ge (pv 1) (pe_callB call_len_seq (by rfl) T.len b_len (pa_cons (pv 0) pa_nil)) (nomark _)) (pe_slice sl_list (pv 0) po_none (po_some pe_int)) (pe_lst pa_nil))) (pg_name (i := 3) sc_law_cup.nd rfl (Or.inl rfl)) (pss_one (ps_set (i := 2) sc_law_cup.nd rfl (Or.inl rfl) (pe_op op_mod (pe_callTy call_int1 (by rfl) T.int b_int (pa_cons (pe_op op_add (pe_op op_mul (pv 2) pe_int) (pv 3)) pa_nil)) pe_int))))
      (pss_one (ps_ret (pe_lst (pa_cons (pe_op op_mod (pe_callTy call_int1 (by rfl) T.int b_int (pa_cons (pe_op op_add (pe_op op_add (pe_op op_mul (pv 2) pe_int) (pe_op op_mul pe_int (pv 1))) pe_int) pa_nil)) pe_int) (pa_cons (pe_ifExp (PW.pt (pw_or (pt_cmpR op_lt (pv 2) pe_int (nomark _)) (pw_or1 (pt_cmpR op_ge (pv 2) (pe_op op_pow pe_int pe_int) (nomark _))))) (pe_callB call_abs (by rfl) T.abs b_abs (pa_cons (pv 2) pa_nil)) pe_int) pa_nil))))))), ?_⟩
    have hl : ((ns.map V.int).length : Int) = ns.length := by rw [List.length_map]
    refine ⟨fun σ' H' => ∃ c0 : Int, σ' = [some (.ref a), some (.int (k : Nat)), some (.int c0), none] ∧ H' = H, ?_, ?_⟩
    · by_cases hk : k < ns.length
      · obtain ⟨n, hn⟩ : ∃ n, ns[k]? = some n := ⟨_, List.getElem?_eq_getElem hk⟩
        have g : atI (ns.map V.int) ((k : Nat) : Int) = some (.int n) := atI_nat (by rw [List.getElem?_map, hn]; rfl)
        refine ⟨_, rfl, _, rfl, a, _, rfl, .inl hS, _, _, rfl, rfl, true, congrArg V.bl (decide_eq_true (by omega)), iteT ?_⟩
        exact ⟨_, rfl, _, rfl, a, _, _, _, rfl, rfl, hS, g, n, rfl, rfl⟩
      · refine ⟨_, rfl, _, rfl, a, _, rfl, .inl hS, _, _, rfl, rfl, false, congrArg V.bl (decide_eq_false (by omega)), iteF ?_⟩
        exact ⟨_, rfl, _, _, rfl, rfl, cm_l (by decide) (by decide), _, _, rfl, rfl, _, rfl, rfl⟩
    · rintro σ' H' ⟨c0, rfl, rfl⟩
      refine ⟨fun σ2 H2 => ∃ (c : Int) (x : Option V), σ2 = [some (.ref a), some (.int (k : Nat)), some (.int c), x] ∧ Same H' H2, ?_, ?_⟩
      · have loop : ∀ (L : Addr) (ms : List Int) (H1 : Hp), Same H' H1 → H1 L = some (.lst (ms.map V.int)) → _ := fun L ms H1 s1 e1 =>
          for_it (walk_list (K := K) (a := L) (xs := ms.map V.int)) (g := gName 3) (tb := tAsg (tOp (rI (fun _ j => 0 < j) fun i j => .int (i % j)) (tCB (fun xs H Q => (∃ i, xs = [V.int i] ∧ Q (.int i) H) ∨ ∃ b, xs = [V.bl b] ∧ Q (.int (if b = true then 1 else 0)) H) (tCons (tOp (rI0 fun i j => .int (i + j)) (tOp (rI CMul fun i j => .int (i * j)) (tVar 2) (tC (.int 31))) (tVar 3)) tNil)) (tC (.int 1000000007))) (gName 2)) (σ := [some (.ref a), some (.int (k : Nat)), some (.int c0), none]) (H := H1)
            (D := { nx := fun σ2 H2 => ∃ (c : Int) (x : Option V), σ2 = [some (.ref a), some (.int (k : Nat)), some (.int c), x] ∧ Same H' H2, rt := Q })
            (fun i σ2 H2 => ∃ (c : Int) (x : Option V), σ2 = [some (.ref a), some (.int (k : Nat)), some (.int c), x] ∧ H2 = H1) ⟨c0, none, rfl, rfl⟩ (fun i σ2 H2 _ hp => by
              obtain ⟨c, x, _, rfl⟩ := hp
              exact .of e1) (fun i x σ2 H2 H3 hi hp hy => by
              obtain ⟨c, x', rfl, rfl⟩ := hp
              obtain ⟨rfl, hx⟩ := hy
              rw [List.getElem?_map] at hx
              obtain ⟨n, _, rfl⟩ := Option.map_eq_some_iff.mp hx
              exact ⟨_, rfl, _, _, rfl, rfl, cm_r (by decide) (by decide), _, rfl, _, _, rfl, rfl, .inl ⟨_, rfl, _, _, rfl, rfl, (by show (0 : Int) < 1000000007; decide), _, _, rfl, rfl⟩⟩) (fun σ2 H2 hp => by
              obtain ⟨c, x, rfl, rfl⟩ := hp
              exact ⟨c, x, rfl, s1⟩)
        by_cases hk : k < ns.length
        · refine ⟨_, rfl, _, rfl, a, _, rfl, .inl hS, _, _, rfl, rfl, false, congrArg V.bl (decide_eq_false (by omega)), iteF ?_⟩
          exact ⟨Nat.zero_le _, fun L hL => ⟨L, rfl, ⟨[], .of upd_same⟩, loop L [] _ (same_up hL) upd_same⟩⟩
        · refine ⟨_, rfl, _, rfl, a, _, rfl, .inl hS, _, _, rfl, rfl, true, congrArg V.bl (decide_eq_true (by omega)), iteT ?_⟩
          obtain ⟨ms, hms⟩ := cut_ints ns none (some 2)
          refine ⟨_, rfl, 2, rfl, a, _, rfl, hS, fun L hL => ⟨L, rfl, ⟨_, .of upd_same⟩, loop L ms _ (same_up hL) ?_⟩⟩
          rw [hms]
          exact upd_same
      · rintro σ2 H2 ⟨c, x, rfl, s2⟩
        have fin : ∀ z w2 : Int, 0 ≤ z → 0 ≤ w2 → ∀ p, H2 p = none → Q (.ref p) (upd H2 p (.lst [.int z, .int w2])) := fun z w2 z0 w0 p hp => q _ p (s2.up hp) (none_of s2 hp) ⟨z, w2, z0, w0, upd_same⟩
        have z0 : ∀ y : Int, 0 ≤ y % 2147483629 := fun y => Int.emod_nonneg y (by decide)
        refine ⟨_, rfl, _, _, rfl, rfl, cm_r (by decide) (by decide), _, rfl, _, _, rfl, rfl, cm_l (by decide) (by decide), _, _, rfl, rfl, _, _, rfl, rfl, .inl ⟨_, rfl, _, _, rfl, rfl, (by show (0 : Int) < 2147483629; decide), ?_⟩⟩
        by_cases h1 : c < 0
        · refine ⟨_, rfl, _, _, rfl, rfl, true, congrArg V.bl (decide_eq_true h1), iteT ?_⟩
          refine ⟨_, rfl, c, rfl, by show 2 ≤ sizeLine; decide, ?_⟩
          rw [if_pos h1]
          exact fin _ _ (z0 _) (by omega)
        · refine ⟨_, rfl, _, _, rfl, rfl, false, congrArg V.bl (decide_eq_false h1), iteF ?_⟩
          by_cases h2 : (1000000000000000000 : Int) ≤ c
          · refine ⟨_, rfl, _, _, rfl, rfl, ⟨by decide, by decide, by decide⟩, _, _, rfl, rfl, true, congrArg V.bl (decide_eq_true h2), iteT ?_⟩
            refine ⟨_, rfl, c, rfl, by show 2 ≤ sizeLine; decide, ?_⟩
            rw [if_neg h1]
            exact fin _ _ (z0 _) (by omega)
          · refine ⟨_, rfl, _, _, rfl, rfl, ⟨by decide, by decide, by decide⟩, _, _, rfl, rfl, false, congrArg V.bl (decide_eq_false h2), iteF ?_⟩
            exact ⟨by show 2 ≤ sizeLine; decide, fin _ _ (z0 _) (by decide)⟩
theorem ok_law_sip (T : Txt K mg) (D : Df K mg "_law_sip" s_law_sip ["_law_cup_here", "_law_many"]) : Ok P w K mg base 1 "_law_sip" ["_law_cup_here", "_law_many"] spSip := by
  refine D.ok sc_law_sip (fun vs H Q E h => ?_) (fun f cdv A outer s H vs Q E hr h => ?_)
  · obtain ⟨c, m, rfl, _⟩ := h
    rfl
  · obtain ⟨c, m, rfl, ⟨x, y, x0, y0, hc⟩, m1, m2, q⟩ := h
    refine ⟨_, (pss_cons (ps_asg (pe_op op_mod (pe_callTy call_int1 (by rfl) T.int b_int (pa_cons (pe_op op_add (pe_op op_mul (pe_ix ix_list (pv 0) pe_int (fun _ _ => rfl)) pe_int) pe_int) pa_nil)) pe_int) (pg_sub (pv 0) pe_int set_list))
      (pss_cons (ps_if (pt_cmpR op_gt (pe_ix ix_list (pv 0) pe_int (fun _ _ => rfl)) pe_int (nomark _)) (pss_cons (ps_asg (pe_callB call_divmod (by rfl) T.divmod b_divmod (pa_cons (pe_ix ix_list (pv 0) pe_int (fun _ _ => rfl)) (pa_cons (pv 1) pa_nil))) (pg_tup rfl (pgs_cons (pg_sub (pv 0) pe_int set_list) (pgs_cons (pg_name (i := 2) sc_law_sip.nd rfl (Or.inl rfl)) pgs_nil))))
        (pss_one (ps_ret (pv 2)))) pss_nil)
      (pss_one (ps_ret (pe_op op_mod (pe_callTy call_int1 (by rfl) T.int b_int (pa_cons (pe_op op_fdivW (pe_ix ix_list (pv 0) pe_int (fun _ _ => rfl)) pe_int) pa_nil)) (pv 1)))))), ?_⟩
    have g : ∀ a b : Int, atI [V.int a, V.int b] 0 = some (.int a) := fun _ _ => rfl
    have g1 : ∀ a b : Int, atI [V.int a, V.int b] 1 = some (.int b) := fun _ _ => rfl
    refine ⟨_, rfl, c, _, _, _, rfl, rfl, .of hc, g x y, _, _, rfl, rfl, cm_r (by decide) (by decide), _, _, rfl, rfl, .inl ⟨_, rfl, _, _, rfl, rfl, (by show (0 : Int) < 2147483629; decide), ?_⟩⟩
    have n0 : 0 ≤ (x * 48271 + 11) % 2147483629 := Int.emod_nonneg _ (by decide)
    refine ⟨_, rfl, c, _, 0, 0, rfl, rfl, hc, rfl, ?_⟩
    have hc2 : (upd H c (.lst ([V.int x, V.int y].set 0 (.int ((x * 48271 + 11) % 2147483629))))) c = some (.lst [V.int ((x * 48271 + 11) % 2147483629), V.int y]) := upd_same
    have b1 : But c H (upd H c (.lst ([V.int x, V.int y].set 0 (.int ((x * 48271 + 11) % 2147483629))))) := but_upd
    have r0 := fun z : Int => Int.emod_nonneg z (show m ≠ 0 by omega)
    have r1 := fun z : Int => Int.emod_lt_of_pos z (show 0 < m by omega)
    by_cases hy : 0 < y
    · refine ⟨_, rfl, c, _, _, _, rfl, rfl, .of hc2, g1 _ y, _, _, rfl, rfl, true, congrArg V.bl (decide_eq_true hy), iteT ?_⟩
      refine ⟨_, rfl, c, _, _, _, rfl, rfl, .of hc2, g1 _ y, _, rfl, y, m, rfl, ⟨by omega, m2⟩, fun p hp => ?_⟩
      have hc3 := (same_up (o := .tup [V.int (y / m), V.int (y % m)]) hp) _ _ hc2
      refine ⟨p, _, rfl, .of upd_same, rfl, _, _, rfl, ⟨_, rfl, c, _, 1, 1, rfl, rfl, hc3, rfl, ?_⟩⟩
      refine ⟨_, _, rfl, rfl, _, rfl, q _ _ ((b1.up hp).trans but_upd) ⟨_, y / m, n0, Int.ediv_nonneg y0 (by omega), upd_same⟩ (r0 _) (r1 _)⟩
    · refine ⟨_, rfl, c, _, _, _, rfl, rfl, .of hc2, g1 _ y, _, _, rfl, rfl, false, congrArg V.bl (decide_eq_false hy), iteF ?_⟩
      refine ⟨_, rfl, c, _, _, _, rfl, rfl, .of hc2, g _ y, _, _, rfl, rfl, wide_div (b := 80) (by decide) (by decide) (by decide) (by decide), .inl ⟨_, rfl, _, rfl, _, _, rfl, rfl, by omega, ?_⟩⟩
      exact q _ _ b1 ⟨_, y, n0, y0, hc2⟩ (r0 _) (r1 _)
theorem ok_law_pick (T : Txt K mg) (D : Df K mg "_law_pick" s_law_pick ["_law_cup_here", "_law_things"]) (o__law_sip : Ok P w K mg base 1 "_law_sip" ["_law_cup_here", "_law_many"] spSip) : Ok P w K mg base 2 "_law_pick" ["_law_cup_here", "_law_things"] spPick := by
  refine D.ok sc_law_pick (fun vs H Q E h => ?_) (fun f cdv A outer s H vs Q E hr h => ?_)
  · obtain ⟨c, L, xs, rfl, _⟩ := h
    rfl
  · obtain ⟨c, L, xs, rfl, hc, n, hL, l1, l2, q⟩ := h
    refine ⟨_, (pss_one (ps_ret (pe_ix ix_list (pv 1) (pe_cl o__law_sip (hr.mono (by decide)) (pa_cons (pv 0) (pa_cons (pe_callB call_len_seq (by rfl) T.len b_len (pa_cons (pv 1) pa_nil)) pa_nil))) (fun _ _ => rfl)))), ?_⟩
    refine ⟨_, rfl, _, rfl, _, rfl, L, _, rfl, .inl (.of hL), c, _, rfl, hc, by omega, by omega, fun H' r b1 hc2 r0 r1 => ?_⟩
    have hr2 : r.toNat < xs.length := by omega
    have g : atI xs r = some xs[r.toNat] := by
      have z := atI_nat (xs := xs) (j := r.toNat) (List.getElem?_eq_getElem hr2)
      rwa [show ((r.toNat : Nat) : Int) = r by omega] at z
    exact ⟨L, _, _, _, rfl, rfl, .of (b1 _ _ n hL), g, q H' _ b1 hc2 (List.getElem_mem hr2)⟩
theorem ok_law_pair (T : Txt K mg) (D : Df K mg "_law_pair" s_law_pair ["_law_top", "_law_bottom"]) : Ok P w K mg base 1 "_law_pair" ["_law_top", "_law_bottom"] spLowest := by
  refine D.ok sc_law_pair (fun vs H Q E h => ?_) (fun f cdv A outer s H vs Q E hr h => ?_)
  · obtain ⟨v, rfl, _⟩ := h
    rfl
  · obtain ⟨v, rfl, hb, q⟩ := h
    have g0 := gcd_pos hb.pr
    have g1 := gcd_le hb
    have wd := wide_div (i := v.1) (b := 80) g0 (by omega) (by decide) (by decide)
    have wd2 := wide_div (i := v.2) (b := 80) g0 (by omega) (by decide) (by decide)
    refine ⟨_, (pss_cons (ps_par (i := 2) (j := 3) rfl sc_law_pair.nd rfl rfl (by decide) rfl rfl (pa_cons (pv 0) (pa_cons (pv 1) pa_nil)) (by rfl))
      (pss_cons (ps_while PassesOwn.never (pt_cmpR op_gt (pv 3) pe_int (nomark _)) (pss_one (ps_par (i := 2) (j := 3) rfl sc_law_pair.nd rfl rfl (by decide) rfl rfl (pa_cons (pv 3) (pa_cons (pe_op op_mod (pe_callTy call_int1 (by rfl) T.int b_int (pa_cons (pv 2) pa_nil)) (pv 3)) pa_nil)) (by rfl))))
      (pss_one (ps_ret (pe_tup (pa_cons (pe_op op_fdivW (pv 0) (pv 2)) (pa_cons (pe_op op_fdivW (pv 1) (pv 2)) pa_nil))))))), ?_⟩
    refine ⟨_, rfl, _, rfl, _, _, rfl, ?_⟩
    refine ⟨fun m σ H' => ∃ a b : Int, σ = [some (.int v.1), some (.int v.2), some (.int a), some (.int b)] ∧ H' = H ∧ 0 ≤ a ∧ 0 ≤ b ∧ m = b.toNat ∧ Int.gcd a b = Int.gcd v.1 v.2, ⟨_, v.1, v.2, rfl, rfl, hb.pr.1, hb.pr.2.1, rfl, rfl⟩, ?_⟩
    rintro m σ H' ⟨a, b, rfl, rfl, a0, b0, rfl, e⟩
    refine ⟨_, rfl, _, _, rfl, rfl, decide (0 < b), rfl, ?_⟩
    by_cases hb2 : 0 < b
    · rw [decide_eq_true hb2]
      refine iteT ⟨fun σ' H'' => ∃ a' b' : Int, σ' = [some (.int v.1), some (.int v.2), some (.int a'), some (.int b')] ∧ H'' = H' ∧ 0 ≤ a' ∧ 0 ≤ b' ∧ b'.toNat < b.toNat ∧ Int.gcd a' b' = Int.gcd v.1 v.2, ?_, ?_⟩
      · rintro σ' H'' ⟨a', b', h1, h2, h3, h4, h5, h6⟩
        exact ⟨_, h5, a', b', h1, h2, h3, h4, rfl, h6⟩
      · refine ⟨_, rfl, _, rfl, .inl ⟨a, rfl, _, rfl, _, _, rfl, rfl, hb2, ?_⟩⟩
        have m0 := Int.emod_nonneg a (Int.ne_of_gt hb2)
        have m1 := Int.emod_lt_of_pos a hb2
        exact ⟨_, _, rfl, b, a % b, rfl, rfl, b0, m0, by omega, (gcd_step a0 hb2).trans e⟩
    · rw [decide_eq_false hb2]
      refine iteF ?_
      have z : b = 0 := by omega
      subst z
      have e2 : a = (Int.gcd v.1 v.2 : Int) := by
        rw [← e, Int.gcd_zero]
        omega
      subst e2
      exact ⟨_, rfl, _, rfl, _, _, rfl, rfl, wd, _, rfl, _, rfl, _, _, rfl, rfl, wd2, (by show 2 ≤ sizeLine; decide), fun p hp => q p hp⟩
end
end K13

namespace K13
open PySem PySem.Spec PyProof.Rows L2

/-! ### the law's own front: bounds -/
def BdV (n : Nat) (v : Int × Int) : Prop := v.1 ≤ 13 ^ n ∧ v.2 ≤ 13 ^ n
theorem stepF_bd {p : Pc} {v : Int × Int} {n : Nat} (h : OkP p) (hv : Pr v) (hb : BdV n v) : BdV (n + 1) (stepF p v) := by
  obtain ⟨b, o⟩ := p
  obtain ⟨x, y⟩ := v
  obtain ⟨o1, o2⟩ := h
  obtain ⟨h1, h2, _⟩ := hv
  obtain ⟨b1, b2⟩ := hb
  dsimp only at *
  have e : (13 : Int) ^ (n + 1) = 13 ^ n * 13 := Int.pow_succ ..
  have m0 : (1 : Int) ≤ 13 ^ n := by
    have z : (0 : Int) < 13 ^ n := Int.pow_pos (by decide)
    omega
  have hox : o * x ≤ 12 * 13 ^ n := by
    rw [Int.mul_comm]
    exact mul12 h1 b1 o1 o2
  have hoy : o * y ≤ 12 * 13 ^ n := by
    rw [Int.mul_comm]
    exact mul12 h2 b2 o1 o2
  unfold stepF BdV
  dsimp only
  rw [e]
  split
  · exact ⟨by dsimp only; omega, by dsimp only; omega⟩
  · split
    · exact ⟨by dsimp only; omega, by dsimp only; omega⟩
    · exact ⟨by dsimp only; omega, by dsimp only; omega⟩
def fU (row : List Pc) (v : Int × Int) (i : Nat) : Int × Int := (row.reverse.take i).foldl (fun v p => stepF p v) v
theorem fU_next {row : List Pc} {v : Int × Int} {i : Nat} {p : Pc} (h : row.reverse[i]? = some p) : fU row v (i + 1) = stepF p (fU row v i) := by
  unfold fU
  rw [take_next h, List.foldl_append]
  rfl
theorem fU_all (row : List Pc) (v : Int × Int) : fU row v row.length = frontU row v := by
  unfold fU frontU
  rw [← List.length_reverse, List.take_length]
theorem bd8 {n : Nat} {v : Int × Int} (h : BdV n v) (hn : n ≤ 8) (hv : Pr v) : PrB v := by
  have z := pow_le hn
  exact ⟨hv, by have := h.1; omega, by have := h.2; omega⟩
theorem pg_tupK {X : Cx} {K : PySem.W.Frag} {es : List Expr} {k : Nat} {pos : Pos} {t : TGs} {n : Nat} (hK : X.K = K) (hc : X.calm = true) (h : PGs X es t) (hn : (assignEach es X.env).length = n := by rfl) (hst : (assignEach es X.env).findIdx? (·.1) = none := by rfl) :
    PG X (.Tuple es k pos) (gTup K n t) := by
  subst hK
  exact pg_tup hc h hn hst
def spFront (K : PySem.W.Frag) : Sp := fun vs H Q _ => ∃ (a b : Addr) (row : List Pc) (v : Int × Int), vs = [.ref a, .ref b] ∧ RowL K H a row ∧ SqT K H b (pairV v) ∧ OkR row ∧ row.length ≤ 8 ∧ Pr v ∧ v.1 ≤ 1 ∧ v.2 ≤ 1 ∧
  ∀ H' p, Same H H' → H' p = some (.tup (pairV (front row v))) → Q (.ref p) H'
def spLawRow (K : PySem.W.Frag) : Sp := fun vs H Q _ => ∃ (c : Addr) (m : Int), vs = [.ref c, .int m] ∧ CupAt H c ∧ 1 ≤ m ∧ m ≤ 8 ∧
  ∀ H' L row, But c H H' → CupAt H' c → L ≠ c → RowL K H' L row → OkR row → 1 ≤ row.length → (row.length : Int) ≤ m → Q (.ref L) H'
def spWords (K : PySem.W.Frag) : Sp := fun vs H Q _ => ∃ (a : Addr) (row : List Pc), vs = [.ref a] ∧ RowL K H a row ∧ OkR row ∧ row.length ≤ 8 ∧ ∀ H', Same H H' → Q (.str (rtext row)) H'
def spEnd (K : PySem.W.Frag) : Sp := fun vs H Q _ => ∃ c : Addr, vs = [.ref c] ∧ CupAt H c ∧ ∀ H' p v, But c H H' → CupAt H' c → Load v → SqT K H' p (pairV v) → Q (.ref p) H'
def spLawRead (K : PySem.W.Frag) (cP : Addr) : Sp := fun vs H Q _ => ∃ (a : Addr) (row : List Pc), vs = [.ref a] ∧ RowL K H a row ∧ OkR row ∧ 1 ≤ row.length ∧ row.length ≤ 8 ∧ ∀ H' p, Same H H' → PatAt K cP H' p row → Q (.ref p) H'
abbrev s_law_front : Stmt := top 46
abbrev s_law_row : Stmt := top 47
abbrev s_law_words : Stmt := top 48
abbrev s_law_end : Stmt := top 49
abbrev s_law_read : Stmt := top 50
theorem sc_law_front : FnScope ["_law_row_here", "_law_pair_here", "_law_top", "_law_bottom", "_law_word", "_law_ohms"] ["_law_row_here", "_law_pair_here"] (defScope s_law_front) := ⟨rfl, rfl, rfl, by decide +kernel, rfl, by decide +kernel, by decide +kernel⟩
theorem sc_law_row : FnScope ["_law_cup_here", "_law_most", "_law_found", "_law_turn"] ["_law_cup_here", "_law_most"] (defScope s_law_row) := ⟨rfl, rfl, rfl, by decide +kernel, rfl, by decide +kernel, by decide +kernel⟩
theorem sc_law_words : FnScope ["_law_row_here", "_law_word", "_law_ohms"] ["_law_row_here"] (defScope s_law_words) := ⟨rfl, rfl, rfl, by decide +kernel, rfl, by decide +kernel, by decide +kernel⟩
theorem sc_law_end : FnScope ["_law_cup_here", "_law_way", "_law_small"] ["_law_cup_here"] (defScope s_law_end) := ⟨rfl, rfl, rfl, by decide +kernel, rfl, by decide +kernel, by decide +kernel⟩
theorem sc_law_read : FnScope ["_law_row_here"] ["_law_row_here"] (defScope s_law_read) := ⟨rfl, rfl, rfl, by decide +kernel, rfl, by decide +kernel, by decide +kernel⟩
section
variable {P : Program} {w : World} {K : PySem.W.Frag} {mg : Str → Option Value} {base : Heap}
theorem ok_law_front (D : Df K mg "_law_front" s_law_front ["_law_row_here", "_law_pair_here"]) (o__law_pair : Ok P w K mg base 1 "_law_pair" ["_law_top", "_law_bottom"] spLowest) : Ok P w K mg base 2 "_law_front" ["_law_row_here", "_law_pair_here"] (spFront K) := by
  refine D.ok sc_law_front (fun vs H Q E h => ?_) (fun f cdv A outer s H vs Q E hr h => ?_)
  · obtain ⟨a, b, row, v, rfl, _⟩ := h
    rfl
  · obtain ⟨a, b, row, v, rfl, ⟨us, ha, hrow⟩, hb, okr, l, hv, v1, v2, q⟩ := h
    have hb : SqT K H b [.int v.1, .int v.2] := hb
    refine ⟨_, (pss_cons (ps_asg (pv 1) (pg_tup rfl (pgs_cons (pg_name (i := 2) sc_law_front.nd rfl (Or.inl rfl)) (pgs_cons (pg_name (i := 3) sc_law_front.nd rfl (Or.inl rfl)) pgs_nil))))
      (pss_cons (ps_for PassesOwn.never rfl (pi_list (pe_revL (pv 0))) (pg_tup rfl (pgs_cons (pg_name (i := 4) sc_law_front.nd rfl (Or.inl rfl)) (pgs_cons (pg_name (i := 5) sc_law_front.nd rfl (Or.inl rfl)) pgs_nil))) (pss_one (ps_if (pt_cmpR op_eq (pv 4) pe_str (nomark _)) (pss_one (ps_set (i := 2) sc_law_front.nd rfl (Or.inl rfl) (pe_op op_add (pv 2) (pe_op op_mul (pv 5) (pv 3))))) (pss_one (ps_if (pt_cmpR op_eq (pv 3) pe_int (nomark _)) (pss_one (ps_par (i := 2) (j := 3) rfl sc_law_front.nd rfl rfl (by decide) rfl rfl (pa_cons (pv 5) (pa_cons pe_int pa_nil)) (by rfl))) (pss_one (ps_par (i := 2) (j := 3) rfl sc_law_front.nd rfl rfl (by decide) rfl rfl (pa_cons (pe_op op_mul (pv 5) (pv 2)) (pa_cons (pe_op op_add (pe_op op_mul (pv 5) (pv 3)) (pv 2)) pa_nil)) (by rfl))))))))
      (pss_one (ps_ret (pe_cl o__law_pair (hr.mono (by decide)) (pa_cons (pv 2) (pa_cons (pv 3) pa_nil))))))), ?_⟩
    refine ⟨_, rfl, b, _, rfl, hb, rfl, _, _, rfl, _, _, rfl, rfl, ?_⟩
    refine ⟨_, rfl, a, us, rfl, .of ha, fun L hL => ⟨L, rfl, ⟨_, .of upd_same⟩, ?_⟩⟩
    have hrev : Paired (PcV K H) us.reverse row.reverse := Paired.rev hrow
    refine for_it (walk_list (xs := us.reverse)) (fun i σ H' => ∃ x4 x5 : Option V, σ = [some (.ref a), some (.ref b), some (.int (fU row v i).1), some (.int (fU row v i).2), x4, x5] ∧ H' = upd H L (.lst us.reverse) ∧ Pr (fU row v i) ∧ BdV i (fU row v i))
      ⟨none, none, rfl, rfl, hv, v1, v2⟩ (fun i σ H' _ hp => ?_) (fun i x σ H' H2 hi hp hy => ?_) (fun σ H' hp => ?_)
    · obtain ⟨_, _, _, rfl, _⟩ := hp
      exact .of upd_same
    · obtain ⟨x4, x5, rfl, rfl, pr, bd⟩ := hp
      obtain ⟨rfl, hx⟩ := hy
      obtain ⟨p, hp, t, rfl, ht⟩ := Paired.of_get hrev hx
      have okp : OkP p := okr p (List.mem_reverse.mp (List.mem_of_getElem? hp))
      have nx := fU_next (v := v) hp
      have pr2 := stepF_pr okp pr
      have bd2 := stepF_bd okp pr bd
      rw [← nx] at pr2 bd2
      obtain ⟨bo, o⟩ := p
      refine ⟨t, _, rfl, (same_up hL).sqT ht, rfl, _, _, rfl, _, _, rfl, rfl, ?_⟩
      have co : ∀ j : Int, CMul o j := fun j => cm_l (by have := okp.1; dsimp only at this; omega) (by have := okp.2; dsimp only at this; omega)
      cases bo with
      | true =>
        refine ⟨_, rfl, rfl, true, congrArg V.bl (decide_eq_true rfl), iteT ?_⟩
        refine ⟨_, rfl, _, rfl, _, rfl, _, _, rfl, rfl, co _, _, _, rfl, rfl, some (.str (wd true)), some (.int o), ?_, rfl, pr2, bd2⟩
        rw [nx]
        rfl
      | false =>
        refine ⟨_, rfl, rfl, false, congrArg V.bl (decide_eq_false not_rail), iteF ?_⟩
        refine ⟨_, rfl, rfl, decide (V.int (fU row v i).2 = V.int 0), rfl, ?_⟩
        by_cases h0 : (fU row v i).2 = 0
        · rw [decide_eq_true (congrArg V.int h0)]
          refine iteT ⟨_, rfl, _, _, rfl, some (.str (wd false)), some (.int o), ?_, rfl, pr2, bd2⟩
          rw [nx]
          unfold stepF
          rw [if_neg (show ¬ ((false, o) : Pc).1 = true from Bool.false_ne_true), if_pos h0]
          rfl
        · rw [decide_eq_false (fun z => h0 (by injection z))]
          refine iteF ⟨_, rfl, _, rfl, _, _, rfl, rfl, co _, _, rfl, _, rfl, _, _, rfl, rfl, co _, _, rfl, _, _, rfl, rfl, _, _, rfl, some (.str (wd false)), some (.int o), ?_, rfl, pr2, bd2⟩
          rw [nx]
          unfold stepF
          rw [if_neg (show ¬ ((false, o) : Pc).1 = true from Bool.false_ne_true), if_neg h0]
          rfl
    · obtain ⟨x4, x5, rfl, rfl, pr, bd⟩ := hp
      have e : us.reverse.length = row.length := by rw [List.length_reverse, Paired.len hrow]
      rw [e, fU_all] at pr bd ⊢
      exact ⟨_, rfl, _, rfl, frontU row v, rfl, bd8 bd l pr, fun p hp => q _ p ((same_up hL).up hp) upd_same⟩
theorem ok_law_row (T : Txt K mg) (D : Df K mg "_law_row" s_law_row ["_law_cup_here", "_law_most"]) (o__law_sip : Ok P w K mg base 1 "_law_sip" ["_law_cup_here", "_law_many"] spSip) (o__law_pick : Ok P w K mg base 2 "_law_pick" ["_law_cup_here", "_law_things"] spPick) :
    Ok P w K mg base 3 "_law_row" ["_law_cup_here", "_law_most"] (spLawRow K) := by
  refine D.ok sc_law_row (fun vs H Q E h => ?_) (fun f cdv A outer s H vs Q E hr h => ?_)
  · obtain ⟨c, m, rfl, _⟩ := h
    rfl
  · obtain ⟨c, m, rfl, hc, m1, m8, q⟩ := h
    refine ⟨_, (pss_cons (ps_set (i := 2) sc_law_row.nd rfl (Or.inl rfl) (pe_lst pa_nil))
      (pss_cons (ps_for PassesOwn.never rfl (pi_range1 (by rfl) T.range (pa_cons (pe_op op_add pe_int (pe_cl o__law_sip (hr.mono (by decide)) (pa_cons (pv 0) (pa_cons (pv 1) pa_nil)))) pa_nil)) (pg_name (i := 3) sc_law_row.nd rfl (Or.inl rfl)) (pss_one (ps_expr (pe_bm PySem.F.plainAttrs_list PySem.F.slot_list_append PySem.F.type_list_append mt_append (pv 2) (pa_cons (pe_tup (pa_cons (pe_cl o__law_pick (hr.mono (by decide)) (pa_cons (pv 0) (pa_cons (pe_lst (pa_cons pe_str (pa_cons pe_str pa_nil))) pa_nil))) (pa_cons (pe_op op_add pe_int (pe_cl o__law_sip (hr.mono (by decide)) (pa_cons (pv 0) (pa_cons pe_int pa_nil)))) pa_nil))) pa_nil)))))
      (pss_one (ps_ret (pv 2))))), ?_⟩
    refine ⟨Nat.zero_le _, fun L hL => ?_⟩
    have nLc : L ≠ c := fun z => by
      obtain ⟨_, e⟩ := hc.lst
      rw [z, e] at hL
      cases hL
    have c1 : CupAt (upd H L (.lst [])) c := hc.same (same_up hL)
    refine ⟨_, rfl, _, rfl, c, m, rfl, c1, m1, by omega, fun H1 r b1 cu1 r0 r1 => ?_⟩
    refine ⟨_, _, rfl, rfl, _, rfl, by omega, by omega, ?_⟩
    have e1 : H1 L = some (.lst []) := b1 _ _ nLc upd_same
    have b0 : But c H H1 := (But.of (same_up hL)).trans b1
    refine for_range (fun i σ H' => ∃ (x : Option V) (us : List V) (row : List Pc), σ = [some (.ref c), some (.int m), some (.ref L), x] ∧ But c H H' ∧ CupAt H' c ∧ H' L = some (.lst us) ∧ RowV K H' us row ∧ OkR row ∧ row.length = i)
      ⟨none, [], [], rfl, b0, cu1, e1, .nil, (fun p hp => by cases hp), rfl⟩ (fun i σ H' hi hp => ?_) (fun σ H' hp => ?_)
    · obtain ⟨x, us, row, rfl, bb, cu, eL, hrow, okr, hlen⟩ := hp
      refine ⟨_, rfl, .inl ⟨rfl, _, .of eL⟩, ?_⟩
      refine ⟨_, rfl, by show 2 ≤ sizeLine; decide, fun W hW => ?_⟩
      have nWc : W ≠ c := fun z => by
        obtain ⟨_, e⟩ := cu.lst
        rw [z, e] at hW
        cases hW
      refine ⟨c, W, _, rfl, cu.same (same_up hW), nWc, upd_same, by show 1 ≤ 2; decide, by show 2 < 1000; decide, fun H2 y b2 cu2 hy => ?_⟩
      obtain ⟨bo, rfl⟩ : ∃ bo, y = .str (wd bo) := by
        rcases List.mem_cons.mp hy with z | z
        · exact ⟨true, z⟩
        · exact ⟨false, List.mem_singleton.mp z⟩
      refine ⟨_, rfl, c, 12, rfl, cu2, by decide, by decide, fun H3 o b3 cu3 o0 o1 => ?_⟩
      refine ⟨_, _, rfl, rfl, by show 2 ≤ sizeLine; decide, fun t ht => ?_⟩
      have b4 : But c H' (upd H3 t (.tup [.str (wd bo), .int (1 + o)])) := ((But.of (same_up hW)).trans b2 |>.trans b3).up ht
      have eL4 := b4 _ _ nLc eL
      have hu := Paired.len hrow
      refine ⟨L, us, _, rfl, rfl, eL4, Nat.lt_of_le_of_lt (show us.length ≤ 8 by omega) (by decide), ?_⟩
      have bu : But L (upd H3 t (.tup [.str (wd bo), .int (1 + o)])) (upd (upd H3 t (.tup [.str (wd bo), .int (1 + o)])) L (.lst (us ++ [.ref t]))) := but_upd
      refine ⟨_, us ++ [.ref t], row ++ [(bo, 1 + o)], rfl, fun b ob nb hb => ?_, ?_, upd_same, ?_, ?_, ?_⟩
      · rw [upd_ne (ne_of_none hb hL)]
        exact b4 _ _ nb (bb _ _ nb hb)
      · obtain ⟨u, w', u0, w0, e⟩ := cu3
        refine ⟨u, w', u0, w0, ?_⟩
        rw [upd_ne (Ne.symm nLc)]
        exact same_up ht _ _ e
      · exact Paired.app ((RowV.but hrow b4 cu.lst).but bu ⟨_, eL4⟩) (.cons ⟨t, rfl, bu.sqT ⟨_, eL4⟩ (.of upd_same)⟩ .nil)
      · intro p hp
        rcases List.mem_append.mp hp with z | z
        · exact okr p z
        · rw [List.mem_singleton.mp z]
          exact ⟨by dsimp only; omega, by dsimp only; omega⟩
      · rw [List.length_append, hlen]
        rfl
    · obtain ⟨x, us, row, rfl, bb, cu, eL, hrow, okr, hlen⟩ := hp
      exact ⟨_, rfl, q H' L row bb cu nLc ⟨us, eL, hrow⟩ okr (by omega) (by omega)⟩
theorem sum7 : ∀ row : List Pc, OkR row → ((row.map ptext).map (·.length)).sum ≤ 7 * row.length
  | [], _ => Nat.le_refl _
  | p :: r, h => by
    have h1 := p_len (h p List.mem_cons_self)
    have h2 := sum7 r fun x hx => h x (List.mem_cons_of_mem _ hx)
    rw [List.map_cons, List.map_cons, List.sum_cons, List.length_cons]
    omega
theorem ok_law_words (T : Txt K mg) (D : Df K mg "_law_words" s_law_words ["_law_row_here"]) : Ok P w K mg base 1 "_law_words" ["_law_row_here"] (spWords K) := by
  refine D.ok sc_law_words (fun vs H Q E h => ?_) (fun f cdv A outer s H vs Q E hr h => ?_)
  · obtain ⟨a, row, rfl, _⟩ := h
    rfl
  · obtain ⟨a, row, rfl, ⟨us, ha, hrow⟩, okr, l, q⟩ := h
    refine ⟨_, (pss_one (ps_ret (pe_join pe_str (pe_lc (own := [("_law_word", 1), ("_law_ohms", 2)]) rfl sc_law_words.nd (pi_list (pv 0)) (blkOk_by (N := ["_law_row_here", "_law_word", "_law_ohms"]) (sc := defScope s_law_words) (by decide +kernel)) (fun _ _ _ _ _ => (pg_tupK (K := K) (n := 2) rfl rfl (pgs_cons (pg_name (i := 1) sc_law_words.nd rfl (Or.inl rfl)) (pgs_cons (pg_name (i := 2) sc_law_words.nd rfl (Or.inl rfl)) pgs_nil)))) (fun _ _ _ _ _ => pts_nil)
      (fun _ _ _ _ _ => (pe_op op_add_str (pe_op op_add_str (pv 1) pe_str) (pe_callTy call_str_int (by rfl) T.str b_str (pa_cons (pv 2) pa_nil)))))))), ?_⟩
    refine ⟨⟨_, rfl⟩, ?_⟩
    refine ⟨_, rfl, a, rfl, ⟨_, .of ha⟩, fun D hD => ?_⟩
    refine lc_it (walk_list (xs := us)) (fun i H' => Same H H' ∧ H' D = some (.lst (((row.take i).map ptext).map V.str))) ⟨same_up hD, upd_same⟩ (fun i H' _ hp => .of (hp.1 _ _ ha)) (fun i x H1 H2 hi hp hy => ?_) (fun H' hp => ?_)
    · obtain ⟨rfl, hx⟩ := hy
      obtain ⟨sm, hD'⟩ := hp
      obtain ⟨p, hp, t, rfl, ht⟩ := Paired.of_get hrow hx
      have okp : OkP p := okr p (List.mem_of_getElem? hp)
      have hlt : i < row.length := (List.getElem?_eq_some_iff.mp hp).1
      have hpl := p_len okp
      have e1 : (ptext p).length = (wd p.1 ++ (" " : Str)).length + (numT p.2).length := by
        unfold ptext
        rw [TL.len_tl, TL.len_tl, TL.len_tl, TL.tl_append, List.length_append]
      have e2 : (wd p.1 ++ (" " : Str)).length = (wd p.1).length + (" " : Str).length := by rw [TL.len_tl, TL.len_tl, TL.len_tl, TL.tl_append, List.length_append]
      have s7 : ∀ n : Nat, n ≤ 7 → n ≤ sizeLine := fun n h => Nat.le_trans h (by decide)
      refine ⟨t, _, rfl, sm.sqT ht, rfl, _, _, rfl, _, _, rfl, rfl, rfl, yesT ?_⟩
      refine ⟨_, rfl, _, _, rfl, rfl, s7 _ (by omega), _, rfl, p.2, rfl, ?_, _, _, rfl, rfl, s7 _ (by show (wd p.1 ++ (" " : Str)).length + (numT p.2).length ≤ 7; omega), ?_⟩
      · have := okp.1
        have := okp.2
        have h12 : p.2.natAbs < 2 ^ 4 := by omega
        exact Nat.lt_of_lt_of_le (PySem.Flt.log2_lt_of (by decide) h12) (by decide)
      · refine ⟨_, hD', ?_, ?_, ?_⟩
        · rw [List.length_map, List.length_map, List.length_take]
          exact Nat.lt_of_le_of_lt (show min i row.length ≤ 8 by omega) (by decide)
        · intro b o hb
          rw [upd_ne (ne_of_none hb hD)]
          exact sm b o hb
        · rw [upd_same, take_next hp, List.map_append, List.map_append]
          rfl
    · obtain ⟨sm, hD'⟩ := hp
      rw [Paired.len hrow, List.take_length] at hD'
      have z := sum7 row okr
      refine ⟨_, D, row.map ptext, rfl, rfl, .inl (.of hD'), ?_, q _ sm⟩
      have z2 : (", " : Str).length = 2 := by decide +kernel
      rw [z2, List.length_map]
      omega
end
end K13

namespace K13
open PySem PySem.Spec PyProof.Rows L2

theorem load_low {t s : Int} (t0 : 0 ≤ t) (s1 : 1 ≤ s) (t9 : t ≤ 1000000000000) (s9 : s ≤ 1000000000000) : Load (low (t, s)) := by
  have hp : Pr (t, s) := pr_n t0 s1
  obtain ⟨_, a1, _, b1⟩ := low_le hp
  refine ⟨low_pr hp, fun z => ?_, Int.le_trans a1 t9, Int.le_trans b1 s9⟩
  have e := (low_mul hp).2
  rw [z, Int.mul_zero] at e
  dsimp only at e
  omega
theorem prB_n {t s : Int} (t0 : 0 ≤ t) (s1 : 1 ≤ s) (t9 : t ≤ 1000000000000) (s9 : s ≤ 1000000000000) : PrB (t, s) := ⟨pr_n t0 s1, by dsimp only; omega, by dsimp only; omega⟩
theorem two_le : ([] : List V).length + 2 ≤ sizeLine := by decide
section
variable {P : Program} {w : World} {K : PySem.W.Frag} {mg : Str → Option Value} {base : Heap}
theorem ok_law_read (T : Txt K mg) (D : Df K mg "_law_read" s_law_read ["_law_row_here"]) (o__law_words : Ok P w K mg base 1 "_law_words" ["_law_row_here"] (spWords K)) (oR : OkRead P w K mg base T) : Ok P w K mg base 9 "_law_read" ["_law_row_here"] (spLawRead K T.cP) := by
  refine D.ok sc_law_read (fun vs H Q E h => ?_) (fun f cdv A outer s H vs Q E hr h => ?_)
  · obtain ⟨a, row, rfl, _⟩ := h
    rfl
  · obtain ⟨a, row, rfl, ha, okr, l1, l2, q⟩ := h
    obtain ⟨pR, gR, fdR, MR, FR, bR⟩ := oR
    refine ⟨_, (pss_one (ps_ret (pe_smeth (pe_gref T.gP) T.rd MR FR (hr.mono (by decide)) bR (pa_cons (pe_cl o__law_words (hr.mono (by decide)) (pa_cons (pv 0) pa_nil)) pa_nil)))), ?_⟩
    refine ⟨rfl, _, rfl, a, row, rfl, ha, okr, l2, fun H1 s1 => ?_⟩
    exact ⟨row, rfl, okr, l1, l2, fun H' p s2 pa => q H' p (s1.trans s2) pa⟩
theorem ok_law_end (T : Txt K mg) (D : Df K mg "_law_end" s_law_end ["_law_cup_here"]) (o__law_sip : Ok P w K mg base 1 "_law_sip" ["_law_cup_here", "_law_many"] spSip) (o__law_pair : Ok P w K mg base 1 "_law_pair" ["_law_top", "_law_bottom"] spLowest) : Ok P w K mg base 2 "_law_end" ["_law_cup_here"] (spEnd K) := by
  refine D.ok sc_law_end (fun vs H Q E h => ?_) (fun f cdv A outer s H vs Q E hr h => ?_)
  · obtain ⟨c, rfl, _⟩ := h
    rfl
  · obtain ⟨c, rfl, hc, q⟩ := h
    refine ⟨_, (pss_cons (ps_par (i := 1) (j := 2) rfl sc_law_end.nd rfl rfl (by decide) rfl rfl (pa_cons (pe_cl o__law_sip (hr.mono (by decide)) (pa_cons (pv 0) (pa_cons pe_int pa_nil))) (pa_cons (pe_op op_add pe_int (pe_cl o__law_sip (hr.mono (by decide)) (pa_cons (pv 0) (pa_cons pe_int pa_nil)))) pa_nil)) (by rfl))
      (pss_cons (ps_if (pt_cmpR op_lt (pv 1) pe_int (nomark _)) (pss_one (ps_ret (pe_ix ix_list (pe_lst (pa_cons (pe_tup (pa_cons pe_int (pa_cons pe_int pa_nil))) (pa_cons (pe_tup (pa_cons pe_int (pa_cons pe_int pa_nil))) pa_nil))) (pv 1) (fun _ _ => rfl)))) pss_nil)
      (pss_cons (ps_if (pt_cmpR op_lt (pv 1) pe_int (nomark _)) (pss_one (ps_ret (pe_cl o__law_pair (hr.mono (by decide)) (pa_cons (pe_cl o__law_sip (hr.mono (by decide)) (pa_cons (pv 0) (pa_cons pe_int pa_nil))) (pa_cons (pv 2) pa_nil))))) pss_nil)
      (pss_one (ps_ret (pe_ix ix_list (pe_lst (pa_cons (pe_cl o__law_pair (hr.mono (by decide)) (pa_cons (pv 2) (pa_cons (pe_op op_add pe_int (pe_cl o__law_sip (hr.mono (by decide)) (pa_cons (pv 0) (pa_cons pe_int pa_nil)))) pa_nil))) (pa_cons (pe_cl o__law_pair (hr.mono (by decide)) (pa_cons (pe_op op_sub (pe_op op_pow pe_int pe_int) (pv 2)) (pa_cons (pv 2) pa_nil))) (pa_cons (pe_tup (pa_cons pe_int (pa_cons (pe_op op_add (pe_op op_pow pe_int pe_int) (pv 2)) pa_nil))) pa_nil)))) (pe_op op_sub (pv 1) pe_int) (fun _ _ => rfl))))))), ?_⟩
    have two : 2 ≤ sizeLine := by decide
    have three : 3 ≤ sizeLine := by decide
    refine ⟨_, rfl, c, 8, rfl, hc, by decide, by decide, fun H1 r b1 cu1 r0 r8 => ?_⟩
    refine ⟨_, rfl, c, 30, rfl, cu1, by decide, by decide, fun H2 z b2 cu2 z0 z30 => ?_⟩
    have b12 := b1.trans b2
    refine ⟨_, _, rfl, rfl, _, _, rfl, ?_⟩
    refine ⟨_, rfl, _, _, rfl, rfl, decide (r < 2), rfl, ?_⟩
    by_cases h2 : r < 2
    · rw [decide_eq_true h2]
      refine iteT ⟨two, fun t1 h1 => ⟨two, fun t2 h2' => ⟨two, fun L hL => ⟨_, rfl, ?_⟩⟩⟩⟩
      have e1 : (upd (upd (upd H2 t1 (.tup [.int 0, .int 1])) t2 (.tup [.int 1, .int 0])) L (.lst [.ref t1, .ref t2])) t1 = some (.tup [.int 0, .int 1]) := same_up hL _ _ (same_up h2' _ _ upd_same)
      have e2 : (upd (upd (upd H2 t1 (.tup [.int 0, .int 1])) t2 (.tup [.int 1, .int 0])) L (.lst [.ref t1, .ref t2])) t2 = some (.tup [.int 1, .int 0]) := same_up hL _ _ upd_same
      rcases (show r = 0 ∨ r = 1 by omega) with e | e
      · subst e
        exact ⟨L, _, _, _, rfl, rfl, .of upd_same, rfl, q _ t1 (0, 1) (((b12.up h1).up h2').up hL) (((cu2.same (same_up h1)).same (same_up h2')).same (same_up hL)) ⟨pr01, (fun z => by cases z), by decide, by decide⟩ (.of e1)⟩
      · subst e
        exact ⟨L, _, _, _, rfl, rfl, .of upd_same, rfl, q _ t2 (1, 0) (((b12.up h1).up h2').up hL) (((cu2.same (same_up h1)).same (same_up h2')).same (same_up hL)) ⟨pr10, (fun _ => rfl), by decide, by decide⟩ (.of e2)⟩
    · rw [decide_eq_false h2]
      refine iteF ⟨_, rfl, _, _, rfl, rfl, decide (r < 5), rfl, ?_⟩
      by_cases h5 : r < 5
      · rw [decide_eq_true h5]
        refine iteT ⟨_, rfl, c, 40, rfl, cu2, by decide, by decide, fun H3 y b3 cu3 y0 y40 => ⟨_, rfl, (y, 1 + z), rfl, prB_n y0 (by omega) (by omega) (by omega), fun p hp => ?_⟩⟩
        exact q _ p _ ((b12.trans b3).up hp) (cu3.same (same_up hp)) (load_low y0 (by omega) (by omega) (by omega)) (.of upd_same)
      · rw [decide_eq_false h5]
        refine iteF ⟨_, rfl, _, rfl, c, 9, rfl, cu2, by decide, by decide, fun H3 y b3 cu3 y0 y9 => ?_⟩
        refine ⟨_, _, rfl, rfl, (1 + z, 1 + y), rfl, prB_n (by omega) (by omega) (by omega) (by omega), fun t1 h1 => ?_⟩
        refine ⟨_, _, rfl, rfl, ⟨by decide, by decide, by decide⟩, _, rfl, _, _, rfl, rfl, _, rfl, (1000000000000 - (1 + z), 1 + z), rfl, prB_n (by omega) (by omega) (by omega) (by omega), fun t2 h2' => ?_⟩
        refine ⟨_, _, rfl, rfl, ⟨by decide, by decide, by decide⟩, _, rfl, _, _, rfl, rfl, two, fun t3 h3 => ?_⟩
        refine ⟨three, fun L hL => ?_⟩
        refine ⟨_, rfl, _, _, rfl, rfl, ?_⟩
        rcases (show r = 5 ∨ r = 6 ∨ r = 7 by omega) with e | e | e
        · subst e
          exact ⟨L, _, _, _, rfl, rfl, .of upd_same, rfl, q _ t1 (low (1 + z, 1 + y)) (((((b12.trans b3).up h1).up h2').up h3).up hL) ((((cu3.same (same_up h1)).same (same_up h2')).same (same_up h3)).same (same_up hL)) (load_low (by omega) (by omega) (by omega) (by omega)) (.of (same_up hL _ _ (same_up h3 _ _ (same_up h2' _ _ upd_same))))⟩
        · subst e
          exact ⟨L, _, _, _, rfl, rfl, .of upd_same, rfl, q _ t2 (low (1000000000000 - (1 + z), 1 + z)) (((((b12.trans b3).up h1).up h2').up h3).up hL) ((((cu3.same (same_up h1)).same (same_up h2')).same (same_up h3)).same (same_up hL)) (load_low (by omega) (by omega) (by omega) (by omega)) (.of (same_up hL _ _ (same_up h3 _ _ upd_same)))⟩
        · subst e
          exact ⟨L, _, _, _, rfl, rfl, .of upd_same, rfl, q _ t3 (1, 1000000 + (1 + z)) (((((b12.trans b3).up h1).up h2').up h3).up hL) ((((cu3.same (same_up h1)).same (same_up h2')).same (same_up h3)).same (same_up hL)) ⟨pr_n (by decide) (by omega), (fun x => by dsimp only at x; omega), by dsimp only; decide, by dsimp only; omega⟩ (.of (same_up hL _ _ upd_same))⟩

/-! ### rows spliced -/
theorem cut_to {xs : List V} {k : Nat} (h : k < xs.length) : cutV xs none (some ((k : Nat) : Int)) = xs.take k := by
  unfold cutV
  rw [HT.sIx_none, HT.sIx_nat, List.drop_zero, Nat.sub_zero, Nat.min_eq_left (Nat.le_of_lt h)]
theorem cut_from {xs : List V} {k : Nat} (h : k < xs.length) : cutV xs (some (((k : Nat) : Int) + 1)) none = xs.drop (k + 1) := by
  unfold cutV
  rw [HT.sIx_none, show ((k : Nat) : Int) + 1 = ((k + 1 : Nat) : Int) by omega, HT.sIx_nat, Nat.min_eq_left h]
  exact List.take_of_length_le (by rw [List.length_drop]; exact Nat.le_refl _)
theorem splice {K : PySem.W.Frag} {σ : L2.St} {H : Hp} {Q : VK} {tm : TE} {a : Addr} {k : Nat} {row mid : List Pc} (e1 : σ[1]? = some (some (.ref a))) (e3 : σ[3]? = some (some (.int (k : Nat)))) (ha : RowL K H a row) (hk : k < row.length) (hl : row.length ≤ 8) (hm2 : mid.length ≤ 8)
    (hm : ∀ (H' : Hp) (R : VK), Same H H' → (∀ H2 L2 ms, Same H' H2 → H2 L2 = some (.lst ms) → RowV K H2 ms mid → R (.ref L2) H2) → tm σ H' R)
    (q : ∀ H' L, Same H H' → H L = none → RowL K H' L (row.take k ++ mid ++ row.drop (k + 1)) → Q (.ref L) H') :
    tOp rCat (tOp rCat (tSl (rSlL K) (tVar 1) tNoPart (tPart (tVar 3))) tm) (tSl (rSlL K) (tVar 1) (tPart (tOp (rI0 fun i j => .int (i + j)) (tVar 3) (tC (.int 1)))) tNoPart) σ H Q := by
  obtain ⟨us, hu, hrow⟩ := ha
  have hn := Paired.len hrow
  have big : ∀ n : Nat, n ≤ 32 → n ≤ sizeLine := fun n h => Nat.le_trans h (by decide)
  refine ⟨_, e1, _, e3, _, rfl, a, us, rfl, .of hu, fun L1 h1 => ?_⟩
  rw [cut_to (by omega)]
  refine hm _ _ (same_up h1) fun H2 L2 ms s2 hms hmid => ?_
  have u1 := s2 _ _ (upd_same (H := H) (a := L1) (o := .lst (us.take k)))
  have n2 := Paired.len hmid
  refine ⟨L1, L2, _, _, rfl, rfl, u1, hms, big _ (by rw [List.length_take]; omega), fun L3 h3 => ?_⟩
  have s0 : Same H H2 := (same_up h1).trans s2
  have s3 := s0.up (o := .lst (us.take k ++ ms)) h3
  refine ⟨_, e1, _, e3, _, _, rfl, rfl, _, rfl, a, us, rfl, .of (s3 _ _ hu), fun L4 h4 => ?_⟩
  rw [cut_from (by omega)]
  refine ⟨L3, L4, _, _, rfl, rfl, same_up h4 _ _ upd_same, upd_same, big _ (by rw [List.length_append, List.length_take, List.length_drop]; omega), fun L5 h5 => ?_⟩
  have s4 := s3.up (o := .lst (us.drop (k + 1))) h4
  have s5 := s4.up (o := .lst (us.take k ++ ms ++ us.drop (k + 1))) h5
  refine q _ L5 s5 (none_of s4 h5) ⟨_, upd_same, ?_⟩
  have r0 := RowV.same hrow s5
  have m0 : RowV K (upd (upd (upd H2 L3 (.lst (us.take k ++ ms))) L4 (.lst (us.drop (k + 1)))) L5 (.lst (us.take k ++ ms ++ us.drop (k + 1)))) ms mid := RowV.same (RowV.same (RowV.same hmid (same_up h3)) (same_up h4)) (same_up h5)
  exact Paired.app (Paired.app (Paired.take' k r0) m0) (Paired.drop' (k + 1) r0)
end
end K13

namespace K13
open PySem PySem.Spec PyProof.Rows L2

/-! ### the law's mates -/
def spMate (K : PySem.W.Frag) : Sp := fun vs H Q _ => ∃ (c a : Addr) (row : List Pc), vs = [.ref c, .ref a] ∧ CupAt H c ∧ a ≠ c ∧ RowL K H a row ∧ OkR row ∧ 1 ≤ row.length ∧ row.length ≤ 4 ∧
  ∀ H' L row', But c H H' → CupAt H' c → L ≠ c → RowL K H' L row' → OkR row' → 1 ≤ row'.length → row'.length ≤ 8 → Q (.ref L) H'
abbrev s_law_mate : Stmt := top 51
abbrev mateN : List Str := ["_law_cup_here", "_law_row_here", "_law_way", "_law_at", "_law_word", "_law_ohms", "_law_part", "_law_one", "_law_two"]
theorem sc_law_mate : FnScope mateN ["_law_cup_here", "_law_row_here"] (defScope s_law_mate) := ⟨rfl, rfl, rfl, by decide +kernel, rfl, by decide +kernel, by decide +kernel⟩
/-- where the mate's ways part -/
def MS (c a : Addr) (row : List Pc) (H : Hp) : L2.St → Hp → Prop := fun σ' H' => ∃ (way o : Int) (k : Nat) (bo : Bool) (x6 x7 x8 : Option V),
  σ' = [some (.ref c), some (.ref a), some (.int way), some (.int (k : Nat)), some (.str (wd bo)), some (.int o), x6, x7, x8] ∧ But c H H' ∧ CupAt H' c ∧ 0 ≤ way ∧ way < 6 ∧ row[k]? = some (bo, o)
theorem not_rung : ¬ V.str (wd true) = V.str "rung" := by decide +kernel
theorem none_ne {H : Hp} {c L : Addr} (h : CupAt H c) (n : H L = none) : L ≠ c := fun z => by
  obtain ⟨_, e⟩ := h.lst
  rw [z, e] at n
  cases n
theorem ok_splice {row mid : List Pc} (h : OkR row) (hm : OkR mid) (k : Nat) : OkR (row.take k ++ mid ++ row.drop (k + 1)) := fun p hp => by
  rcases List.mem_append.mp hp with z | z
  · rcases List.mem_append.mp z with z | z
    · exact h p (List.mem_of_mem_take z)
    · exact hm p z
  · exact h p (List.mem_of_mem_drop z)
theorem len_splice {row mid : List Pc} {k : Nat} (hk : k < row.length) : (row.take k ++ mid ++ row.drop (k + 1)).length = row.length - 1 + mid.length := by
  rw [List.length_append, List.length_append, List.length_take, List.length_drop]
  omega
section
variable {P : Program} {w : World} {K : PySem.W.Frag} {mg : Str → Option Value} {base : Heap}
theorem ok_law_mate (T : Txt K mg) (D : Df K mg "_law_mate" s_law_mate ["_law_cup_here", "_law_row_here"]) (o__law_sip : Ok P w K mg base 1 "_law_sip" ["_law_cup_here", "_law_many"] spSip) (o__law_row : Ok P w K mg base 3 "_law_row" ["_law_cup_here", "_law_most"] (spLawRow K)) :
    Ok P w K mg base 4 "_law_mate" ["_law_cup_here", "_law_row_here"] (spMate K) := by
  refine D.ok sc_law_mate (fun vs H Q E h => ?_) (fun f cdv A outer s H vs Q E hr h => ?_)
  · obtain ⟨c, a, row, rfl, _⟩ := h
    rfl
  · obtain ⟨c, a, row, rfl, hc, nac, ha, okr, l1, l4, q⟩ := h
    refine ⟨_, (pss_cons (ps_par (i := 2) (j := 3) rfl sc_law_mate.nd rfl rfl (by decide) rfl rfl (pa_cons (pe_cl o__law_sip (hr.mono (by decide)) (pa_cons (pv 0) (pa_cons pe_int pa_nil))) (pa_cons (pe_cl o__law_sip (hr.mono (by decide)) (pa_cons (pv 0) (pa_cons (pe_callB call_len_seq (by rfl) T.len b_len (pa_cons (pv 1) pa_nil)) pa_nil))) pa_nil)) (by rfl))
      (Evl.pss_cut (ps_asg (pe_ix ix_list (pv 1) (pv 3) (fun _ _ => rfl)) (pg_tup rfl (pgs_cons (pg_name (i := 4) sc_law_mate.nd rfl (Or.inl rfl)) (pgs_cons (pg_name (i := 5) sc_law_mate.nd rfl (Or.inl rfl)) pgs_nil))))
      (Evl.pss_cut (ps_if (PW.pt (pw_and (pt_cmpR op_eq (pv 2) pe_int (nomark _)) (pw_and (pt_cmpR op_gt (pv 5) pe_int (nomark _)) (pw_and (pt_cmpR op_eq (pv 4) pe_str (nomark _)) (pw_and1 (pt_cmpR op_lt (pe_callB call_len_seq (by rfl) T.len b_len (pa_cons (pv 1) pa_nil)) pe_int (nomark _))))))) (pss_cons (ps_set (i := 6) sc_law_mate.nd rfl (Or.inl rfl) (pe_op op_add pe_int (pe_cl o__law_sip (hr.mono (by decide)) (pa_cons (pv 0) (pa_cons (pe_op op_sub (pv 5) pe_int) pa_nil)))))
        (pss_one (ps_ret (pe_op op_cat (pe_op op_cat (pe_slice sl_list (pv 1) po_none (po_some (pv 3))) (pe_lst (pa_cons (pe_tup (pa_cons pe_str (pa_cons (pv 6) pa_nil))) (pa_cons (pe_tup (pa_cons pe_str (pa_cons (pe_op op_sub (pv 5) (pv 6)) pa_nil))) pa_nil)))) (pe_slice sl_list (pv 1) (po_some (pe_op op_add (pv 3) pe_int)) po_none))))) pss_nil)
      (Evl.pss_cut (ps_if (PW.pt (pw_and (pt_cmpR op_lt (pv 2) pe_int (nomark _)) (pw_and (pt_cmpR op_eq (pv 4) pe_str (nomark _)) (pw_and1 (pt_cmpR op_lt (pe_callB call_len_seq (by rfl) T.len b_len (pa_cons (pv 1) pa_nil)) pe_int (nomark _)))))) (pss_one (ps_for PassesOwn.never rfl (pi_range2 (by rfl) T.range (pa_cons pe_int (pa_cons pe_int pa_nil))) (pg_name (i := 7) sc_law_mate.nd rfl (Or.inl rfl)) (pss_one (ps_for PassesOwn.never rfl (pi_range2 (by rfl) T.range (pa_cons pe_int (pa_cons pe_int pa_nil))) (pg_name (i := 8) sc_law_mate.nd rfl (Or.inl rfl)) (pss_one (ps_if (pt_cmpR op_eq (pe_op op_mul (pv 7) (pv 8)) (pe_op op_mul (pv 5) (pe_op op_add (pv 7) (pv 8))) (nomark _)) (pss_one (ps_ret (pe_op op_cat (pe_op op_cat (pe_slice sl_list (pv 1) po_none (po_some (pv 3))) (pe_lst (pa_cons (pe_tup (pa_cons pe_str (pa_cons (pv 7) pa_nil))) (pa_cons (pe_tup (pa_cons pe_str (pa_cons (pv 8) pa_nil))) pa_nil)))) (pe_slice sl_list (pv 1) (po_some (pe_op op_add (pv 3) pe_int)) po_none)))) pss_nil)))))) pss_nil)
      (Evl.pss_cut (ps_if (pt_cmpR op_eq (pv 2) pe_int (nomark _)) (pss_one (ps_ret (pe_revL (pv 1)))) pss_nil)
      (Evl.pss_cut (ps_if (PW.pt (pw_and (pt_cmpR op_eq (pv 2) pe_int (nomark _)) (pw_and1 (pt_cmpR op_lt (pe_callB call_len_seq (by rfl) T.len b_len (pa_cons (pv 1) pa_nil)) pe_int (nomark _))))) (pss_one (ps_ret (pe_op op_cat (pe_lst (pa_cons (pe_tup (pa_cons pe_str (pa_cons (pv 5) pa_nil))) pa_nil)) (pv 1)))) pss_nil)
      (pss_one (ps_ret (pe_ifExp (pt_cmpR op_lt (pv 2) pe_int (nomark _)) (pe_op op_cat (pe_op op_cat (pe_slice sl_list (pv 1) po_none (po_some (pv 3))) (pe_lst (pa_cons (pe_tup (pa_cons (pv 4) (pa_cons (pe_op op_add pe_int (pe_op op_mod (pe_callTy call_int1 (by rfl) T.int b_int (pa_cons (pv 5) pa_nil)) pe_int)) pa_nil))) pa_nil))) (pe_slice sl_list (pv 1) (po_some (pe_op op_add (pv 3) pe_int)) po_none)) (pe_cl o__law_row (hr.mono (by decide)) (pa_cons (pv 0) (pa_cons pe_int pa_nil)))))))))))), ?_⟩
    have one : 1 ≤ sizeLine := by decide
    have two : 2 ≤ sizeLine := by decide
    -- a spliced row, returned
    have fin : ∀ (H' : Hp) (k : Nat) (mid : List Pc), But c H H' → CupAt H' c → k < row.length → OkR mid → 1 ≤ mid.length → mid.length ≤ 2 → ∀ H2 L, Same H' H2 → H' L = none → RowL K H2 L (row.take k ++ mid ++ row.drop (k + 1)) → Q (.ref L) H2 :=
      fun H' k mid b cu hk om m1 m2 H2 L s2 hn hrow => q H2 L _ (b.trans (.of s2)) (cu.same s2) (none_ne cu hn) hrow (ok_splice okr om k) (by rw [len_splice hk]; omega) (by rw [len_splice hk]; omega)
    have at_ : ∀ {H' : Hp}, But c H H' → RowL K H' a row := fun b => ha.but b hc.lst nac
    refine ⟨_, rfl, c, 6, rfl, hc, by decide, by decide, fun H1 way b1 cu1 w0 w6 => ?_⟩
    obtain ⟨us1, hu1, hrow1⟩ := at_ b1
    have n1 := Paired.len hrow1
    refine ⟨_, rfl, _, rfl, a, _, rfl, .inl (.of hu1), c, _, rfl, cu1, by omega, by omega, fun H2 z b2 cu2 z0 zn => ⟨_, _, rfl, ?_⟩⟩
    obtain ⟨k, rfl⟩ := Int.eq_ofNat_of_zero_le z0
    have b12 := b1.trans b2
    obtain ⟨us2, hu2, hrow2⟩ := at_ b12
    have n2 := Paired.len hrow2
    have hk : k < row.length := by omega
    obtain ⟨y, hy⟩ : ∃ y, us2[k]? = some y := ⟨_, List.getElem?_eq_getElem (by omega)⟩
    obtain ⟨⟨bo, o⟩, hp, t, rfl, ht⟩ := Paired.of_get hrow2 hy
    refine ⟨MS c a row H, ⟨_, rfl, _, rfl, a, _, _, _, rfl, rfl, .of hu2, atI_nat hy, t, _, rfl, ht, rfl, _, _, rfl, _, _, rfl, rfl, way, o, k, bo, none, none, none, rfl, b12, cu2, w0, w6, hp⟩, ?_⟩
    rintro σ H' ⟨way, o, k, bo, x6, x7, x8, rfl, b, cu, w0, w6, hp⟩
    refine ⟨MS c a row H, ?_, ?_⟩
    · -- a rail parted
      have okp : OkP (bo, o) := okr _ (List.mem_of_getElem? hp)
      have hk : k < row.length := (List.getElem?_eq_some_iff.mp hp).1
      have hM : MS c a row H [some (.ref c), some (.ref a), some (.int way), some (.int (k : Nat)), some (.str (wd bo)), some (.int o), x6, x7, x8] H' := ⟨way, o, k, bo, x6, x7, x8, rfl, b, cu, w0, w6, hp⟩
      refine ⟨_, rfl, rfl, decide (V.int way = V.int 0), rfl, ?_⟩
      by_cases hw : way = 0
      · rw [decide_eq_true (congrArg V.int hw)]
        refine iteT ⟨_, rfl, _, _, rfl, rfl, decide (1 < o), rfl, ?_⟩
        by_cases ho : 1 < o
        · rw [decide_eq_true ho]
          refine iteT ?_
          cases bo with
          | false => exact ⟨_, rfl, rfl, false, congrArg V.bl (decide_eq_false not_rail), iteF hM⟩
          | true =>
            obtain ⟨us, hu, hrow⟩ := at_ b
            have n := Paired.len hrow
            refine ⟨_, rfl, rfl, true, congrArg V.bl (decide_eq_true rfl), iteT ?_⟩
            refine ⟨_, rfl, a, _, rfl, .inl (.of hu), _, _, rfl, rfl, true, congrArg V.bl (decide_eq_true (by omega)), iteT ?_⟩
            have o12 := okp.2
            dsimp only at o12
            refine ⟨_, rfl, _, rfl, _, _, rfl, rfl, c, o - 1, rfl, cu, by omega, by omega, fun H3 y b3 cu3 y0 y1 => ⟨_, _, rfl, rfl, ?_⟩⟩
            exact splice (mid := [(true, 1 + y), (true, o - (1 + y))]) rfl rfl (at_ (b.trans b3)) hk (by omega) (by show 2 ≤ 8; decide)
              (fun H4 R s4 kk => ⟨_, rfl, two, fun t1 h1 => ⟨_, rfl, _, rfl, _, _, rfl, rfl, two, fun t2 h2 => ⟨two, fun L hL => kk _ L _ (((same_up h1).up h2).up hL) upd_same
                (.cons ⟨t1, rfl, .of (same_up hL _ _ (same_up h2 _ _ upd_same))⟩ (.cons ⟨t2, rfl, .of (same_up hL _ _ upd_same)⟩ .nil))⟩⟩⟩)
              (fin H3 k _ (b.trans b3) cu3 hk (fun p hp => by
                rcases List.mem_cons.mp hp with z | z
                · rw [z]; exact ⟨by dsimp only; omega, by dsimp only; omega⟩
                · rw [List.mem_singleton.mp z]; exact ⟨by dsimp only; omega, by dsimp only; omega⟩) (by show 1 ≤ 2; decide) (by show 2 ≤ 2; decide))
        · rw [decide_eq_false ho]
          exact iteF hM
      · rw [decide_eq_false (fun z => hw (by injection z))]
        exact iteF hM
    rintro σ H' ⟨way, o, k, bo, x6, x7, x8, rfl, b, cu, w0, w6, hp⟩
    refine ⟨MS c a row H, ?_, ?_⟩
    · -- a rung parted
      have okp : OkP (bo, o) := okr _ (List.mem_of_getElem? hp)
      have hk : k < row.length := (List.getElem?_eq_some_iff.mp hp).1
      have hM : ∀ y7 y8 : Option V, MS c a row H [some (.ref c), some (.ref a), some (.int way), some (.int (k : Nat)), some (.str (wd bo)), some (.int o), x6, y7, y8] H' := fun y7 y8 => ⟨way, o, k, bo, x6, y7, y8, rfl, b, cu, w0, w6, hp⟩
      refine ⟨_, rfl, _, _, rfl, rfl, decide (way < 3), rfl, ?_⟩
      by_cases hw : way < 3
      · rw [decide_eq_true hw]
        refine iteT ?_
        cases bo with
        | true => exact ⟨_, rfl, rfl, false, congrArg V.bl (decide_eq_false not_rung), iteF (hM _ _)⟩
        | false =>
          obtain ⟨us, hu, hrow⟩ := at_ b
          have n := Paired.len hrow
          refine ⟨_, rfl, rfl, true, congrArg V.bl (decide_eq_true rfl), iteT ?_⟩
          refine ⟨_, rfl, a, _, rfl, .inl (.of hu), _, _, rfl, rfl, true, congrArg V.bl (decide_eq_true (by omega)), iteT ?_⟩
          have o1 := okp.1
          have o12 := okp.2
          dsimp only at o1 o12
          refine ⟨1, 13, rfl, by decide, ?_⟩
          refine for_range (fun i σ H2 => ∃ y7 y8 : Option V, σ = [some (.ref c), some (.ref a), some (.int way), some (.int (k : Nat)), some (.str (wd false)), some (.int o), x6, y7, y8] ∧ H2 = H') ⟨x7, x8, rfl, rfl⟩ (fun i σ H2 hi hq => ?_) (fun σ H2 hq => ?_)
          · obtain ⟨y7, y8, rfl, rfl⟩ := hq
            have hi : i < 12 := hi
            refine ⟨1, 13, rfl, by decide, ?_⟩
            refine for_range (fun j σ H3 => ∃ y8 : Option V, σ = [some (.ref c), some (.ref a), some (.int way), some (.int (k : Nat)), some (.str (wd false)), some (.int o), x6, some (.int (1 + i)), y8] ∧ H3 = H2) ⟨y8, rfl, rfl⟩ (fun j σ H3 hj hq => ?_) (fun σ H3 hq => ?_)
            · obtain ⟨y8', rfl, rfl⟩ := hq
              have hj : j < 12 := hj
              refine ⟨_, rfl, _, rfl, _, _, rfl, rfl, cm_l (by omega) (by omega), _, rfl, _, rfl, _, rfl, _, _, rfl, rfl, _, _, rfl, rfl, cm_l (by omega) (by omega), rfl, _, rfl, ?_⟩
              by_cases he : V.int ((1 + (i : Int)) * (1 + (j : Int))) = V.int (o * (1 + (i : Int) + (1 + (j : Int))))
              · rw [decide_eq_true he]
                refine iteT ?_
                exact splice (mid := [(false, 1 + (i : Int)), (false, 1 + (j : Int))]) rfl rfl (at_ b) hk (by omega) (by show 2 ≤ 8; decide)
                  (fun H4 R s4 kk => ⟨_, rfl, two, fun t1 h1 => ⟨_, rfl, two, fun t2 h2 => ⟨two, fun L hL => kk _ L _ (((same_up h1).up h2).up hL) upd_same
                    (.cons ⟨t1, rfl, .of (same_up hL _ _ (same_up h2 _ _ upd_same))⟩ (.cons ⟨t2, rfl, .of (same_up hL _ _ upd_same)⟩ .nil))⟩⟩⟩)
                  (fin _ k _ b cu hk (fun p hp => by
                    rcases List.mem_cons.mp hp with z | z
                    · rw [z]; exact ⟨by dsimp only; omega, by dsimp only; omega⟩
                    · rw [List.mem_singleton.mp z]; exact ⟨by dsimp only; omega, by dsimp only; omega⟩) (by show 1 ≤ 2; decide) (by show 2 ≤ 2; decide))
              · rw [decide_eq_false he]
                exact iteF ⟨_, rfl, rfl⟩
            · obtain ⟨y8', rfl, rfl⟩ := hq
              exact ⟨_, _, rfl, rfl⟩
          · obtain ⟨y7, y8, rfl, rfl⟩ := hq
            exact hM _ _
      · rw [decide_eq_false hw]
        exact iteF (hM _ _)
    rintro σ H' ⟨way, o, k, bo, x6, x7, x8, rfl, b, cu, w0, w6, hp⟩
    obtain ⟨us, hu, hrow⟩ := at_ b
    have n := Paired.len hrow
    refine ⟨MS c a row H, ?_, ?_⟩
    · -- the row turned
      refine ⟨_, rfl, rfl, decide (V.int way = V.int 3), rfl, ?_⟩
      by_cases hw : way = 3
      · rw [decide_eq_true (congrArg V.int hw)]
        refine iteT ⟨_, rfl, a, us, rfl, .of hu, fun L hL => q _ L row.reverse (b.up hL) (cu.same (same_up hL)) (none_ne cu hL) ⟨_, upd_same, RowV.same (Paired.rev hrow) (same_up hL)⟩ (fun p hp => okr p (List.mem_reverse.mp hp)) ?_ ?_⟩
        · rw [List.length_reverse]
          exact l1
        · rw [List.length_reverse]
          omega
      · rw [decide_eq_false (fun z => hw (by injection z))]
        exact iteF ⟨way, o, k, bo, x6, x7, x8, rfl, b, cu, w0, w6, hp⟩
    rintro σ H' ⟨way, o, k, bo, x6, x7, x8, rfl, b, cu, w0, w6, hp⟩
    have okp : OkP (bo, o) := okr _ (List.mem_of_getElem? hp)
    have hk : k < row.length := (List.getElem?_eq_some_iff.mp hp).1
    have o1 := okp.1
    have o12 := okp.2
    dsimp only at o1 o12
    obtain ⟨us, hu, hrow⟩ := at_ b
    have n := Paired.len hrow
    refine ⟨MS c a row H, ?_, ?_⟩
    · -- a rung ahead
      refine ⟨_, rfl, rfl, decide (V.int way = V.int 4), rfl, ?_⟩
      by_cases hw : way = 4
      · rw [decide_eq_true (congrArg V.int hw)]
        refine iteT ⟨_, rfl, a, _, rfl, .inl (.of hu), _, _, rfl, rfl, true, congrArg V.bl (decide_eq_true (by omega)), iteT ?_⟩
        refine ⟨_, rfl, two, fun t h1 => ⟨one, fun L hL => ⟨_, rfl, L, a, _, _, rfl, rfl, upd_same, same_up hL _ _ (same_up h1 _ _ hu), Nat.le_trans (show 1 + us.length ≤ 8 by omega) (by decide), fun L2 h2 => ?_⟩⟩⟩
        have s5 := ((same_up (o := .tup [.str "rung", .int o]) h1).up (o := .lst [.ref t]) hL).up (o := .lst ([.ref t] ++ us)) h2
        refine q _ L2 ((false, o) :: row) (b.trans (.of s5)) (cu.same s5) (none_ne cu (none_of ((same_up h1).up hL) h2)) ⟨_, upd_same, ?_⟩ (fun p hp => ?_) (by rw [List.length_cons]; omega) (by rw [List.length_cons]; omega)
        · exact .cons ⟨t, rfl, .of (same_up h2 _ _ (same_up hL _ _ upd_same))⟩ (RowV.same hrow s5)
        · rcases List.mem_cons.mp hp with z | z
          · rw [z]
            exact ⟨o1, o12⟩
          · exact okr p z
      · rw [decide_eq_false (fun z => hw (by injection z))]
        exact iteF ⟨way, o, k, bo, x6, x7, x8, rfl, b, cu, w0, w6, hp⟩
    rintro σ H' ⟨way, o, k, bo, x6, x7, x8, rfl, b, cu, w0, w6, hp⟩
    have okp : OkP (bo, o) := okr _ (List.mem_of_getElem? hp)
    have hk : k < row.length := (List.getElem?_eq_some_iff.mp hp).1
    refine ⟨_, rfl, _, _, rfl, rfl, decide (way < 5), rfl, ?_⟩
    by_cases hw : way < 5
    · rw [decide_eq_true hw]
      refine iteT ?_
      exact splice (mid := [(bo, 1 + o % 12)]) rfl rfl (at_ b) hk (by omega) (by show 1 ≤ 8; decide)
        (fun H4 R s4 kk => ⟨_, rfl, _, rfl, .inl ⟨_, rfl, _, _, rfl, rfl, (by show (0 : Int) < 12; decide), _, _, rfl, rfl, two, fun t h1 => ⟨one, fun L hL => kk _ L _ ((same_up h1).up hL) upd_same (.cons ⟨t, rfl, .of (same_up hL _ _ upd_same)⟩ .nil)⟩⟩⟩)
        (fin _ k _ b cu hk (fun p hp => by
          rw [List.mem_singleton.mp hp]
          exact ⟨by dsimp only; omega, by dsimp only; omega⟩) (by show 1 ≤ 1; decide) (by show 1 ≤ 2; decide))
    · rw [decide_eq_false hw]
      refine iteF ⟨_, rfl, c, 4, rfl, cu, by decide, by decide, fun H2 L row2 b2 cu2 nL hrow2 ok2 m1 m4 => ?_⟩
      exact q H2 L row2 (b.trans b2) cu2 nL hrow2 ok2 m1 (by omega)
end
end K13

namespace K13
open PySem PySem.Spec PyProof.Rows L2

/-! ### the law's own answer -/
def endsL : List (Int × Int) := [(0, 1), (1, 1), (1, 0)]
theorem fronts_map (row : List Pc) : fronts row = endsL.map (front row) := rfl
theorem ends_ok {v : Int × Int} (h : v ∈ endsL) : Pr v ∧ v.1 ≤ 1 ∧ v.2 ≤ 1 := by
  rcases List.mem_cons.mp h with z | z
  · rw [z]; exact ⟨pr01, by decide, by decide⟩
  · rcases List.mem_cons.mp z with z | z
    · rw [z]; exact ⟨pr11, by decide, by decide⟩
    · rw [List.mem_singleton.mp z]; exact ⟨pr10, by decide, by decide⟩
def spSame (K : PySem.W.Frag) : Sp := fun vs H Q _ => ∃ (a b : Addr) (one two : List Pc), vs = [.ref a, .ref b] ∧ RowL K H a one ∧ RowL K H b two ∧ OkR one ∧ OkR two ∧ one.length ≤ 8 ∧ two.length ≤ 8 ∧ ∀ H', Same H H' → Q (.bl (decide (fronts one = fronts two))) H'
def spRight : Sp := fun vs H Q _ => ∃ c : Addr, vs = [.ref c] ∧ CupAt H c ∧ ∀ H', But c H H' → Q (.bl true) H'
def spLaw (K : PySem.W.Frag) : Sp := fun vs H Q _ => ∃ (a : Addr) (ns : List Int), vs = [.ref a] ∧ SqL K H a (ns.map V.int) ∧ ∀ H', Q (.bl true) H'
abbrev s_law_same : Stmt := top 52
abbrev s_law_right : Stmt := top 53
abbrev s_law : Stmt := top 54
abbrev sameN : List Str := ["_law_one", "_law_two", "_law_ends", "_law_end_here"]
abbrev rightN : List Str := ["_law_cup_here", "_law_turn", "_law_one", "_law_two", "_law_mine", "_law_mate_here", "_law_due", "_law_told", "_law_again", "_law_end_here"]
abbrev lawN : List Str := ["_law_script", "_law_told", "_law_spot"]
theorem sc_law_same : FnScope sameN ["_law_one", "_law_two"] (defScope s_law_same) := ⟨rfl, rfl, rfl, by decide +kernel, rfl, by decide +kernel, by decide +kernel⟩
theorem sc_law_right : FnScope rightN ["_law_cup_here"] (defScope s_law_right) := ⟨rfl, rfl, rfl, by decide +kernel, rfl, by decide +kernel, by decide +kernel⟩
theorem sc_law : FnScope lawN ["_law_script"] (defScope s_law) := ⟨rfl, rfl, rfl, by decide +kernel, rfl, by decide +kernel, by decide +kernel⟩
/-- one comprehension: the fronts of a row -/
theorem comp_fronts {K : PySem.W.Frag} {a0 a1 a L : Addr} {H : Hp} {us : List V} {row : List Pc} {x : Option V} {Q : VK} {j : Nat} (hj : ∀ z : Option V, ([some (.ref a0), some (.ref a1), some (.ref L), z] : L2.St)[j]? = some (some (.ref a)))
    (ha : RowL K H a row) (okr : OkR row) (l : row.length ≤ 8) (hL : H L = some (.lst us)) (hu : PrsV K H us endsL) (q : ∀ H' D vs, Same H H' → H' D = some (.lst vs) → PrsV K H' vs (fronts row) → Q (.ref D) H') :
    tLc (iList K (tVar 2)) (gName 3) tYes (tCall (spFront K) [] E0 (tCons (tVar j) (tCons (tVar 3) tNil))) [3] [some (.ref a0), some (.ref a1), some (.ref L), x] H Q := by
  refine ⟨_, rfl, L, rfl, ⟨us, .of hL⟩, fun D hD => ?_⟩
  refine lc_it (walk_list (xs := us)) (fun i H' => Same H H' ∧ ∃ vs, H' D = some (.lst vs) ∧ PrsV K H' vs ((fronts row).take i)) ⟨same_up hD, [], upd_same, .nil⟩ (fun i H' _ hp => .of (hp.1 _ _ hL)) (fun i y H1 H2 hi hp hy => ?_) (fun H' hp => ?_)
  · obtain ⟨rfl, hx⟩ := hy
    obtain ⟨sm, vs, hD', hrow⟩ := hp
    obtain ⟨v, hv, t, rfl, ht⟩ := Paired.of_get hu hx
    obtain ⟨pr, v1, v2⟩ := ends_ok (List.mem_of_getElem? hv)
    have hlen : vs.length ≤ 3 := by
      rw [Paired.len hrow, List.length_take]
      exact Nat.min_le_right _ _
    refine ⟨rfl, yesT ⟨_, hj _, _, rfl, a, t, row, v, rfl, ha.same sm, sm.sqT ht, okr, l, pr, v1, v2, fun H3 p s3 hp => ?_⟩⟩
    have e3 := s3 _ _ hD'
    refine ⟨vs, e3, Nat.lt_of_le_of_lt hlen (by decide), ?_, vs ++ [.ref p], upd_same, ?_⟩
    · intro b o hb
      rw [upd_ne (ne_of_none hb hD)]
      exact s3 _ _ (sm b o hb)
    · have et : (fronts row).take (i + 1) = (fronts row).take i ++ [front row v] := by
        rw [List.take_add_one, fronts_map, List.getElem?_map, hv]
        rfl
      rw [et]
      exact Paired.app (PrsV.but (PrsV.same hrow s3) but_upd ⟨_, e3⟩) (.cons ⟨p, rfl, But.sqT but_upd ⟨_, e3⟩ (.of hp)⟩ .nil)
  · obtain ⟨sm, vs, hD', hrow⟩ := hp
    rw [Paired.len hu] at hrow
    exact q H' D vs sm hD' hrow
section
variable {P : Program} {w : World} {K : PySem.W.Frag} {mg : Str → Option Value} {base : Heap}
theorem ok_law_same (D : Df K mg "_law_same" s_law_same ["_law_one", "_law_two"]) (o__law_front : Ok P w K mg base 2 "_law_front" ["_law_row_here", "_law_pair_here"] (spFront K)) : Ok P w K mg base 3 "_law_same" ["_law_one", "_law_two"] (spSame K) := by
  refine D.ok sc_law_same (fun vs H Q E h => ?_) (fun f cdv A outer s H vs Q E hr h => ?_)
  · obtain ⟨a, b, one, two, rfl, _⟩ := h
    rfl
  · obtain ⟨a, b, one, two, rfl, ha, hb, ok1, ok2, l1, l2, q⟩ := h
    refine ⟨_, (pss_cons (ps_set (i := 2) sc_law_same.nd rfl (Or.inl rfl) (pe_lst (pa_cons (pe_tup (pa_cons pe_int (pa_cons pe_int pa_nil))) (pa_cons (pe_tup (pa_cons pe_int (pa_cons pe_int pa_nil))) (pa_cons (pe_tup (pa_cons pe_int (pa_cons pe_int pa_nil))) pa_nil)))))
      (pss_one (ps_ret (pe_cmpR (op_eqD hr.units) (pe_lc (own := [("_law_end_here", 3)]) rfl sc_law_same.nd (pi_list (pv 2)) (blkOk_by (N := sameN) (sc := defScope s_law_same) (by decide +kernel)) (fun _ _ _ _ _ => (pg_name (i := 3) sc_law_same.nd rfl (Or.inl rfl))) (fun _ _ _ _ _ => pts_nil) (fun _ _ _ _ _ => (pe_cl o__law_front (hr.mono (by decide)) (pa_cons (pv 0) (pa_cons (pv 3) pa_nil)))))
        (pe_lc (own := [("_law_end_here", 3)]) rfl sc_law_same.nd (pi_list (pv 2)) (blkOk_by (N := sameN) (sc := defScope s_law_same) (by decide +kernel)) (fun _ _ _ _ _ => (pg_name (i := 3) sc_law_same.nd rfl (Or.inl rfl))) (fun _ _ _ _ _ => pts_nil) (fun _ _ _ _ _ => (pe_cl o__law_front (hr.mono (by decide)) (pa_cons (pv 1) (pa_cons (pv 3) pa_nil))))) (nomark _))))), ?_⟩
    have h2 : 2 ≤ sizeLine := by decide
    have h3 : 3 ≤ sizeLine := by decide
    refine ⟨h2, fun t1 n1 => ⟨h2, fun t2 n2 => ⟨h2, fun t3 n3 => ⟨h3, fun L hL => ?_⟩⟩⟩⟩
    have s0 := ((((same_up (o := .tup [.int 0, .int 1]) n1).up (o := .tup [.int 1, .int 1]) n2).up (o := .tup [.int 1, .int 0]) n3).up (o := .lst [.ref t1, .ref t2, .ref t3]) hL)
    dsimp only [tRet, tOp, gName, List.map]
    show tLc (iList K (tVar 2)) (gName 3) tYes (tCall (spFront K) [] E0 (tCons (tVar 0) (tCons (tVar 3) tNil))) [3] [some (.ref a), some (.ref b), some (.ref L), none] _ _
    refine comp_fronts (j := 0) (a0 := a) (a1 := b) (fun _ => rfl) (ha.same s0) ok1 l1 upd_same (.cons ⟨t1, rfl, .of (same_up hL _ _ (same_up n3 _ _ (same_up n2 _ _ upd_same)))⟩ (.cons ⟨t2, rfl, .of (same_up hL _ _ (same_up n3 _ _ upd_same))⟩ (.cons ⟨t3, rfl, .of (same_up hL _ _ upd_same)⟩ .nil))) (fun H1 D1 vs1 s1 e1 p1 => ?_)
    have eL := s1 _ _ (upd_same (H := upd (upd (upd H t1 (.tup [.int 0, .int 1])) t2 (.tup [.int 1, .int 1])) t3 (.tup [.int 1, .int 0])) (a := L) (o := .lst [.ref t1, .ref t2, .ref t3]))
    show tLc (iList K (tVar 2)) (gName 3) tYes (tCall (spFront K) [] E0 (tCons (tVar 1) (tCons (tVar 3) tNil))) [3] [some (.ref a), some (.ref b), some (.ref L), none] _ _
    refine comp_fronts (j := 1) (a0 := a) (a1 := b) (fun _ => rfl) (hb.same (s0.trans s1)) ok2 l2 eL (.cons ⟨t1, rfl, .of (s1 _ _ (same_up hL _ _ (same_up n3 _ _ (same_up n2 _ _ upd_same))))⟩ (.cons ⟨t2, rfl, .of (s1 _ _ (same_up hL _ _ (same_up n3 _ _ upd_same)))⟩ (.cons ⟨t3, rfl, .of (s1 _ _ (same_up hL _ _ upd_same))⟩ .nil))) (fun H2 D2 vs2 s2 e2 p2 => ?_)
    refine ⟨_, _, .lst (.of (s2 _ _ e1)) (dp_prs (PrsV.same p1 s2)), .lst (.of e2) (dp_prs p2), piL_shaped _, piL_shaped _, ?_⟩
    rw [piL_eqv]
    exact q H2 ((s0.trans s1).trans s2)
end
end K13

namespace K13
open PySem PySem.Spec PyProof.Rows L2

/-! ### the law's turns -/
def OkG (P : Program) (w : World) (K : PySem.W.Frag) (mg : Str → Option Value) (base : Heap) (k : Nat) (x : Str) (ps : List Str) (sp : Sp) : Prop :=
  ∃ f fd, FnG P w K mg base k f fd ps sp ∧ mg x = some (.ref f) ∧ PySem.W.keepIn K (.ref f) = true ∧ Binds K fd ps []
theorem bs_len (d : Bool) : (reprBs [d, d, !d, d]).length ≤ sizeLine := by
  cases d with
  | true => decide +kernel
  | false => decide +kernel
theorem piD_shaped (v : Int × Int) : SeqAt.shaped (piD v) = true := by
  refine shp (by simp [piD, PyData.canLay0, PyData.canLayAll0]) ?_
  have h2 : (piD v).depth = 1 := by simp [piD, PyData.depth, PyData.depthAll]
  omega
theorem dp_pi {K : PySem.W.Frag} {H : Hp} {t : Addr} {v : Int × Int} (h : SqT K H t (pairV v)) : Dp K H (.ref t) (piD v) := .tup h (.cons (.int _) (.cons (.int _) .nil))
def s10 (c : Addr) (x1 x2 x3 x4 x5 x6 x7 x8 x9 : Option V) : L2.St := [some (.ref c), x1, x2, x3, x4, x5, x6, x7, x8, x9]
section
variable {P : Program} {w : World} {K : PySem.W.Frag} {mg : Str → Option Value} {base : Heap}
theorem Df.okG {x : Str} {st : Stmt} {N ps : List Str} {k : Nat} {sp : Sp} (D : Df K mg x st ps) (S : FnScope N ps (defScope st)) (len : ∀ vs H Q E, sp vs H Q E → vs.length = ps.length)
    (hbody : ∀ (f : Addr) (cdv : Value) (A : Around) (outer : List Env) (s : Shared) (H : Hp) (vs : List V) (Q : VK), A.guards = some [] → Room k (A.deeper (envOfC x (defScope st) s.heap.objs.size f cdv)) → sp vs H Q E0 →
      ∃ t, PSs (cxOf CX0 P w K mg base N x (defScope st) f cdv A outer s H E0).nox (defBody st) t ∧ t { nx := fun _ H' => Q .non H', rt := Q } (start N vs) H) : OkG P w K mg base (k + 1) x ps sp := by
  obtain ⟨f, fd, F, g, b⟩ := D
  exact ⟨f, fd, fnG_of F S len fun cdv A outer s H vs Q hg hr h => hbody f cdv A outer s H vs Q hg hr h, g, F.kp, b⟩
theorem ok_law_right (T : Txt K mg) (D : Df K mg "_law_right" s_law_right ["_law_cup_here"]) (o__law_row : Ok P w K mg base 3 "_law_row" ["_law_cup_here", "_law_most"] (spLawRow K)) (o__law_mate : Ok P w K mg base 4 "_law_mate" ["_law_cup_here", "_law_row_here"] (spMate K))
    (o__law_read : Ok P w K mg base 9 "_law_read" ["_law_row_here"] (spLawRead K T.cP)) (o__law_same : Ok P w K mg base 3 "_law_same" ["_law_one", "_law_two"] (spSame K)) (o__law_end : Ok P w K mg base 2 "_law_end" ["_law_cup_here"] (spEnd K))
    (oE : OkEq P w K mg base T) (oN : OkNums P w K mg base T) (oC : OkCall P w K mg base T) : OkG P w K mg base 10 "_law_right" ["_law_cup_here"] spRight := by
  obtain ⟨gE, fdE, ME, FE, bE⟩ := oE
  obtain ⟨pN, gN, fdN, MN, FN, bN⟩ := oN
  obtain ⟨gC, MC, FC⟩ := oC
  refine D.okG sc_law_right (fun vs H Q E h => ?_) (fun f cdv A outer s H vs Q hg hr h => ?_)
  · obtain ⟨c, rfl, _⟩ := h
    rfl
  · obtain ⟨c, rfl, hc, q⟩ := h
    have r6 : Room 6 (A.deeper (envOfC "_law_right" (defScope s_law_right) s.heap.objs.size f cdv)) := hr.mono (by decide)
    have r5 : Room 5 (A.deeper (envOfC "_law_right" (defScope s_law_right) s.heap.objs.size f cdv)) := hr.mono (by decide)
    refine ⟨_, (pss_cons (ps_for PassesOwn.never rfl (pi_range1 (by rfl) T.range (pa_cons pe_int pa_nil)) (pg_name (i := 1) sc_law_right.nd rfl (Or.inl rfl)) (pss_cons (ps_set (i := 2) sc_law_right.nd rfl (Or.inl rfl) (pe_cl o__law_row (hr.mono (by decide)) (pa_cons (pv 0) (pa_cons pe_int pa_nil))))
        (pss_cons (ps_set (i := 3) sc_law_right.nd rfl (Or.inl rfl) (pe_cl o__law_mate (hr.mono (by decide)) (pa_cons (pv 0) (pa_cons (pv 2) pa_nil))))
        (pss_cons (ps_par (i := 4) (j := 5) rfl sc_law_right.nd rfl rfl (by decide) rfl rfl (pa_cons (pe_cl o__law_read (hr.mono (by decide)) (pa_cons (pv 2) pa_nil)) (pa_cons (pe_cl o__law_read (hr.mono (by decide)) (pa_cons (pv 3) pa_nil)) pa_nil)) (by rfl))
        (pss_cons (ps_set (i := 6) sc_law_right.nd rfl (Or.inl rfl) (pe_cl o__law_same (hr.mono (by decide)) (pa_cons (pv 2) (pa_cons (pv 3) pa_nil))))
        (pss_cons (ps_set (i := 7) sc_law_right.nd rfl (Or.inl rfl) (pe_lst (pa_cons (pe_cmpR (op_eqOwn FE r5 ME bE) (pv 4) (pv 5) (nomark _)) (pa_cons (pe_cmpR (op_eqOwn FE r5 ME bE) (pv 5) (pv 4) (nomark _)) (pa_cons (pe_cmpR (op_neOwn FE r6 ME T.ne bE) (pv 4) (pv 5) (nomark _))
          (pa_cons (pe_cmpR (op_eqD hr.units) (pe_prop (pv 4) T.lP MN FN (hr.mono (by decide)) bN .nil pass0 rfl) (pe_prop (pv 5) T.lP MN FN (hr.mono (by decide)) bN .nil pass0 rfl) (nomark _)) pa_nil))))))
        (pss_cons (ps_if (pt_cmpR op_ne (pe_callB (call_reprBs hr hg) (by rfl) T.repr b_repr (pa_cons (pv 7) pa_nil)) (pe_callB (call_reprBs hr hg) (by rfl) T.repr b_repr (pa_cons (pe_lst (pa_cons (pv 6) (pa_cons (pv 6) (pa_cons (pe_not (pv 6)) (pa_cons (pv 6) pa_nil))))) pa_nil)) (nomark _)) (pss_one (ps_ret pe_bl)) pss_nil)
        (pss_one (ps_for PassesOwn.never rfl (pi_range1 (by rfl) T.range (pa_cons pe_int pa_nil)) (pg_name (i := 8) sc_law_right.nd rfl (Or.inl rfl)) (pss_cons (ps_set (i := 9) sc_law_right.nd rfl (Or.inl rfl) (pe_cl o__law_end (hr.mono (by decide)) (pa_cons (pv 0) pa_nil)))
          (pss_one (ps_if (PW.pt (pw_and (pt_val (pv 6)) (pw_and1 (pt_cmpR (op_neD hr.units) (StX.pe_callO (pv 4) MC FC (hr.mono (by decide)) pass0 (pa_cons (pv 9) pa_nil)) (StX.pe_callO (pv 5) MC FC (hr.mono (by decide)) pass0 (pa_cons (pv 9) pa_nil)) (nomark _))))) (pss_one (ps_ret pe_bl)) pss_nil))))))))))))
      (pss_one (ps_ret pe_bl))), ?_⟩
    refine ⟨8, rfl, by decide, by decide, ?_⟩
    refine for_range (fun i σ H' => ∃ x1 x2 x3 x4 x5 x6 x7 x8 x9 : Option V, σ = s10 c x1 x2 x3 x4 x5 x6 x7 x8 x9 ∧ But c H H' ∧ CupAt H' c) ⟨none, none, none, none, none, none, none, none, none, rfl, But.refl c H, hc⟩ (fun i σ H0 hi hp => ?_) (fun σ H' hp => ?_)
    · obtain ⟨x1, x2, x3, x4, x5, x6, x7, x8, x9, rfl, b0, cu0⟩ := hp
      refine ⟨_, rfl, c, 4, rfl, cu0, by decide, by decide, fun H1 L1 one b1 cu1 nc1 hr1 ok1 m1 m4 => ?_⟩
      refine ⟨_, rfl, _, rfl, c, L1, one, rfl, cu1, nc1, hr1, ok1, m1, by omega, fun H2 L2 two b2 cu2 nc2 hr2 ok2 k1 k8 => ?_⟩
      have hr1 : RowL K H2 L1 one := hr1.but b2 cu1.lst nc1
      have m8 : one.length ≤ 8 := by omega
      refine ⟨_, rfl, L1, one, rfl, hr1, ok1, m1, m8, fun H3 p1 s3 pa1 => ?_⟩
      refine ⟨_, rfl, L2, two, rfl, hr2.same s3, ok2, k1, k8, fun H4 p2 s4 pa2 => ⟨_, _, rfl, ?_⟩⟩
      have s24 := s3.trans s4
      have pa1 := pa1.same s4
      refine ⟨_, rfl, _, rfl, L1, L2, one, two, rfl, hr1.same s24, hr2.same s24, ok1, ok2, m8, k8, fun H5 s5 => ?_⟩
      have ed : decide (fronts one = fronts two) = decide (nums one = nums two) := decide_eq_decide.mpr (fronts_iff ok1 ok2 m8 k8)
      rw [ed]
      have pa1 := pa1.same s5
      have pa2 := pa2.same s5
      obtain ⟨dx1, ra1, ta1, e1, _⟩ := id pa1
      obtain ⟨dx2, ra2, ta2, e2, _⟩ := id pa2
      refine ⟨_, rfl, _, rfl, p1, p2, dx1, dx2, _, _, rfl, rfl, e1, e2, p1, p2, one, two, rfl, pa1, pa2, ok1, ok2, m8, k8, fun H6 s6 => ⟨_, rfl, ?_⟩⟩
      refine ⟨_, rfl, _, rfl, p2, p1, dx2, dx1, _, _, rfl, rfl, s6 _ _ e2, s6 _ _ e1, p2, p1, two, one, rfl, pa2.same s6, pa1.same s6, ok2, ok1, k8, m8, fun H7 s7 => ⟨_, rfl, ?_⟩⟩
      have s57 := s6.trans s7
      refine ⟨_, rfl, _, rfl, p1, p2, dx1, dx2, _, _, rfl, rfl, s57 _ _ e1, s57 _ _ e2, p1, p2, one, two, rfl, pa1.same s57, pa2.same s57, ok1, ok2, m8, k8, fun H8 s8 => ⟨_, rfl, ?_⟩⟩
      have s58 := s57.trans s8
      refine ⟨_, rfl, p1, dx1, _, rfl, s58 _ _ e1, p1, one, rfl, pa1.same s58, ok1, m8, fun H9 q1 us1 s9 h1 n1 => ?_⟩
      have s59 := s58.trans s9
      refine ⟨_, rfl, p2, dx2, _, rfl, s59 _ _ e2, p2, two, rfl, pa2.same s59, ok2, k8, fun H10 q2 us2 s10' h2 n2 => ?_⟩
      refine ⟨_, _, .tup (s10'.sqT h1) (dp_prs (PrsV.same n1 s10')), .tup h2 (dp_prs n2), piT_shaped _, piT_shaped _, ?_⟩
      rw [piT_eqv]
      refine ⟨by show 4 ≤ sizeLine; decide, fun Lt hLt => ?_⟩
      have ed2 : decide (nums two = nums one) = decide (nums one = nums two) := decide_eq_decide.mpr ⟨Eq.symm, Eq.symm⟩
      have s510 := s59.trans s10'
      have s511 : Same H5 _ := s510.up (o := .lst [V.bl (false != decide (nums one = nums two)), V.bl (false != decide (nums two = nums one)), V.bl (true != decide (nums one = nums two)), V.bl (decide (nums one = nums two))]) hLt
      have hbs : ([V.bl (false != decide (nums one = nums two)), V.bl (false != decide (nums two = nums one)), V.bl (true != decide (nums one = nums two)), V.bl (decide (nums one = nums two))] : List V) = [decide (nums one = nums two), decide (nums one = nums two), !decide (nums one = nums two), decide (nums one = nums two)].map V.bl := by
        rw [ed2, Bool.false_bne, Bool.true_bne]
        rfl
      refine ⟨_, rfl, Lt, [decide (nums one = nums two), decide (nums one = nums two), !decide (nums one = nums two), decide (nums one = nums two)], rfl, .of (by rw [← hbs]; exact upd_same), bs_len _, ?_⟩
      refine ⟨_, rfl, _, rfl, _, rfl, _, rfl, _, rfl, by show 4 ≤ sizeLine; decide, fun Lu hLu => ?_⟩
      refine ⟨Lu, [decide (nums one = nums two), decide (nums one = nums two), !decide (nums one = nums two), decide (nums one = nums two)], rfl, .of upd_same, bs_len _, ?_⟩
      refine ⟨rfl, false, congrArg V.bl (by rw [decide_eq_true rfl]; rfl), iteF ?_⟩
      have s512 := s511.up (o := .lst [V.bl (decide (nums one = nums two)), V.bl (decide (nums one = nums two)), V.bl (!decide (nums one = nums two)), V.bl (decide (nums one = nums two))]) hLu
      have pa1 := pa1.same s512
      have pa2 := pa2.same s512
      have bB : But c H _ := (((b0.trans b1).trans b2).trans (.of (s24.trans s5))).trans (.of s512)
      have cuB := ((cu2.same s24).same s5).same s512
      refine ⟨3, rfl, by decide, by decide, ?_⟩
      refine for_range (fun j σ H' => ∃ x8 x9 : Option V, σ = s10 c (some (.int (0 + (i : Int)))) (some (.ref L1)) (some (.ref L2)) (some (.ref p1)) (some (.ref p2)) (some (.bl (decide (nums one = nums two)))) (some (.ref Lt)) x8 x9 ∧ But c H H' ∧ CupAt H' c ∧ PatAt K T.cP H' p1 one ∧ PatAt K T.cP H' p2 two)
        ⟨x8, x9, rfl, bB, cuB, pa1, pa2⟩ (fun j σ H' hj hp => ?_) (fun σ H' hp => ?_)
      · obtain ⟨y8, y9, rfl, b, cu, pa1, pa2⟩ := hp
        refine ⟨_, rfl, c, rfl, cu, fun H3 u v b3 cu3 lv ht => ?_⟩
        have pa1 := pa1.but b3 cu.lst
        have pa2 := pa2.but b3 cu.lst
        refine ⟨_, rfl, decide (nums one = nums two), rfl, ?_⟩
        by_cases hd : nums one = nums two
        · rw [decide_eq_true hd]
          obtain ⟨dx1, ra1, ta1, e1, _⟩ := id pa1
          obtain ⟨dx2, ra2, ta2, e2, _⟩ := id pa2
          refine iteT ⟨_, rfl, p1, rfl, _, rfl, .inr ⟨_, _, e1⟩, p1, u, one, v, rfl, pa1, ht, lv, ok1, m8, fun H4 q1 s4 h1 => ?_⟩
          refine ⟨_, rfl, p2, rfl, _, rfl, .inr ⟨_, _, s4 _ _ e2⟩, p2, u, two, v, rfl, pa2.same s4, s4.sqT ht, lv, ok2, k8, fun H5 q2 s5 h2 => ?_⟩
          have es := shown_of ok1 ok2 m8 k8 hd lv.pr
          refine ⟨piD (shownC one v), piD (shownC two v), dp_pi (.of (s5 _ _ h1)), dp_pi (.of h2), piD_shaped _, piD_shaped _, false, congrArg V.bl ?_, iteF ?_⟩
          · rw [piD_eqv, decide_eq_true es]
            rfl
          · exact ⟨_, _, rfl, ((b.trans b3).trans (.of s4)).trans (.of s5), (cu3.same s4).same s5, (pa1.same s4).same s5, (pa2.same s4).same s5⟩
        · rw [decide_eq_false hd]
          exact iteF ⟨_, _, rfl, b.trans b3, cu3, pa1, pa2⟩
      · obtain ⟨y8, y9, rfl, b, cu, _, _⟩ := hp
        exact ⟨_, _, _, _, _, _, _, _, _, rfl, b, cu⟩
    · obtain ⟨x1, x2, x3, x4, x5, x6, x7, x8, x9, rfl, b, cu⟩ := hp
      exact q H' b
end
end K13

namespace K13
open PySem PySem.Spec PyProof.Rows L2

/-! ### the law -/
theorem n1 : nums [(false, 4), (false, 12)] = nums [(false, 3)] := by decide +kernel
theorem n2 : nums [(true, 2)] = nums [(true, 1), (true, 1)] := by decide +kernel
theorem n3 : ¬ nums [(true, 1), (false, 1)] = nums [(false, 1), (true, 1)] := by decide +kernel
theorem okr_of {row : List Pc} (h : row.all (fun p => decide (1 ≤ p.2) && decide (p.2 ≤ 12)) = true) : OkR row := fun p hp => by
  have z := List.all_eq_true.mp h p hp
  rw [Bool.and_eq_true, decide_eq_true_eq, decide_eq_true_eq] at z
  exact z
section
variable {P : Program} {w : World} {K : PySem.W.Frag} {mg : Str → Option Value} {base : Heap}
theorem ok_law {f : Addr} {fd : FuncData} (T : Txt K mg) (F : Fun K "law" "law" s_law f fd) (o__law_cup : Ok P w K mg base 1 "_law_cup" ["_law_script", "_law_spot"] (spCup K)) (oG : OkG P w K mg base 10 "_law_right" ["_law_cup_here"] spRight) (oP : OkPat P w K mg base T) (oE : OkEq P w K mg base T) :
    FnG P w K mg base 11 f fd ["_law_script"] (spLaw K) := by
  obtain ⟨gE, fdE, ME, FE, bE⟩ := oE
  obtain ⟨fP, MP, FP⟩ := oP
  obtain ⟨fG, fdG, FG, gG, kG, bG⟩ := oG
  refine fnG_of F sc_law (fun vs H Q E h => ?_) (fun cdv A outer s H vs Q hg hr h => ?_)
  · obtain ⟨a, ns, rfl, _⟩ := h
    rfl
  · obtain ⟨a, ns, rfl, hS, q⟩ := h
    have r6 : Room 6 (A.deeper (envOfC "law" (defScope s_law) s.heap.objs.size f cdv)) := hr.mono (by decide)
    have r5 : Room 5 (A.deeper (envOfC "law" (defScope s_law) s.heap.objs.size f cdv)) := hr.mono (by decide)
    refine ⟨_, (pss_cons (ps_set (i := 1) sc_law.nd rfl (Or.inl rfl) (pe_lst (pa_cons (pe_cmpR (op_eqOwn FE r5 ME bE) (StX.pe_makeR MP FP r6 rfl T.gP pass0 (pa_cons (pe_tup (pa_cons pe_str (pa_cons pe_int pa_nil))) (pa_cons (pe_tup (pa_cons pe_str (pa_cons pe_int pa_nil))) pa_nil))) (StX.pe_makeR MP FP r6 rfl T.gP pass0 (pa_cons (pe_tup (pa_cons pe_str (pa_cons pe_int pa_nil))) pa_nil)) (nomark _)) pa_nil)))
      (pss_cons (ps_expr (pe_bm PySem.F.plainAttrs_list PySem.F.slot_list_append PySem.F.type_list_append mt_append (pv 1) (pa_cons (pe_cmpR (op_eqOwn FE r5 ME bE) (StX.pe_makeR MP FP r6 rfl T.gP pass0 (pa_cons (pe_tup (pa_cons pe_str (pa_cons pe_int pa_nil))) pa_nil)) (StX.pe_makeR MP FP r6 rfl T.gP pass0 (pa_cons (pe_tup (pa_cons pe_str (pa_cons pe_int pa_nil))) (pa_cons (pe_tup (pa_cons pe_str (pa_cons pe_int pa_nil))) pa_nil))) (nomark _)) pa_nil)))
      (pss_cons (ps_expr (pe_bm PySem.F.plainAttrs_list PySem.F.slot_list_append PySem.F.type_list_append mt_append (pv 1) (pa_cons (pe_cmpR (op_eqOwn FE r5 ME bE) (StX.pe_makeR MP FP r6 rfl T.gP pass0 (pa_cons (pe_tup (pa_cons pe_str (pa_cons pe_int pa_nil))) (pa_cons (pe_tup (pa_cons pe_str (pa_cons pe_int pa_nil))) pa_nil))) (StX.pe_makeR MP FP r6 rfl T.gP pass0 (pa_cons (pe_tup (pa_cons pe_str (pa_cons pe_int pa_nil))) (pa_cons (pe_tup (pa_cons pe_str (pa_cons pe_int pa_nil))) pa_nil))) (nomark _)) pa_nil)))
      (pss_cons (ps_if (pt_cmpR (op_neD hr.units) (pv 1) (pe_lst (pa_cons pe_bl (pa_cons pe_bl (pa_cons pe_bl pa_nil)))) (nomark _)) (pss_one (ps_ret pe_bl)) pss_nil)
      (pss_one (ps_ret (pe_callB (cr_all rfl) (by rfl) T.all b_all (pa_cons (pe_lc (own := [("_law_spot", 2)]) rfl sc_law.nd (pi_range1 (by rfl) T.range (pa_cons (pe_callB (call_max2 rfl) (by rfl) T.max b_max (pa_cons pe_int (pa_cons (pe_callB (call_min2 rfl) (by rfl) T.min b_min (pa_cons (pe_callB call_len_seq (by rfl) T.len b_len (pa_cons (pv 0) pa_nil)) (pa_cons pe_int pa_nil))) pa_nil))) pa_nil)) (blkOk_by (N := lawN) (sc := defScope s_law) (by decide +kernel)) (fun _ _ _ _ _ => (pg_name (i := 2) sc_law.nd rfl (Or.inl rfl))) (fun _ _ _ _ _ => pts_nil)
        (fun _ _ _ _ _ => (pe_callG FG hg (hr.mono (by decide)) (by rfl) gG kG bG (pa_cons (pe_cl o__law_cup (hr.mono (by decide)) (pa_cons (pv 0) (pa_cons (pv 2) pa_nil))) pa_nil)))) pa_nil)))))))), ?_⟩
    have h1 : 1 ≤ sizeLine := by decide
    have h2 : 2 ≤ sizeLine := by decide
    -- two rungs and one
    refine ⟨h2, fun t1 m1 => ⟨h2, fun t2 m2 => ?_⟩⟩
    intro p1 dx hx hdx hne
    refine make_pat2 (row := [(false, 4), (false, 12)]) (.inr ⟨.cons ⟨t1, rfl, .of (same_up m2 _ _ upd_same)⟩ (.cons ⟨t2, rfl, .of upd_same⟩ .nil), by decide, by decide⟩) (okr_of (by decide)) (by decide) h2 p1 dx hx hdx hne (fun H1 s1 pa1 => ⟨rfl, ?_⟩)
    clear hx hdx hne

    have S1 := ((same_up (o := .tup [.str "rung", .int 4]) m1).up (o := .tup [.str "rung", .int 12]) m2).trans s1
    refine ⟨h2, fun t3 m3 => ?_⟩
    intro p2 dx hx hdx hne
    refine make_pat2 (row := [(false, 3)]) (.inr ⟨.cons ⟨t3, rfl, .of upd_same⟩ .nil, by decide, by decide⟩) (okr_of (by decide)) (by decide) h1 p2 dx hx hdx hne (fun H2 s2 pa2 => ⟨rfl, ?_⟩)
    clear hx hdx hne

    have S12 := (same_up (o := .tup [.str "rung", .int 3]) m3).trans s2
    have S2 := S1.trans S12
    have pa1 := pa1.same S12
    obtain ⟨dx1, _, _, e1, _⟩ := id pa1
    obtain ⟨dx2, _, _, e2, _⟩ := id pa2
    refine ⟨p1, p2, dx1, dx2, _, _, rfl, rfl, e1, e2, p1, p2, _, _, rfl, pa1, pa2, okr_of (by decide), okr_of (by decide), by decide, by decide, fun H3 s3 => ⟨_, rfl, ?_⟩⟩
    have S3 := S2.trans s3
    rw [decide_eq_true n1]
    refine ⟨h1, fun L hL => ?_⟩
    have S4 := S3.up (o := .lst [V.bl (false != true)]) hL
    have nS : ∀ {H' : Hp}, Same H H' → SqL K H' a (ns.map V.int) := fun s => s.sqL hS
    have eL : (upd H3 L (.lst [V.bl (false != true)])) L = some (.lst [V.bl true]) := upd_same
    -- a rail and two
    refine ⟨_, rfl, .inl ⟨rfl, _, .of eL⟩, ?_⟩
    refine ⟨h2, fun t1 m1 => ?_⟩
    intro p1 dx hx hdx hne
    refine make_pat2 (row := [(true, 2)]) (.inr ⟨.cons ⟨t1, rfl, .of upd_same⟩ .nil, by decide, by decide⟩) (okr_of (by decide)) (by decide) h1 p1 dx hx hdx hne (fun H5 s5 pa1 => ⟨rfl, ?_⟩)
    clear hx hdx hne

    have S45 := (same_up (o := .tup [.str "rail", .int 2]) m1).trans s5
    refine ⟨h2, fun t2 m2 => ⟨h2, fun t3 m3 => ?_⟩⟩
    intro p2 dx hx hdx hne
    refine make_pat2 (row := [(true, 1), (true, 1)]) (.inr ⟨.cons ⟨t2, rfl, .of (same_up m3 _ _ upd_same)⟩ (.cons ⟨t3, rfl, .of upd_same⟩ .nil), by decide, by decide⟩) (okr_of (by decide)) (by decide) h2 p2 dx hx hdx hne (fun H6 s6 pa2 => ⟨rfl, ?_⟩)
    clear hx hdx hne

    have S56 := ((same_up (o := .tup [.str "rail", .int 1]) m2).up (o := .tup [.str "rail", .int 1]) m3).trans s6
    have pa1 := pa1.same S56
    obtain ⟨dx1, _, _, e1, _⟩ := id pa1
    obtain ⟨dx2, _, _, e2, _⟩ := id pa2
    refine ⟨p1, p2, dx1, dx2, _, _, rfl, rfl, e1, e2, p1, p2, _, _, rfl, pa1, pa2, okr_of (by decide), okr_of (by decide), by decide, by decide, fun H7 s7 => ⟨_, rfl, ?_⟩⟩
    rw [decide_eq_true n2]
    have S47 := (S45.trans S56).trans s7
    have eL7 := S47 _ _ eL
    refine ⟨L, _, _, rfl, rfl, eL7, by decide, ?_⟩
    -- two ways round
    have S7 := S4.trans S47
    have U1 : But L H7 (upd H7 L (.lst ([V.bl true] ++ [V.bl (false != true)]))) := but_upd
    have eL8 : (upd H7 L (.lst ([V.bl true] ++ [V.bl (false != true)]))) L = some (.lst [V.bl true, V.bl true]) := upd_same
    have B8 : But L H (upd H7 L (.lst ([V.bl true] ++ [V.bl (false != true)]))) := (But.of S7).trans U1
    refine ⟨_, rfl, .inl ⟨rfl, _, .of eL8⟩, ?_⟩
    refine ⟨h2, fun t1 m1 => ⟨h2, fun t2 m2 => ?_⟩⟩
    intro p1 dx hx hdx hne
    refine make_pat2 (row := [(true, 1), (false, 1)]) (.inr ⟨.cons ⟨t1, rfl, .of (same_up m2 _ _ upd_same)⟩ (.cons ⟨t2, rfl, .of upd_same⟩ .nil), by decide, by decide⟩) (okr_of (by decide)) (by decide) h2 p1 dx hx hdx hne (fun H9 s9 pa1 => ⟨rfl, ?_⟩)
    clear hx hdx hne

    have S89 := ((same_up (o := .tup [.str "rail", .int 1]) m1).up (o := .tup [.str "rung", .int 1]) m2).trans s9
    refine ⟨h2, fun t3 m3 => ⟨h2, fun t4 m4 => ?_⟩⟩
    intro p2 dx hx hdx hne
    refine make_pat2 (row := [(false, 1), (true, 1)]) (.inr ⟨.cons ⟨t3, rfl, .of (same_up m4 _ _ upd_same)⟩ (.cons ⟨t4, rfl, .of upd_same⟩ .nil), by decide, by decide⟩) (okr_of (by decide)) (by decide) h2 p2 dx hx hdx hne (fun H10 s10 pa2 => ⟨rfl, ?_⟩)
    clear hx hdx hne

    have S910 := ((same_up (o := .tup [.str "rung", .int 1]) m3).up (o := .tup [.str "rail", .int 1]) m4).trans s10
    have pa1 := pa1.same S910
    obtain ⟨dx1, _, _, e1, _⟩ := id pa1
    obtain ⟨dx2, _, _, e2, _⟩ := id pa2
    refine ⟨p1, p2, dx1, dx2, _, _, rfl, rfl, e1, e2, p1, p2, _, _, rfl, pa1, pa2, okr_of (by decide), okr_of (by decide), by decide, by decide, fun H11 s11 => ⟨_, rfl, ?_⟩⟩
    rw [decide_eq_false n3]
    have S811 := (S89.trans S910).trans s11
    have eL11 := S811 _ _ eL8
    refine ⟨L, _, _, rfl, rfl, eL11, by decide, ?_⟩
    have eL12 : (upd H11 L (.lst ([V.bl true, V.bl true] ++ [V.bl (false != false)]))) L = some (.lst [V.bl true, V.bl true, V.bl false]) := upd_same
    have B12 : But L H (upd H11 L (.lst ([V.bl true, V.bl true] ++ [V.bl (false != false)]))) := (B8.trans (.of S811)).trans but_upd
    have hL0 : H L = none := none_of S3 hL
    have S12 : Same H (upd H11 L (.lst ([V.bl true, V.bl true] ++ [V.bl (false != false)]))) := fun b o hb => B12 b o (ne_of_none hb hL0) hb
    refine ⟨_, rfl, by show 3 ≤ sizeLine; decide, fun W hW => ?_⟩
    have eL13 := same_up (o := .lst [V.bl true, V.bl true, V.bl false]) hW _ _ eL12
    refine ⟨.list [.bool true, .bool true, .bool false], .list [.bool true, .bool true, .bool false], .lst (.of eL13) (.cons (.bl _) (.cons (.bl _) (.cons (.bl _) .nil))), .lst (.of upd_same) (.cons (.bl _) (.cons (.bl _) (.cons (.bl _) .nil))), by decide +kernel, by decide +kernel, false, congrArg V.bl (by decide +kernel), iteF ?_⟩
    have S13 := S12.up (o := .lst [V.bl true, V.bl true, V.bl false]) hW
    -- every spot
    have hlen : (ns.map V.int).length = ns.length := List.length_map _
    refine ⟨_, rfl, a, _, rfl, .inl (nS S13), _, _, rfl, _, _, rfl, _, rfl, ?_⟩
    have hj : ∀ m : Int, 0 ≤ m → 0 ≤ (if (if 6 < m then 6 else m) > 2 then (if 6 < m then 6 else m) else 2) ∧ (if (if 6 < m then 6 else m) > 2 then (if 6 < m then 6 else m) else 2) ≤ 6 := fun m h0 => by
      by_cases hm : 6 < m
      · rw [if_pos hm, if_pos (by decide)]
        exact ⟨by decide, by decide⟩
      · rw [if_neg hm]
        by_cases h3 : m > 2
        · rw [if_pos h3]
          omega
        · rw [if_neg h3]
          omega
    obtain ⟨j0, j6⟩ := hj ((ns.map V.int).length : Int) (Int.natCast_nonneg _)
    generalize (if (if 6 < ((ns.map V.int).length : Int) then 6 else ((ns.map V.int).length : Int)) > 2 then (if 6 < ((ns.map V.int).length : Int) then 6 else ((ns.map V.int).length : Int)) else 2) = j at j0 j6 ⊢
    refine ⟨by omega, by omega, ?_⟩
    intro D hD
    refine lc_it (walk_range (lo := 0) (n := j.toNat)) (fun i H' => Same H H' ∧ H' D = some (.lst ((List.replicate i true).map V.bl))) ⟨S13.up hD, upd_same⟩ (fun i H' _ hp => trivial) (fun i y H1 H2 hi hp hy => ?_) (fun H' hp => ?_)
    · obtain ⟨rfl, rfl⟩ := hy
      obtain ⟨sm, hD'⟩ := hp
      refine ⟨rfl, yesT ⟨_, rfl, _, rfl, a, ns, i, congrArg (fun z : Int => [V.ref a, V.int z]) (Int.zero_add _), nS sm, fun H3 p s3 np cu => ⟨p, rfl, cu, fun H4 b4 => ?_⟩⟩⟩
      have s4 : Same H2 H4 := fun b o hb => b4 b o (ne_of_none hb np) (s3 b o hb)
      refine ⟨_, s4 _ _ hD', ?_, ?_, ?_⟩
      · rw [List.length_map, List.length_replicate]
        exact Nat.lt_of_lt_of_le (show i < 7 by omega) (by decide)
      · intro b o hb
        rw [upd_ne (ne_of_none (S13 _ _ hb) hD)]
        exact s4 _ _ (sm b o hb)
      · rw [upd_same, List.replicate_succ', List.map_append]
        rfl
    · obtain ⟨sm, hD'⟩ := hp
      refine ⟨D, List.replicate j.toNat true, rfl, .of hD', ?_⟩
      rw [show (List.replicate j.toNat true).all id = true from List.all_eq_true.mpr fun x hx => by
        rw [List.eq_of_mem_replicate hx]
        rfl]
      exact q H'
end
end K13

namespace K13
open PySem PySem.Spec PyProof.Rows L2

/-! ### what is looked at behind the top -/
def nextA (g : Addr → Option Obj) (as : List Addr) : List Addr := as.flatMap fun a => match g a with
  | some o => He.refsD o
  | none => []
def reachK (g : Addr → Option Obj) : Nat → List Addr → List Addr
  | 0, as => as
  | n + 1, as => as ++ reachK g n (nextA g as)
def seeK (g : Addr → Option Obj) : PySem.W.Frag := He.frG g (PySem.cStatics :: reachK g 5 [mainGlobals])
/-- a def: where its function object is, its names, its statement -/
structure KD where
  ad : PySem.W.Frag → Addr
  name : Str
  qual : Str
  st : Stmt
def fnA (K : PySem.W.Frag) (a : Addr) : He.FnW := match K.lookup a with
  | some ⟨_, _, .func fd, _⟩ => some (fd.name, fd.qualname, fd.params, fd.body, fd.scope, fd.globals, fd.closure, fd.builtins)
  | _ => none
def KD.val (d : KD) : He.FnW := some (d.name, d.qual, defArgs d.st, .stmts (defBody d.st), defScope d.st, mainGlobals, [], builtinsNs)
def noneV : Value → Bool
  | .none => true
  | _ => false
def KD.ok (K : PySem.W.Frag) (d : KD) : Bool := PySem.W.keepIn K (.ref (d.ad K)) && (match K.lookup (d.ad K) with
  | some ⟨_, _, .func fd, _⟩ => PySem.W.codeIn K fd.code d.qual && noneV fd.defaults
  | _ => false)
theorem KD.fn {K : PySem.W.Frag} {d : KD} (e : fnA K (d.ad K) = d.val) (c : d.ok K = true) : ∃ fd, Fun K d.name d.qual d.st (d.ad K) fd := by
  obtain ⟨kp, c2⟩ := He.ba c
  unfold fnA at e
  cases q : K.lookup (d.ad K) with
  | none =>
    rw [q] at c2
    cases c2
  | some o =>
    obtain ⟨oc, od, dt, osl⟩ := o
    rw [q] at c2 e
    cases dt with
    | func fd =>
      obtain ⟨n1, n2, n3, n4, n5, n6, n7, n8, n9, n10, n11, n12, n13, n14, n15⟩ := fd
      have e2 : (some (n1, n2, n3, n4, n5, n6, n7, n15) : He.FnW) = some (d.name, d.qual, defArgs d.st, .stmts (defBody d.st), defScope d.st, mainGlobals, [], builtinsNs) := e
      simp only [Option.some.injEq, Prod.mk.injEq] at e2
      obtain ⟨h1, h2, h3, h4, h5, h6, h7, h8⟩ := e2
      subst h1 h2 h3 h4 h5 h6 h7 h8
      obtain ⟨k1, k2⟩ := He.ba (show (PySem.W.codeIn K n13 d.qual && noneV n8) = true from c2)
      cases n8 with
      | none => exact ⟨_, ⟨oc, od, n9, n10, n11, n12, n13, n14, osl, rfl, q, k1⟩, kp⟩
      | _ => cases k2
    | _ => cases c2
abbrev AlK : Type := List He.FnW × Bool
def obsK (kd : List KD) (ex : PySem.W.Frag → Bool) (K : PySem.W.Frag) : AlK := (kd.map fun d => fnA K (d.ad K), ex K && kd.all fun d => d.ok K)
def valK (kd : List KD) : AlK := (kd.map KD.val, true)
def hookK (kd : List KD) (ex : PySem.W.Frag → Bool) : PySem.W.Hook where
  α := AlK
  obs := fun s => obsK kd ex (seeK s.heap.get?)
  val := fun _ => valK kd
  says := fun _ h => ∃ K : PySem.W.Frag, K.In h ∧ obsK kd ex K = valK kd
  of := fun _ _ e => ⟨_, He.frG_in, e⟩
  keeps := fun _ _ _ ⟨K, hK, c⟩ k => ⟨K, PySem.W.Frag.In.keeps hK k, c⟩
theorem obsK_eq {kd : List KD} {ex : PySem.W.Frag → Bool} {g : Addr → Option Obj} {s : Shared} (h : ∀ a, g a = s.heap.get? a) : obsK kd ex (seeK g) = (hookK kd ex).obs s := by
  have e : g = s.heap.get? := funext h
  rw [e] <;> rfl
theorem obsK_fn {kd : List KD} {ex : PySem.W.Frag → Bool} {K : PySem.W.Frag} (c : obsK kd ex K = valK kd) {i : Nat} {d : KD} (h : kd[i]? = some d) : ∃ fd, Fun K d.name d.qual d.st (d.ad K) fd := by
  have c1 : kd.map (fun d => fnA K (d.ad K)) = kd.map KD.val := congrArg (fun z : AlK => z.1) c
  have c2 := (He.ba (show (ex K && kd.all fun d => d.ok K) = true from congrArg (fun z : AlK => z.2) c)).2
  have e : (kd.map fun d => fnA K (d.ad K))[i]? = (kd.map KD.val)[i]? := by rw [c1]
  rw [List.getElem?_map, List.getElem?_map, h] at e
  exact KD.fn (Option.some.inj e) (List.all_eq_true.mp c2 d (List.mem_of_getElem? h))
theorem obsK_ex {kd : List KD} {ex : PySem.W.Frag → Bool} {K : PySem.W.Frag} (c : obsK kd ex K = valK kd) : ex K = true :=
  (He.ba (show (ex K && kd.all fun d => d.ok K) = true from congrArg (fun z : AlK => z.2) c)).1
theorem all_at {l : List Bool} (h : l.all id = true) (i : Nat) {b : Bool} (e : l[i]? = some b) : b = true := List.all_eq_true.mp h b (List.mem_of_getElem? e)

/-! ### this text's defs, facts -/
/-- the function inside a property or a static method -/
def inAd (K : PySem.W.Frag) (C m : Str) (T : String) : Addr := match PySem.W.recIn K (He.ma K (He.ga K C) m) T with
  | some (.ref g :: _) => g
  | _ => 0
def glK (x : Str) (st : Stmt) : KD := ⟨fun K => He.ga K x, x, x, st⟩
def meK (C m q : Str) (st : Stmt) : KD := ⟨fun K => He.ma K (He.ga K C) m, m, q, st⟩
def reK (C m : Str) (T : String) (q : Str) (st : Stmt) : KD := ⟨fun K => inAd K C m T, m, q, st⟩
def looseN : List Str := List.append (["_wall", "WrongValue", "InvalidResistance", "InvalidText", "InvalidPieces", "NoAnswer", "TooMany", "MOST_OHMS", "MOST_PIECES", "MOST_JOINED", "GREATEST", "OPEN", "DIGITS", "MOST_DIGITS", "is_integer", "is_between", "is_fraction", "is_number", "is_resistance", "common", "lowest", "pair_of", "check_resistance", "integer_in", "NOTHING"] : List Str) (["joined", "chain_of", "led", "shown", "WORDS", "Row", "is_piece", "check_pieces", "piece_in", "pattern_in", "pattern_of", "Pattern", "_law_cup", "_law_sip", "_law_pick", "_law_pair", "_law_front", "_law_row", "_law_words", "_law_end", "_law_read", "_law_mate", "_law_same", "_law_right"] : List Str)
def kds : List KD := [glK "is_integer" (top 16),
  glK "is_between" (top 17),
  glK "is_fraction" (top 18),
  glK "is_number" (top 19),
  glK "is_resistance" (top 20),
  glK "common" (top 21),
  glK "lowest" (top 22),
  glK "pair_of" (top 23),
  glK "check_resistance" (top 24),
  glK "integer_in" (top 25),
  glK "joined" (top 28),
  glK "chain_of" (top 29),
  glK "led" (top 30),
  glK "shown" (top 31),
  glK "is_piece" (top 35),
  glK "check_pieces" (top 36),
  glK "piece_in" (top 37),
  glK "pattern_in" (top 38),
  glK "_law_cup" (top 42),
  glK "_law_sip" (top 43),
  glK "_law_pick" (top 44),
  glK "_law_pair" (top 45),
  glK "_law_front" (top 46),
  glK "_law_row" (top 47),
  glK "_law_words" (top 48),
  glK "_law_end" (top 49),
  glK "_law_read" (top 50),
  glK "_law_mate" (top 51),
  glK "_law_same" (top 52),
  glK "_law_right" (top 53),
  glK "law" (top 54),
  meK "Row" "__init__" "Row.__init__" s_Row_init,
  meK "Pattern" "__init__" "Pattern.__init__" s_Pat_init,
  meK "Pattern" "__call__" "Pattern.__call__" s_Pattern_call,
  meK "Pattern" "__eq__" "Pattern.__eq__" s_Pattern_eq,
  reK "Pattern" "read" "staticmethod" "Pattern.read" s_Pattern_read,
  reK "Pattern" "numbers" "property" "Pattern.numbers" s_Pattern_numbers]
def glos : List Str := List.append (["is_integer", "is_between", "is_fraction", "is_number", "is_resistance", "common", "lowest", "pair_of", "check_resistance", "integer_in", "joined", "chain_of", "led", "shown", "is_piece", "check_pieces", "piece_in", "pattern_in", "_law_cup", "_law_sip", "_law_pick", "_law_pair", "_law_front", "_law_row", "_law_words"] : List Str) (["_law_end", "_law_read", "_law_mate", "_law_same", "_law_right", "law", "OPEN", "NOTHING", "WORDS", "Row", "Pattern"] : List Str)
def frees : List Str := ["int", "bool", "str", "tuple", "len", "isinstance", "any", "all", "abs", "divmod", "max", "min", "repr", "range", "enumerate"]
def isS (a : Option Bool) (b : Bool) : Bool := decide (a = some b)
def smB (K : PySem.W.Frag) (C : Addr) (m : Str) : Bool := match PySem.W.findCls K (.ref C) (.type "type") m with
  | some (.get (.builtin i) (.ref p) .none (.ref D)) => decide (i = "staticmethod.__get__") && (decide (p = He.ma K C m) && decide (D = C))
  | _ => false
def inB (K : PySem.W.Frag) (C m : Str) (T : String) : Bool := match PySem.W.recIn K (He.ma K (He.ga K C) m) T with
  | some (.ref _ :: _) => true
  | _ => false
def chk (K : PySem.W.Frag) : List Bool := [
  frees.all fun x => (He.Fa.free x).ok K,
  glos.all fun x => (He.Fa.glo x).ok K,
  (He.Fa.int "MOST_OHMS" 12).ok K, (He.Fa.int "MOST_PIECES" 4).ok K, (He.Fa.int "MOST_JOINED" 8).ok K, (He.Fa.int "GREATEST" 1000000000000).ok K, (He.Fa.int "MOST_DIGITS" 13).ok K,
  (He.Fa.str "DIGITS" "0123456789").ok K,
  He.tupB K "OPEN" [.int 1, .int 0], He.tupB K "NOTHING" [.int 1, .int 0, .int 0, .int 1], He.tupB K "WORDS" [.str "rail", .str "rung"],
  (He.Fa.cls "Row").ok K, (He.Fa.noat "Row" "told").ok K, (He.Fa.cls "Pattern").ok K, (He.Fa.noat "Pattern" "row").ok K, (He.Fa.noat "Pattern" "chain").ok K, (He.Fa.noat "Pattern" "scale").ok K,
  (He.Fa.mkr "Row").ok K, (He.Fa.mkr "Pattern").ok K,
  He.eqO (PySem.W.findIn K (.ref (He.ga K "Row")) "__class__") (some (some (.builtin "object.__class__"))), He.eqO (PySem.W.findIn K (.ref (He.ga K "Pattern")) "__class__") (some (some (.builtin "object.__class__"))),
  He.eqO (PySem.W.specialIn K (.builtin "object.__class__") "__get__") (some (some (.builtin "getset_descriptor.__get__"))), isS (PySem.W.takesIn K (.builtin "object.__class__")) true,
  isS (PySem.W.mroIn K (He.ga K "Row") (.type "object")) true, isS (PySem.W.mroIn K (He.ga K "Pattern") (.type "object")) true,
  isS (PySem.W.kitOne K (.ref (He.ga K "Row")) (.ref (He.ga K "Row"))) true, isS (PySem.W.kitOne K (.ref (He.ga K "Pattern")) (.ref (He.ga K "Pattern"))) true, isS (PySem.W.kitOne K (.type "tuple") (.ref (He.ga K "Row"))) false,
  He.eqO (PySem.W.findIn K (.ref (He.ga K "Pattern")) "__ne__") (some (some (.builtin "object.__ne__"))), isS (PySem.W.subIn K (.ref (He.ga K "Pattern")) (.type "object")) true,
  PySem.W.readsIn K (He.ga K "Pattern") (.type "type"), He.eqO (PySem.W.specialIn K (.ref (He.ga K "Pattern")) "__getattribute__") (some (some (.builtin "type.__getattribute__"))),
  (He.Fa.meth "Pattern" "__call__").ok K, PySem.W.fnIn K (He.ma K (He.ga K "Pattern") "__call__"), (He.Fa.meth "Pattern" "__eq__").ok K,
  He.eqO (PySem.W.findIn K (.ref (He.ga K "Pattern")) "numbers") (some (some (.ref (He.ma K (He.ga K "Pattern") "numbers")))), He.eqO (PySem.W.specialIn K (.ref (He.ma K (He.ga K "Pattern") "numbers")) "__get__") (some (some (.builtin "property.__get__"))),
  isS (PySem.W.takesIn K (.ref (He.ma K (He.ga K "Pattern") "numbers"))) true, inB K "Pattern" "numbers" "property",
  smB K (He.ga K "Pattern") "read", inB K "Pattern" "read" "staticmethod"]
def exB (K : PySem.W.Frag) : Bool := (chk K).all id
section
variable {K : PySem.W.Frag} {h : Heap} {mg : Str → Option Value}
theorem isS_ok {a : Option Bool} {b : Bool} (h : isS a b = true) : a = some b := of_decide_eq_true h
theorem chk_at (c : obsK kds exB K = valK kds) (i : Nat) {b : Bool} (e : (chk K)[i]? = some b) : b = true := all_at (obsK_ex c) i e
theorem glo_at (X : K.In h) (G : h.Ns mainGlobals mg) (c : obsK kds exB K = valK kds) {x : Str} (hx : x ∈ glos) : mg x = some (.ref (He.ga K x)) := He.glo_ok X G (List.all_eq_true.mp (chk_at c 1 rfl) x hx)
theorem free_at (X : K.In h) (G : h.Ns mainGlobals mg) (c : obsK kds exB K = valK kds) {x : Str} (hx : x ∈ frees) : mg x = none := He.free_ok X G (List.all_eq_true.mp (chk_at c 0 rfl) x hx)
theorem df_of (X : K.In h) (G : h.Ns mainGlobals mg) (c : obsK kds exB K = valK kds) {i : Nat} {d : KD} {x : Str} {st : Stmt} {ps : List Str} (hi : kds[i]? = some d) (hd : d = glK x st) (hx : x ∈ glos)
    (hb : ∀ (kV doc pm : Value) (an : Option Addr) (cdv ct : Value) (us : List Value), us.length = ps.length → bindArgs (PySem.W.fnOf x x (defArgs st) (defBody st) (defScope st) .none kV doc pm an cdv ct) ⟨us, []⟩ = pure (ps.zip us)) : Df K mg x st ps := by
  subst hd
  obtain ⟨fd, F⟩ := obsK_fn c hi
  exact ⟨_, fd, F, glo_at X G c hx, F.binds hb⟩
theorem d_is_integer (X : K.In h) (G : h.Ns mainGlobals mg) (c : obsK kds exB K = valK kds) : Df K mg "is_integer" (top 16) ["value"] := df_of X G c (i := 0) rfl rfl (by decide +kernel) fun _ _ _ _ _ _ us hl => match us, hl with | [_], _ => rfl
theorem d_is_between (X : K.In h) (G : h.Ns mainGlobals mg) (c : obsK kds exB K = valK kds) : Df K mg "is_between" (top 17) ["value", "low", "high"] := df_of X G c (i := 1) rfl rfl (by decide +kernel) fun _ _ _ _ _ _ us hl => match us, hl with | [_, _, _], _ => rfl
theorem d_is_fraction (X : K.In h) (G : h.Ns mainGlobals mg) (c : obsK kds exB K = valK kds) : Df K mg "is_fraction" (top 18) ["value"] := df_of X G c (i := 2) rfl rfl (by decide +kernel) fun _ _ _ _ _ _ us hl => match us, hl with | [_], _ => rfl
theorem d_is_number (X : K.In h) (G : h.Ns mainGlobals mg) (c : obsK kds exB K = valK kds) : Df K mg "is_number" (top 19) ["value"] := df_of X G c (i := 3) rfl rfl (by decide +kernel) fun _ _ _ _ _ _ us hl => match us, hl with | [_], _ => rfl
theorem d_is_resistance (X : K.In h) (G : h.Ns mainGlobals mg) (c : obsK kds exB K = valK kds) : Df K mg "is_resistance" (top 20) ["value"] := df_of X G c (i := 4) rfl rfl (by decide +kernel) fun _ _ _ _ _ _ us hl => match us, hl with | [_], _ => rfl
theorem d_common (X : K.In h) (G : h.Ns mainGlobals mg) (c : obsK kds exB K = valK kds) : Df K mg "common" (top 21) ["one", "other"] := df_of X G c (i := 5) rfl rfl (by decide +kernel) fun _ _ _ _ _ _ us hl => match us, hl with | [_, _], _ => rfl
theorem d_lowest (X : K.In h) (G : h.Ns mainGlobals mg) (c : obsK kds exB K = valK kds) : Df K mg "lowest" (top 22) ["top", "bottom"] := df_of X G c (i := 6) rfl rfl (by decide +kernel) fun _ _ _ _ _ _ us hl => match us, hl with | [_, _], _ => rfl
theorem d_pair_of (X : K.In h) (G : h.Ns mainGlobals mg) (c : obsK kds exB K = valK kds) : Df K mg "pair_of" (top 23) ["number"] := df_of X G c (i := 7) rfl rfl (by decide +kernel) fun _ _ _ _ _ _ us hl => match us, hl with | [_], _ => rfl
theorem d_check_resistance (X : K.In h) (G : h.Ns mainGlobals mg) (c : obsK kds exB K = valK kds) : Df K mg "check_resistance" (top 24) ["value"] := df_of X G c (i := 8) rfl rfl (by decide +kernel) fun _ _ _ _ _ _ us hl => match us, hl with | [_], _ => rfl
theorem d_integer_in (X : K.In h) (G : h.Ns mainGlobals mg) (c : obsK kds exB K = valK kds) : Df K mg "integer_in" (top 25) ["word"] := df_of X G c (i := 9) rfl rfl (by decide +kernel) fun _ _ _ _ _ _ us hl => match us, hl with | [_], _ => rfl
theorem d_joined (X : K.In h) (G : h.Ns mainGlobals mg) (c : obsK kds exB K = valK kds) : Df K mg "joined" (top 28) ["front", "back"] := df_of X G c (i := 10) rfl rfl (by decide +kernel) fun _ _ _ _ _ _ us hl => match us, hl with | [_, _], _ => rfl
theorem d_chain_of (X : K.In h) (G : h.Ns mainGlobals mg) (c : obsK kds exB K = valK kds) : Df K mg "chain_of" (top 29) ["pieces"] := df_of X G c (i := 11) rfl rfl (by decide +kernel) fun _ _ _ _ _ _ us hl => match us, hl with | [_], _ => rfl
theorem d_led (X : K.In h) (G : h.Ns mainGlobals mg) (c : obsK kds exB K = valK kds) : Df K mg "led" (top 30) ["chain", "pair"] := df_of X G c (i := 12) rfl rfl (by decide +kernel) fun _ _ _ _ _ _ us hl => match us, hl with | [_, _], _ => rfl
theorem d_shown (X : K.In h) (G : h.Ns mainGlobals mg) (c : obsK kds exB K = valK kds) : Df K mg "shown" (top 31) ["chain", "pair"] := df_of X G c (i := 13) rfl rfl (by decide +kernel) fun _ _ _ _ _ _ us hl => match us, hl with | [_, _], _ => rfl
theorem d_is_piece (X : K.In h) (G : h.Ns mainGlobals mg) (c : obsK kds exB K = valK kds) : Df K mg "is_piece" (top 35) ["value"] := df_of X G c (i := 14) rfl rfl (by decide +kernel) fun _ _ _ _ _ _ us hl => match us, hl with | [_], _ => rfl
theorem d_check_pieces (X : K.In h) (G : h.Ns mainGlobals mg) (c : obsK kds exB K = valK kds) : Df K mg "check_pieces" (top 36) ["pieces"] := df_of X G c (i := 15) rfl rfl (by decide +kernel) fun _ _ _ _ _ _ us hl => match us, hl with | [_], _ => rfl
theorem d_piece_in (X : K.In h) (G : h.Ns mainGlobals mg) (c : obsK kds exB K = valK kds) : Df K mg "piece_in" (top 37) ["text"] := df_of X G c (i := 16) rfl rfl (by decide +kernel) fun _ _ _ _ _ _ us hl => match us, hl with | [_], _ => rfl
theorem d_pattern_in (X : K.In h) (G : h.Ns mainGlobals mg) (c : obsK kds exB K = valK kds) : Df K mg "pattern_in" (top 38) ["text"] := df_of X G c (i := 17) rfl rfl (by decide +kernel) fun _ _ _ _ _ _ us hl => match us, hl with | [_], _ => rfl
theorem d_law_cup (X : K.In h) (G : h.Ns mainGlobals mg) (c : obsK kds exB K = valK kds) : Df K mg "_law_cup" (top 42) ["_law_script", "_law_spot"] := df_of X G c (i := 18) rfl rfl (by decide +kernel) fun _ _ _ _ _ _ us hl => match us, hl with | [_, _], _ => rfl
theorem d_law_sip (X : K.In h) (G : h.Ns mainGlobals mg) (c : obsK kds exB K = valK kds) : Df K mg "_law_sip" (top 43) ["_law_cup_here", "_law_many"] := df_of X G c (i := 19) rfl rfl (by decide +kernel) fun _ _ _ _ _ _ us hl => match us, hl with | [_, _], _ => rfl
theorem d_law_pick (X : K.In h) (G : h.Ns mainGlobals mg) (c : obsK kds exB K = valK kds) : Df K mg "_law_pick" (top 44) ["_law_cup_here", "_law_things"] := df_of X G c (i := 20) rfl rfl (by decide +kernel) fun _ _ _ _ _ _ us hl => match us, hl with | [_, _], _ => rfl
theorem d_law_pair (X : K.In h) (G : h.Ns mainGlobals mg) (c : obsK kds exB K = valK kds) : Df K mg "_law_pair" (top 45) ["_law_top", "_law_bottom"] := df_of X G c (i := 21) rfl rfl (by decide +kernel) fun _ _ _ _ _ _ us hl => match us, hl with | [_, _], _ => rfl
theorem d_law_front (X : K.In h) (G : h.Ns mainGlobals mg) (c : obsK kds exB K = valK kds) : Df K mg "_law_front" (top 46) ["_law_row_here", "_law_pair_here"] := df_of X G c (i := 22) rfl rfl (by decide +kernel) fun _ _ _ _ _ _ us hl => match us, hl with | [_, _], _ => rfl
theorem d_law_row (X : K.In h) (G : h.Ns mainGlobals mg) (c : obsK kds exB K = valK kds) : Df K mg "_law_row" (top 47) ["_law_cup_here", "_law_most"] := df_of X G c (i := 23) rfl rfl (by decide +kernel) fun _ _ _ _ _ _ us hl => match us, hl with | [_, _], _ => rfl
theorem d_law_words (X : K.In h) (G : h.Ns mainGlobals mg) (c : obsK kds exB K = valK kds) : Df K mg "_law_words" (top 48) ["_law_row_here"] := df_of X G c (i := 24) rfl rfl (by decide +kernel) fun _ _ _ _ _ _ us hl => match us, hl with | [_], _ => rfl
theorem d_law_end (X : K.In h) (G : h.Ns mainGlobals mg) (c : obsK kds exB K = valK kds) : Df K mg "_law_end" (top 49) ["_law_cup_here"] := df_of X G c (i := 25) rfl rfl (by decide +kernel) fun _ _ _ _ _ _ us hl => match us, hl with | [_], _ => rfl
theorem d_law_read (X : K.In h) (G : h.Ns mainGlobals mg) (c : obsK kds exB K = valK kds) : Df K mg "_law_read" (top 50) ["_law_row_here"] := df_of X G c (i := 26) rfl rfl (by decide +kernel) fun _ _ _ _ _ _ us hl => match us, hl with | [_], _ => rfl
theorem d_law_mate (X : K.In h) (G : h.Ns mainGlobals mg) (c : obsK kds exB K = valK kds) : Df K mg "_law_mate" (top 51) ["_law_cup_here", "_law_row_here"] := df_of X G c (i := 27) rfl rfl (by decide +kernel) fun _ _ _ _ _ _ us hl => match us, hl with | [_, _], _ => rfl
theorem d_law_same (X : K.In h) (G : h.Ns mainGlobals mg) (c : obsK kds exB K = valK kds) : Df K mg "_law_same" (top 52) ["_law_one", "_law_two"] := df_of X G c (i := 28) rfl rfl (by decide +kernel) fun _ _ _ _ _ _ us hl => match us, hl with | [_, _], _ => rfl
theorem d_law_right (X : K.In h) (G : h.Ns mainGlobals mg) (c : obsK kds exB K = valK kds) : Df K mg "_law_right" (top 53) ["_law_cup_here"] := df_of X G c (i := 29) rfl rfl (by decide +kernel) fun _ _ _ _ _ _ us hl => match us, hl with | [_], _ => rfl
theorem d_law (X : K.In h) (G : h.Ns mainGlobals mg) (c : obsK kds exB K = valK kds) : Df K mg "law" (top 54) ["_law_script"] := df_of X G c (i := 30) rfl rfl (by decide +kernel) fun _ _ _ _ _ _ us hl => match us, hl with | [_], _ => rfl
end
end K13

namespace K13
open PySem PySem.Spec PyProof.Rows L2
section
variable {K : PySem.W.Frag} {h : Heap} {mg : Str → Option Value}
theorem noRR {C : Addr} : PySem.W.kitOne K (.ref C) (.ref C) = some true := by
  unfold PySem.W.kitOne
  rw [if_pos (beq_self_eq_true _)]
def txt_of (X : K.In h) (G : h.Ns mainGlobals mg) (c : obsK kds exB K = valK kds) : Txt K mg where
  int := free_at X G c (by decide +kernel)
  bool := free_at X G c (by decide +kernel)
  str := free_at X G c (by decide +kernel)
  tuple := free_at X G c (by decide +kernel)
  len := free_at X G c (by decide +kernel)
  isinstance := free_at X G c (by decide +kernel)
  any := free_at X G c (by decide +kernel)
  all := free_at X G c (by decide +kernel)
  abs := free_at X G c (by decide +kernel)
  divmod := free_at X G c (by decide +kernel)
  max := free_at X G c (by decide +kernel)
  min := free_at X G c (by decide +kernel)
  repr := free_at X G c (by decide +kernel)
  range := free_at X G c (by decide +kernel)
  enumerate := free_at X G c (by decide +kernel)
  most_ohms := He.int_ok X G (chk_at c 2 rfl)
  most_pieces := He.int_ok X G (chk_at c 3 rfl)
  most_joined := He.int_ok X G (chk_at c 4 rfl)
  greatest := He.int_ok X G (chk_at c 5 rfl)
  most_digits := He.int_ok X G (chk_at c 6 rfl)
  digits := He.str_ok X G (chk_at c 7 rfl)
  aO := He.ga K "OPEN"
  gO := glo_at X G c (by decide +kernel)
  tO := fun H => He.tupB_ok (vs := [.int 1, .int 0]) (chk_at c 8 rfl) H
  aN := He.ga K "NOTHING"
  gN := glo_at X G c (by decide +kernel)
  tN := fun H => He.tupB_ok (vs := [.int 1, .int 0, .int 0, .int 1]) (chk_at c 9 rfl) H
  aW := He.ga K "WORDS"
  gW := glo_at X G c (by decide +kernel)
  tW := fun H => He.tupB_ok (vs := [.str "rail", .str "rung"]) (chk_at c 10 rfl) H
  cR := He.ga K "Row"
  gR := glo_at X G c (by decide +kernel)
  lR := He.cls_ok (chk_at c 11 rfl)
  nR := He.noat_ok (chk_at c 12 rfl)
  cP := He.ga K "Pattern"
  gP := glo_at X G c (by decide +kernel)
  lP := He.cls_ok (chk_at c 13 rfl)
  nP1 := He.noat_ok (chk_at c 14 rfl)
  nP2 := He.noat_ok (chk_at c 15 rfl)
  nP3 := He.noat_ok (chk_at c 16 rfl)
  dR := He.eqO_ok (chk_at c 19 rfl)
  dP := He.eqO_ok (chk_at c 20 rfl)
  dG := He.eqO_ok (chk_at c 21 rfl)
  dT := isS_ok (chk_at c 22 rfl)
  oR := isS_ok (chk_at c 23 rfl)
  oP := isS_ok (chk_at c 24 rfl)
  kRR := isS_ok (chk_at c 25 rfl)
  kPP := isS_ok (chk_at c 26 rfl)
  kTR := isS_ok (chk_at c 27 rfl)
  ne := ⟨He.eqO_ok (chk_at c 28 rfl), isS_ok (chk_at c 29 rfl)⟩
  mc := .type "type"
  rd := ⟨chk_at c 30 rfl, He.eqO_ok (chk_at c 31 rfl)⟩
theorem sm_ok {C : Addr} {m : Str} (e : smB K C m = true) : PySem.W.findCls K (.ref C) (.type "type") m = some (.get (.builtin "staticmethod.__get__") (.ref (He.ma K C m)) .none (.ref C)) := by
  unfold smB at e
  split at e
  · rename_i i p D q
    obtain ⟨e1, e2⟩ := He.ba e
    obtain ⟨e3, e4⟩ := He.ba e2
    rw [q, of_decide_eq_true e1, of_decide_eq_true e3, of_decide_eq_true e4]
  · cases e
theorem in_ok {C m : Str} {T : String} (e : inB K C m T = true) : ∃ more, PySem.W.recIn K (He.ma K (He.ga K C) m) T = some (.ref (inAd K C m T) :: more) := by
  unfold inB at e
  split at e
  · rename_i g r q
    refine ⟨r, ?_⟩
    have z : inAd K C m T = g := by
      unfold inAd
      rw [q]
    rw [z]
    exact q
  · cases e
theorem law_ok {P : Program} {w : World} (X : K.In h) (G : h.Ns mainGlobals mg) (c : obsK kds exB K = valK kds) : ∃ fd : FuncData, (∀ (s : Shared) (v : Value), BindsTo s fd ⟨[v], []⟩ [(("_law_script" : Str), v)]) ∧ mg "law" = some (.ref (He.ga K "law")) ∧
    ∀ base : Heap, K.In base → base.Ns mainGlobals mg → FnG P w K mg base 11 (He.ga K "law") fd ["_law_script"] (spLaw K) := by
  obtain ⟨fdL, FL⟩ := obsK_fn (kd := kds) c (i := 30) (d := glK "law" (top 54)) rfl
  have gL : mg "law" = some (.ref (He.ga K "law")) := glo_at X G c (by decide +kernel)
  let T : Txt K mg := txt_of X G c
  obtain ⟨fdR, FR⟩ := obsK_fn (kd := kds) c (i := 31) (d := meK "Row" "__init__" "Row.__init__" s_Row_init) rfl
  have bR : Binds K fdR ["self", "told"] [] := FR.binds fun _ _ _ _ _ _ us hl => match us, hl with | [_, _], _ => rfl
  obtain ⟨fdP, FP⟩ := obsK_fn (kd := kds) c (i := 32) (d := meK "Pattern" "__init__" "Pattern.__init__" s_Pat_init) rfl
  obtain ⟨fdC, FC⟩ := obsK_fn (kd := kds) c (i := 33) (d := meK "Pattern" "__call__" "Pattern.__call__" s_Pattern_call) rfl
  have bC : Binds K fdC ["self", "load"] [] := FC.binds fun _ _ _ _ _ _ us hl => match us, hl with | [_, _], _ => rfl
  obtain ⟨fdE, FE⟩ := obsK_fn (kd := kds) c (i := 34) (d := meK "Pattern" "__eq__" "Pattern.__eq__" s_Pattern_eq) rfl
  have bE : Binds K fdE ["self", "other"] [] := FE.binds fun _ _ _ _ _ _ us hl => match us, hl with | [_, _], _ => rfl
  obtain ⟨fdS, FS⟩ := obsK_fn (kd := kds) c (i := 35) (d := reK "Pattern" "read" "staticmethod" "Pattern.read" s_Pattern_read) rfl
  have bS : Binds K fdS ["text"] [] := FS.binds fun _ _ _ _ _ _ us hl => match us, hl with | [_], _ => rfl
  obtain ⟨fdN, FN⟩ := obsK_fn (kd := kds) c (i := 36) (d := reK "Pattern" "numbers" "property" "Pattern.numbers" s_Pattern_numbers) rfl
  have bN : Binds K fdN ["self"] [] := FN.binds fun _ _ _ _ _ _ us hl => match us, hl with | [_], _ => rfl
  have mR : Mk K T.cR (He.ma K (He.ga K "Row") "__init__") := He.mkr_ok (chk_at c 17 rfl)
  have mP : Mk K T.cP (He.ma K (He.ga K "Pattern") "__init__") := He.mkr_ok (chk_at c 18 rfl)
  have hC := He.meth_ok (chk_at c 32 rfl)
  have hE := He.meth_ok (chk_at c 34 rfl)
  have cC : StX.CallO K T.cP (He.ma K (He.ga K "Pattern") "__call__") := ⟨hC.at_, hC.fn, chk_at c 33 rfl⟩
  have cE : OwnEq K T.cP (He.ma K (He.ga K "Pattern") "__eq__") := ⟨hE.at_, hE.fn⟩
  have cN : PropOf K T.cP "numbers" (He.ma K (He.ga K "Pattern") "numbers") (inAd K "Pattern" "numbers" "property") := ⟨He.eqO_ok (chk_at c 35 rfl), He.eqO_ok (chk_at c 36 rfl), isS_ok (chk_at c 37 rfl), in_ok (chk_at c 38 rfl)⟩
  have cS : SMet K T.cP T.mc "read" (He.ma K (He.ga K "Pattern") "read") (inAd K "Pattern" "read" "staticmethod") := ⟨sm_ok (chk_at c 39 rfl), in_ok (chk_at c 40 rfl), FS.kp⟩
  refine ⟨fdL, fun s v => ?_, gL, fun base KB GB => ?_⟩
  · obtain ⟨oc, od, kV, doc, pm, an, cdv, ct, osl, rfl, lk, hcd⟩ := FL.ex
    exact .of_eq rfl
  · have o1 := ok_is_integer (P := P) (w := w) (base := base) T (d_is_integer X G c)
    have o2 := ok_is_between (d_is_between X G c) o1
    have o3 := ok_is_fraction T (d_is_fraction X G c) o1
    have o4 := ok_is_number T (d_is_number X G c) o1 o3
    have o5 := ok_is_resistance T (d_is_resistance X G c) o4
    have o6 := ok_check_resistance (d_check_resistance X G c) o5
    have o7 := ok_common (P := P) (w := w) (base := base) T (d_common X G c)
    have o8 := ok_lowest (d_lowest X G c) o7
    have o9 := ok_pair_of T (d_pair_of X G c) o8
    have o10 := ok_joined (P := P) (w := w) (base := base) (d_joined X G c)
    have o11 := ok_led (P := P) (w := w) (base := base) (d_led X G c)
    have o12 := ok_shown (d_shown X G c) o11 o8
    have o13 := ok_chain_of T (d_chain_of X G c) o10
    have o14 := ok_integer_in (P := P) (w := w) (base := base) T (d_integer_in X G c)
    have o15 := ok_piece_in T (d_piece_in X G c) o14 o2
    have o16 := ok_is_piece T (d_is_piece X G c) o2
    have o17 := ok_check_pieces T (d_check_pieces X G c) o16
    have oR := ok_Row (P := P) (w := w) (mg := mg) (base := base) T ⟨_, fdR, FR, mR, bR⟩
    have oP := ok_Pat (P := P) (w := w) (mg := mg) (base := base) T ⟨_, fdP, FP, mP⟩ o17 o13
    have o18 := ok_pattern_in T (d_pattern_in X G c) o15 oR oP
    have oS := ok_Read T ⟨_, _, fdS, FS, cS, bS⟩ o18
    have oN := ok_Nums (P := P) (w := w) (mg := mg) (base := base) T ⟨_, _, fdN, FN, cN, bN⟩ o8
    have oC := ok_Call T ⟨_, fdC, FC, cC, bC⟩ o6 o12 o9
    have oE := ok_Eq T ⟨_, fdE, FE, cE, bE⟩ oN
    have l1 := ok_law_cup (P := P) (w := w) (base := base) T (d_law_cup X G c)
    have l2 := ok_law_sip (P := P) (w := w) (base := base) T (d_law_sip X G c)
    have l3 := ok_law_pick T (d_law_pick X G c) l2
    have l4 := ok_law_pair (P := P) (w := w) (base := base) T (d_law_pair X G c)
    have l5 := ok_law_front (d_law_front X G c) l4
    have l6 := ok_law_row T (d_law_row X G c) l2 l3
    have l7 := ok_law_words (P := P) (w := w) (base := base) T (d_law_words X G c)
    have l8 := ok_law_end T (d_law_end X G c) l2 l4
    have l9 := ok_law_read T (d_law_read X G c) l7 oS
    have l10 := ok_law_mate T (d_law_mate X G c) l2 l6
    have l11 := ok_law_same (d_law_same X G c) l5
    have l12 := ok_law_right T (d_law_right X G c) l6 l10 l9 l11 l8 oE oN oC
    exact ok_law T FL l1 l12 oP oE
end
end K13

namespace K13
open PySem PySem.Spec PyProof.Rows L2
abbrev R : PySem.W.OpenRow := PySem.W.OpenLaw.row PySem.Challenge.rw_rungladders_k13_whole_patterns_equal_by
abbrev hk : PySem.W.Hook := hookK kds exB
def ob (s : PySem.W.SharedT) : AlK := obsK kds exB (seeK (HandSHeadRun.getT s))
theorem ob_eq (s : PySem.W.SharedT) : ob s = hk.obs s.abs := obsK_eq (HandSHeadRun.getT_eq s)
theorem run (w : World) : HandSHeadRun.RunEq R (PySem.W.view R.prog [54]) hk ob 4000 looseN w := by
  intro os
  kernel_rfl
end K13

open PySem PySem.W PySem.Calls PyProof.Rows
theorem PySem.Challenge.cw_rungladders_k13_whole_patterns_equal_by_holds : PySem.Challenge.rw_rungladders_k13_whole_patterns_equal_by.Holds := by
  w_on; o_law
  refine HandSHeadRun.head_any (r := OpenLaw.row PySem.Challenge.rw_rungladders_k13_whole_patterns_equal_by) (q := view (OpenLaw.row PySem.Challenge.rw_rungladders_k13_whole_patterns_equal_by).prog [54]) (H := K13.hk) (ob := K13.ob) (M := 4000) (loose := K13.looseN) (d := HandSHeadRun.topDef (OpenLaw.row PySem.Challenge.rw_rungladders_k13_whole_patterns_equal_by).prog 54) (kwd := []) K13.ob_eq
    (by kernel_rfl) (fun s => by kernel_rfl) K13.run (by kernel_rfl) (by kernel_rfl) (by kernel_rfl) (by rfl) (by first | assumption | decide +kernel) (by decide +kernel) ⟨rfl, rfl, rfl, rfl, rfl, by decide +kernel⟩ ?hw ?hc
  case hw => w_witness2
  case hc =>
    refine K13.walk_g (l := PySem.Challenge.rw_rungladders_k13_whole_patterns_equal_by) (n := 63) (k := 11) (x := "_law_script") rfl (by decide) (by kernel_rfl) ⟨rfl, by decide, by decide⟩ ?F
    intro w mg fa h Y G hmg0
    obtain ⟨K, KX, c⟩ := Y
    have hmg : mg ("law" : PySem.Str) = some (.ref fa) := by
      have e : (HandSHeadRun.topDef (OpenLaw.row PySem.Challenge.rw_rungladders_k13_whole_patterns_equal_by).prog 54).name = ("law" : PySem.Str) := by kernel_rfl
      rw [← e]
      exact hmg0
    obtain ⟨fd, hb, gL, hF⟩ := K13.law_ok (P := (PySem.Challenge.rw_rungladders_k13_whole_patterns_equal_by).prog) (w := w) KX G c
    have ef : Value.ref (He.ga K "law") = .ref fa := Option.some.inj (gL.symm.trans hmg)
    injection ef with ef
    subst ef
    exact ⟨K, fd, K13.spLaw K, KX, hb, fun H a ns hl hS => ⟨a, ns, rfl, hS, fun _ => rfl⟩, hF⟩
