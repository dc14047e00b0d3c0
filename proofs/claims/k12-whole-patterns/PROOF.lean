import PyProof.Rows.All
import Wide.All
import OpenK.AllK
import Wide.FinOn
import PyProof.ReprRoads
import HandS.Base
import HandS.Call
import HandS.List
import HandS.Ends
import HandS.Words
import HandS.Star
import KE.GoesMore
import KE.GoesEnum
import HandS.ClsMeth
import HandS.Iter
import HandS.ForMost
import HandS.IsInst
import HandS.Wide
import HandS.Style
import HandS.Deep
import HandS.Property
import HandS.Walk
import HandS.Codes
import PySem.Challenge.RW_rungladders_k12_whole_patterns_show_by_t
set_option Elab.async false
set_option linter.all false
set_option maxRecDepth 100000
set_option maxHeartbeats 4000000
/-! The plain law: rows of pieces, their chains, what they show. -/
namespace K12
/-- a piece: whether it is a rail, its ohms -/
abbrev Pc := Bool × Nat
def PcOk (p : Pc) : Prop := 1 ≤ p.2 ∧ p.2 ≤ 12
def RowOk (l : List Pc) : Prop := ∀ p ∈ l, PcOk p
structure Ch where
  a : Nat
  b : Nat
  c : Nat
  d : Nat
def Ch.one : Ch := ⟨1, 0, 0, 1⟩
def Ch.mul (m n : Ch) : Ch := ⟨m.a * n.a + m.b * n.c, m.a * n.b + m.b * n.d, m.c * n.a + m.d * n.c, m.c * n.b + m.d * n.d⟩
def pcCh (p : Pc) : Ch := if p.1 then ⟨1, p.2, 0, 1⟩ else ⟨p.2, 0, 1, p.2⟩
def stepC (f : Ch) (p : Pc) : Ch := f.mul (pcCh p)
def stepS (s : Nat) (p : Pc) : Nat := if p.1 then s else s * p.2
def chain (l : List Pc) : Ch := l.foldl stepC Ch.one
def scale (l : List Pc) : Nat := l.foldl stepS 1
def app (m : Ch) (x : Nat × Nat) : Nat × Nat := (m.a * x.1 + m.b * x.2, m.c * x.1 + m.d * x.2)
def low (x : Nat × Nat) : Nat × Nat := (x.1 / Nat.gcd x.1 x.2, x.2 / Nat.gcd x.1 x.2)
def step (x : Nat × Nat) (p : Pc) : Nat × Nat :=
  if p.1 then (x.1 + p.2 * x.2, x.2) else if x.2 = 0 then (p.2, 1) else (p.2 * x.1, p.2 * x.2 + x.1)
def raw (l : List Pc) (x : Nat × Nat) : Nat × Nat := l.reverse.foldl step x
def front (l : List Pc) (x : Nat × Nat) : Nat × Nat := low (raw l x)
def NZ (x : Nat × Nat) : Prop := 0 < x.1 + x.2
def sc (k : Nat) (x : Nat × Nat) : Nat × Nat := (k * x.1, k * x.2)

/-! ### the chains -/
theorem mul_assoc' (m n o : Ch) : (m.mul n).mul o = m.mul (n.mul o) := by
  simp only [Ch.mul, Ch.mk.injEq]
  refine ⟨?_, ?_, ?_, ?_⟩ <;> grind
theorem one_mul' (m : Ch) : Ch.one.mul m = m := by
  cases m; simp [Ch.one, Ch.mul]
theorem mul_one' (m : Ch) : m.mul Ch.one = m := by
  cases m; simp [Ch.one, Ch.mul]
theorem foldl_mul (l : List Pc) : ∀ m : Ch, l.foldl stepC m = m.mul (chain l) := by
  induction l with
  | nil => intro m; exact (mul_one' m).symm
  | cons p l ih =>
    intro m
    show l.foldl stepC (m.mul (pcCh p)) = m.mul (l.foldl stepC (Ch.one.mul (pcCh p)))
    rw [ih, ih, one_mul', mul_assoc']
theorem chain_append (l r : List Pc) : chain (l ++ r) = (chain l).mul (chain r) := by
  show (l ++ r).foldl stepC Ch.one = _
  rw [List.foldl_append, foldl_mul r]
  rfl
theorem chain_cons (p : Pc) (l : List Pc) : chain (p :: l) = (pcCh p).mul (chain l) := by
  show l.foldl stepC (Ch.one.mul (pcCh p)) = _
  rw [foldl_mul, one_mul']
theorem foldl_sc (l : List Pc) : ∀ s : Nat, l.foldl stepS s = s * scale l := by
  induction l with
  | nil => intro s; exact (Nat.mul_one s).symm
  | cons p l ih =>
    intro s
    show l.foldl stepS (stepS s p) = s * l.foldl stepS (stepS 1 p)
    rw [ih, ih]
    unfold stepS
    split
    · rw [Nat.one_mul]
    · rw [Nat.one_mul, Nat.mul_assoc]
theorem app_mul (m n : Ch) (x : Nat × Nat) : app (m.mul n) x = app m (app n x) := by
  simp only [app, Ch.mul, Prod.mk.injEq]
  refine ⟨?_, ?_⟩ <;> grind
theorem app_sc (m : Ch) (k : Nat) (x : Nat × Nat) : app m (sc k x) = sc k (app m x) := by
  simp only [app, sc, Prod.mk.injEq]
  refine ⟨?_, ?_⟩ <;> grind
theorem sc_sc (k j : Nat) (x : Nat × Nat) : sc k (sc j x) = sc (k * j) x := by
  simp only [sc, Nat.mul_assoc]
theorem sc_one (x : Nat × Nat) : sc 1 x = x := by
  simp [sc]

/-! ### lowest terms -/
theorem low_sc {k : Nat} (hk : 0 < k) (x : Nat × Nat) : low (sc k x) = low x := by
  simp only [low, sc, Nat.gcd_mul_left, Nat.mul_div_mul_left _ _ hk]
theorem gcd_pos {x : Nat × Nat} (h : NZ x) : 0 < Nat.gcd x.1 x.2 := by
  unfold NZ at h
  rcases Nat.eq_zero_or_pos x.1 with e | e
  · exact Nat.gcd_pos_of_pos_right _ (by omega)
  · exact Nat.gcd_pos_of_pos_left _ e
theorem sc_low {x : Nat × Nat} : sc (Nat.gcd x.1 x.2) (low x) = x := by
  simp only [sc, low]
  rw [Nat.mul_div_cancel' (Nat.gcd_dvd_left _ _), Nat.mul_div_cancel' (Nat.gcd_dvd_right _ _)]
theorem low_pos {x : Nat × Nat} (h : NZ x) : NZ (low x) := by
  have e : sc (Nat.gcd x.1 x.2) (low x) = x := sc_low
  have h2 : NZ (sc (Nat.gcd x.1 x.2) (low x)) := by rw [e]; exact h
  simp only [NZ, sc] at h2 ⊢
  rcases Nat.eq_zero_or_pos ((low x).1 + (low x).2) with z | z
  · have z1 : (low x).1 = 0 := by omega
    have z2 : (low x).2 = 0 := by omega
    rw [z1, z2] at h2
    simp at h2
  · exact z
theorem low_gcd {x : Nat × Nat} (h : NZ x) : Nat.gcd (low x).1 (low x).2 = 1 := by
  simp only [low]
  rw [Nat.gcd_div (Nat.gcd_dvd_left _ _) (Nat.gcd_dvd_right _ _)]
  exact Nat.div_self (gcd_pos h)
theorem low_of {x : Nat × Nat} (h : Nat.gcd x.1 x.2 = 1) : low x = x := by
  simp only [low, h, Nat.div_one]
theorem low_low {x : Nat × Nat} (h : NZ x) : low (low x) = low x := low_of (low_gcd h)
theorem low_le1 (x : Nat × Nat) : (low x).1 ≤ x.1 := Nat.div_le_self _ _
theorem low_le2 (x : Nat × Nat) : (low x).2 ≤ x.2 := Nat.div_le_self _ _
theorem pos_gcd {x : Nat × Nat} (h : Nat.gcd x.1 x.2 = 1) : NZ x := by
  unfold NZ
  rcases Nat.eq_zero_or_pos (x.1 + x.2) with z | z
  · have z1 : x.1 = 0 := by omega
    have z2 : x.2 = 0 := by omega
    rw [z1, z2] at h
    simp at h
  · exact z
/-- an open end in lowest terms -/
theorem open_one {x : Nat × Nat} (h : Nat.gcd x.1 x.2 = 1) (h0 : x.2 = 0) : x.1 = 1 := by
  rw [h0, Nat.gcd_zero_right] at h
  exact h

/-! ### what a row shows -/
theorem raw_cons (p : Pc) (l : List Pc) (x : Nat × Nat) : raw (p :: l) x = step (raw l x) p := by
  simp only [raw, List.reverse_cons, List.foldl_append, List.foldl_cons, List.foldl_nil]
theorem step_pos {x : Nat × Nat} {p : Pc} (h : NZ x) (hp : PcOk p) : NZ (step x p) := by
  obtain ⟨t, b⟩ := x
  obtain ⟨r, o⟩ := p
  simp only [NZ, PcOk, step] at *
  cases r
  · simp only [Bool.false_eq_true, if_false]
    split
    · simp only; omega
    · simp only
      have : o * b ≥ b := Nat.le_mul_of_pos_left b (by omega)
      omega
  · simp only [if_true]
    have : 0 ≤ o * b := Nat.zero_le _
    omega
theorem step_app {x : Nat × Nat} {p : Pc} (h : NZ x) : ∃ k, 0 < k ∧ app (pcCh p) x = sc k (step x p) := by
  obtain ⟨t, b⟩ := x
  obtain ⟨r, o⟩ := p
  simp only [NZ] at h
  cases r
  · by_cases hb : b = 0
    · subst hb
      refine ⟨t, by omega, ?_⟩
      simp only [app, pcCh, sc, step, Bool.false_eq_true, if_false, if_true, Prod.mk.injEq]
      refine ⟨?_, ?_⟩ <;> grind
    · refine ⟨1, Nat.one_pos, ?_⟩
      simp only [app, pcCh, sc, step, Bool.false_eq_true, if_false, if_neg hb, Prod.mk.injEq]
      refine ⟨?_, ?_⟩ <;> grind
  · refine ⟨1, Nat.one_pos, ?_⟩
    simp only [app, pcCh, sc, step, if_true, Prod.mk.injEq]
    refine ⟨?_, ?_⟩ <;> grind
theorem raw_pos : ∀ {l : List Pc} {x : Nat × Nat}, RowOk l → NZ x → NZ (raw l x)
  | [], _, _, h => h
  | p :: l, x, hl, h => by
    rw [raw_cons]
    exact step_pos (raw_pos (fun q hq => hl q (List.mem_cons_of_mem _ hq)) h) (hl p List.mem_cons_self)
theorem app_chain : ∀ {l : List Pc} {x : Nat × Nat}, RowOk l → NZ x → ∃ k, 0 < k ∧ app (chain l) x = sc k (raw l x)
  | [], x, _, h => ⟨1, Nat.one_pos, by
      simp only [chain, List.foldl_nil, app, Ch.one, sc, raw, List.reverse_nil]
      refine Prod.ext ?_ ?_ <;> simp⟩
  | p :: l, x, hl, h => by
    have hl2 : RowOk l := fun q hq => hl q (List.mem_cons_of_mem _ hq)
    obtain ⟨k, hk, e⟩ := app_chain hl2 h
    obtain ⟨j, hj, e2⟩ := step_app (p := p) (raw_pos hl2 h)
    refine ⟨k * j, Nat.mul_pos hk hj, ?_⟩
    rw [chain_cons, app_mul, e, app_sc, e2, sc_sc, raw_cons]
theorem app_pos {l : List Pc} {x : Nat × Nat} (hl : RowOk l) (h : NZ x) : NZ (app (chain l) x) := by
  obtain ⟨k, hk, e⟩ := app_chain hl h
  have hp := raw_pos hl h
  rw [e]
  simp only [NZ, sc] at *
  have : k * ((raw l x).1 + (raw l x).2) ≥ (raw l x).1 + (raw l x).2 := Nat.le_mul_of_pos_left _ hk
  rw [Nat.mul_add] at this
  omega
/-- what the chain shows in lowest terms is what the pieces show -/
theorem shown_eq {l : List Pc} {x : Nat × Nat} (hl : RowOk l) (h : NZ x) : low (app (chain l) x) = front l x := by
  obtain ⟨k, hk, e⟩ := app_chain hl h
  rw [e, low_sc hk]
  rfl
/-- .. the same of a joined row -/
theorem shown_two {l r : List Pc} {x : Nat × Nat} (hl : RowOk l) (hr : RowOk r) (h : NZ x) : low (app (chain (l ++ r)) x) = front l (front r x) := by
  have hp := raw_pos hr h
  obtain ⟨k, hk, e⟩ := app_chain hr h
  rw [chain_append, app_mul, e, app_sc, low_sc hk]
  rw [← shown_eq hl (show NZ (front r x) from low_pos hp)]
  conv => lhs; rw [← sc_low (x := raw r x)]
  rw [app_sc, low_sc (gcd_pos hp)]
  rfl
/-- .. with the load in other than lowest terms -/
theorem shown_low {l : List Pc} {k : Nat} {x : Nat × Nat} (hk : 0 < k) (hx : Nat.gcd x.1 x.2 = 1) : low (app (chain l) (low (sc k x))) = low (app (chain l) x) := by
  rw [low_sc hk, low_of hx]

/-! ### the four fractions -/
def byNum (A B C D x : Nat × Nat) : Nat × Nat := ((A.1 * B.2 * x.1 + B.1 * A.2 * x.2) * C.2 * D.2, (C.1 * D.2 * x.1 + D.1 * C.2 * x.2) * A.2 * B.2)
theorem low_cross {n s : Nat} : s * (low (n, s)).1 = n * (low (n, s)).2 := by
  have e : sc (Nat.gcd n s) (low (n, s)) = (n, s) := sc_low (x := (n, s))
  have e1 : Nat.gcd n s * (low (n, s)).1 = n := congrArg Prod.fst e
  have e2 : Nat.gcd n s * (low (n, s)).2 = s := congrArg Prod.snd e
  have q1 : s * (low (n, s)).1 = (Nat.gcd n s * (low (n, s)).2) * (low (n, s)).1 := by rw [e2]
  have q2 : n * (low (n, s)).2 = (Nat.gcd n s * (low (n, s)).1) * (low (n, s)).2 := by rw [e1]
  rw [q1, q2, Nat.mul_assoc, Nat.mul_assoc, Nat.mul_comm (low (n, s)).2]
theorem low_snd_pos {n s : Nat} (hs : 0 < s) : 0 < (low (n, s)).2 := by
  have e : sc (Nat.gcd n s) (low (n, s)) = (n, s) := sc_low (x := (n, s))
  have e2 : Nat.gcd n s * (low (n, s)).2 = s := congrArg Prod.snd e
  rcases Nat.eq_zero_or_pos (low (n, s)).2 with z | z
  · rw [z, Nat.mul_zero] at e2
    omega
  · exact z
theorem byNum_sc {a b c d s : Nat} {A B C D x : Nat × Nat} (hA : s * A.1 = a * A.2) (hB : s * B.1 = b * B.2) (hC : s * C.1 = c * C.2) (hD : s * D.1 = d * D.2) :
    sc s (byNum A B C D x) = sc (A.2 * B.2 * C.2 * D.2) (app ⟨a, b, c, d⟩ x) := by
  obtain ⟨A1, A2⟩ := A
  obtain ⟨B1, B2⟩ := B
  obtain ⟨C1, C2⟩ := C
  obtain ⟨D1, D2⟩ := D
  obtain ⟨x1, x2⟩ := x
  simp only [sc, byNum, app, Prod.mk.injEq] at *
  refine ⟨?_, ?_⟩ <;> grind
theorem by_numbers {l : List Pc} {s : Nat} {x : Nat × Nat} (hs : 0 < s) (hl : RowOk l) (h : NZ x) :
    low (byNum (low ((chain l).a, s)) (low ((chain l).b, s)) (low ((chain l).c, s)) (low ((chain l).d, s)) x) = front l x := by
  have e := byNum_sc (x := x) (low_cross (n := (chain l).a) (s := s)) (low_cross (n := (chain l).b) (s := s)) (low_cross (n := (chain l).c) (s := s)) (low_cross (n := (chain l).d) (s := s))
  rw [← low_sc hs, e, low_sc, ← shown_eq hl h]
  exact Nat.mul_pos (Nat.mul_pos (Nat.mul_pos (low_snd_pos hs) (low_snd_pos hs)) (low_snd_pos hs)) (low_snd_pos hs)
theorem byNum_pos {l : List Pc} {s : Nat} {x : Nat × Nat} (hs : 0 < s) (hl : RowOk l) (h : NZ x) :
    NZ (byNum (low ((chain l).a, s)) (low ((chain l).b, s)) (low ((chain l).c, s)) (low ((chain l).d, s)) x) := by
  have e := byNum_sc (x := x) (low_cross (n := (chain l).a) (s := s)) (low_cross (n := (chain l).b) (s := s)) (low_cross (n := (chain l).c) (s := s)) (low_cross (n := (chain l).d) (s := s))
  have hp := app_pos hl h
  have hk : 0 < (low ((chain l).a, s)).2 * (low ((chain l).b, s)).2 * (low ((chain l).c, s)).2 * (low ((chain l).d, s)).2 :=
    Nat.mul_pos (Nat.mul_pos (Nat.mul_pos (low_snd_pos hs) (low_snd_pos hs)) (low_snd_pos hs)) (low_snd_pos hs)
  generalize byNum (low ((chain l).a, s)) (low ((chain l).b, s)) (low ((chain l).c, s)) (low ((chain l).d, s)) x = y at e ⊢
  generalize (low ((chain l).a, s)).2 * (low ((chain l).b, s)).2 * (low ((chain l).c, s)).2 * (low ((chain l).d, s)).2 = k at e hk
  have hp2 : NZ (app ⟨(chain l).a, (chain l).b, (chain l).c, (chain l).d⟩ x) := hp
  generalize app ⟨(chain l).a, (chain l).b, (chain l).c, (chain l).d⟩ x = z at e hp2
  have e1 : s * y.1 = k * z.1 := congrArg Prod.fst e
  have e2 : s * y.2 = k * z.2 := congrArg Prod.snd e
  unfold NZ at hp2 ⊢
  rcases Nat.eq_zero_or_pos (y.1 + y.2) with q | q
  · have y1 : y.1 = 0 := by omega
    have y2 : y.2 = 0 := by omega
    rw [y1, Nat.mul_zero] at e1
    rw [y2, Nat.mul_zero] at e2
    have z1 : z.1 = 0 := (Nat.mul_eq_zero.mp e1.symm).resolve_left (by omega)
    have z2 : z.2 = 0 := (Nat.mul_eq_zero.mp e2.symm).resolve_left (by omega)
    omega
  · exact q

/-! ### the order -/
def below (x y : Nat × Nat) : Prop := x.1 * y.2 < y.1 * x.2
instance (x y : Nat × Nat) : Decidable (below x y) := inferInstanceAs (Decidable (_ < _))
theorem det_mul {m n : Ch} {p q : Nat} (hm : m.a * m.d = m.b * m.c + p) (hn : n.a * n.d = n.b * n.c + q) : (m.mul n).a * (m.mul n).d = (m.mul n).b * (m.mul n).c + p * q := by
  obtain ⟨a, b, c, d⟩ := m
  obtain ⟨e, f, g, h⟩ := n
  simp only [Ch.mul] at *
  have e1 : (a * e + b * g) * (c * f + d * h) = a * c * (e * f) + (a * d) * (e * h) + (b * c) * (f * g) + b * d * (g * h) := by grind
  have e2 : (a * f + b * h) * (c * e + d * g) = a * c * (e * f) + (a * d) * (f * g) + (b * c) * (e * h) + b * d * (g * h) := by grind
  rw [e1, e2, hm, hn]
  grind
theorem det_pc {p : Pc} (hp : PcOk p) : ∃ k, 0 < k ∧ (pcCh p).a * (pcCh p).d = (pcCh p).b * (pcCh p).c + k := by
  obtain ⟨r, o⟩ := p
  simp only [PcOk] at hp
  cases r
  · exact ⟨o * o, Nat.mul_pos (by omega) (by omega), by simp [pcCh]⟩
  · exact ⟨1, Nat.one_pos, by simp [pcCh]⟩
theorem det_chain : ∀ {l : List Pc}, RowOk l → ∃ k, 0 < k ∧ (chain l).a * (chain l).d = (chain l).b * (chain l).c + k
  | [], _ => ⟨1, Nat.one_pos, by simp [chain, Ch.one]⟩
  | p :: l, h => by
    obtain ⟨k, hk, e⟩ := det_chain (l := l) fun q hq => h q (List.mem_cons_of_mem _ hq)
    obtain ⟨j, hj, e2⟩ := det_pc (h p List.mem_cons_self)
    rw [chain_cons]
    exact ⟨j * k, Nat.mul_pos hj hk, det_mul e2 e⟩
theorem below_app {m : Ch} {k : Nat} (hk : 0 < k) (hm : m.a * m.d = m.b * m.c + k) (x y : Nat × Nat) : below (app m x) (app m y) ↔ below x y := by
  obtain ⟨a, b, c, d⟩ := m
  obtain ⟨x1, x2⟩ := x
  obtain ⟨y1, y2⟩ := y
  simp only [below, app] at *
  have e1 : (a * x1 + b * x2) * (c * y1 + d * y2) = a * c * (x1 * y1) + (a * d) * (x1 * y2) + (b * c) * (y1 * x2) + b * d * (x2 * y2) := by grind
  have e2 : (a * y1 + b * y2) * (c * x1 + d * x2) = a * c * (x1 * y1) + (a * d) * (y1 * x2) + (b * c) * (x1 * y2) + b * d * (x2 * y2) := by grind
  rw [e1, e2, hm]
  generalize x1 * y2 = u
  generalize y1 * x2 = v
  rw [Nat.add_mul, Nat.add_mul]
  constructor
  · intro h
    have : k * u < k * v := by omega
    exact Nat.lt_of_mul_lt_mul_left this
  · intro h
    have : k * u < k * v := Nat.mul_lt_mul_of_pos_left h hk
    omega
theorem below_sc {k j : Nat} (hk : 0 < k) (hj : 0 < j) (x y : Nat × Nat) : below (sc k x) (sc j y) ↔ below x y := by
  obtain ⟨x1, x2⟩ := x
  obtain ⟨y1, y2⟩ := y
  simp only [below, sc]
  have e1 : k * x1 * (j * y2) = (k * j) * (x1 * y2) := by grind
  have e2 : j * y1 * (k * x2) = (k * j) * (y1 * x2) := by grind
  rw [e1, e2]
  exact ⟨fun h => Nat.lt_of_mul_lt_mul_left h, fun h => Nat.mul_lt_mul_of_pos_left h (Nat.mul_pos hk hj)⟩
/-- what a row shows rises with the load -/
theorem below_front {l : List Pc} {x y : Nat × Nat} (hl : RowOk l) (hx : NZ x) (hy : NZ y) : below (front l x) (front l y) ↔ below x y := by
  obtain ⟨d, hd, ed⟩ := det_chain hl
  have px := app_pos hl hx
  have py := app_pos hl hy
  rw [← below_app hd ed x y]
  conv => rhs; rw [← sc_low (x := app (chain l) x), ← sc_low (x := app (chain l) y)]
  rw [below_sc (gcd_pos px) (gcd_pos py), shown_eq hl hx, shown_eq hl hy]

/-! ### bounds -/
def Le (m : Nat) (x : Nat × Nat) : Prop := x.1 ≤ m ∧ x.2 ≤ m
theorem step_le {x : Nat × Nat} {p : Pc} {m : Nat} (h1 : 1 ≤ m) (h : Le m x) (hp : PcOk p) : Le (13 * m) (step x p) := by
  obtain ⟨t, b⟩ := x
  obtain ⟨r, o⟩ := p
  simp only [Le, PcOk, step] at *
  have q1 : o * b ≤ 12 * m := Nat.mul_le_mul hp.2 h.2
  have q2 : o * t ≤ 12 * m := Nat.mul_le_mul hp.2 h.1
  cases r
  · simp only [Bool.false_eq_true, if_false]
    split
    · simp only; omega
    · simp only; omega
  · simp only [if_true]; omega
theorem raw_le {m : Nat} (h1 : 1 ≤ m) : ∀ {l : List Pc} {x : Nat × Nat}, RowOk l → Le m x → Le (13 ^ l.length * m) (raw l x)
  | [], x, _, h => by
    show Le (13 ^ 0 * m) x
    rw [Nat.pow_zero, Nat.one_mul]
    exact h
  | p :: l, x, hl, h => by
    rw [raw_cons, List.length_cons, Nat.pow_succ, Nat.mul_comm (13 ^ l.length) 13, Nat.mul_assoc]
    refine step_le ?_ (raw_le h1 (fun q hq => hl q (List.mem_cons_of_mem _ hq)) h) (hl p List.mem_cons_self)
    exact Nat.mul_pos (Nat.pow_pos (by omega)) h1
theorem low_le {m : Nat} {x : Nat × Nat} (h : Le m x) : Le m (low x) := ⟨Nat.le_trans (low_le1 x) h.1, Nat.le_trans (low_le2 x) h.2⟩
theorem Le.mono {m n : Nat} {x : Nat × Nat} (h : Le m x) (hn : m ≤ n) : Le n x := ⟨Nat.le_trans h.1 hn, Nat.le_trans h.2 hn⟩
theorem front_le {m : Nat} {l : List Pc} {x : Nat × Nat} (h1 : 1 ≤ m) (hl : RowOk l) (h : Le m x) : Le (13 ^ l.length * m) (front l x) := low_le (raw_le h1 hl h)
structure ChLe (m : Nat) (f : Ch) : Prop where
  a : f.a ≤ m
  b : f.b ≤ m
  c : f.c ≤ m
  d : f.d ≤ m
theorem stepC_le {f : Ch} {p : Pc} {m : Nat} (h : ChLe m f) (hp : PcOk p) : ChLe (13 * m) (stepC f p) := by
  obtain ⟨a, b, c, d⟩ := f
  obtain ⟨r, o⟩ := p
  obtain ⟨ha, hb, hc, hd⟩ := h
  simp only [PcOk] at hp ha hb hc hd
  have q1 : a * o ≤ m * 12 := Nat.mul_le_mul ha hp.2
  have q2 : b * o ≤ m * 12 := Nat.mul_le_mul hb hp.2
  have q3 : c * o ≤ m * 12 := Nat.mul_le_mul hc hp.2
  have q4 : d * o ≤ m * 12 := Nat.mul_le_mul hd hp.2
  cases r
  · constructor <;> simp only [stepC, Ch.mul, pcCh, Bool.false_eq_true, if_false, Nat.mul_one, Nat.mul_zero] <;> omega
  · constructor <;> simp only [stepC, Ch.mul, pcCh, if_true, Nat.mul_one, Nat.mul_zero] <;> omega
theorem fold_le : ∀ {l : List Pc} {f : Ch} {m : Nat}, ChLe m f → RowOk l → ChLe (13 ^ l.length * m) (l.foldl stepC f)
  | [], f, m, h, _ => by
    show ChLe (13 ^ 0 * m) f
    rw [Nat.pow_zero, Nat.one_mul]
    exact h
  | p :: l, f, m, h, hl => by
    have z := fold_le (stepC_le h (hl p List.mem_cons_self)) fun q hq => hl q (List.mem_cons_of_mem _ hq)
    rw [List.length_cons, Nat.pow_succ, Nat.mul_assoc]
    exact z
theorem ChLe.mono {m n : Nat} {f : Ch} (h : ChLe m f) (hn : m ≤ n) : ChLe n f := ⟨Nat.le_trans h.a hn, Nat.le_trans h.b hn, Nat.le_trans h.c hn, Nat.le_trans h.d hn⟩
theorem chain_le {l : List Pc} (hl : RowOk l) : ChLe (13 ^ l.length) (chain l) := by
  have z := fold_le (f := Ch.one) (m := 1) ⟨by decide, by decide, by decide, by decide⟩ hl
  rw [Nat.mul_one] at z
  exact z
theorem scale_le : ∀ {l : List Pc} {s : Nat}, RowOk l → 0 < s → 0 < l.foldl stepS s ∧ l.foldl stepS s ≤ 12 ^ l.length * s
  | [], s, _, h => ⟨h, by simp⟩
  | p :: l, s, hl, h => by
    have hp := hl p List.mem_cons_self
    have h2 : 0 < stepS s p ∧ stepS s p ≤ 12 * s := by
      unfold stepS
      split
      · omega
      · refine ⟨Nat.mul_pos h hp.1, ?_⟩
        rw [Nat.mul_comm]
        exact Nat.mul_le_mul_right s hp.2
    have z := scale_le (l := l) (s := stepS s p) (fun q hq => hl q (List.mem_cons_of_mem _ hq)) h2.1
    refine ⟨z.1, Nat.le_trans z.2 ?_⟩
    rw [List.length_cons, Nat.pow_succ, Nat.mul_assoc]
    exact Nat.mul_le_mul_left _ h2.2
theorem scale_pos {l : List Pc} (hl : RowOk l) : 0 < scale l := (scale_le hl Nat.one_pos).1
theorem app_le {m n : Nat} {f : Ch} {x : Nat × Nat} (hf : ChLe m f) (hx : Le n x) : Le (2 * (m * n)) (app f x) := by
  have q1 : f.a * x.1 ≤ m * n := Nat.mul_le_mul hf.a hx.1
  have q2 : f.b * x.2 ≤ m * n := Nat.mul_le_mul hf.b hx.2
  have q3 : f.c * x.1 ≤ m * n := Nat.mul_le_mul hf.c hx.1
  have q4 : f.d * x.2 ≤ m * n := Nat.mul_le_mul hf.d hx.2
  constructor <;> simp only [app] <;> omega
end K12
/-! Rules of our own: repr of data, calls under known guards. -/
namespace K12
open PySem PySem.Spec PyProof.Rows L2

/-! ### repr of data -/
section
variable {X : Cx}
theorem call_reprD (hg : X.A.guards = some []) (hu : X.A.units + 64 < cLine) :
    CallR X (.builtin "repr") (fun xs H Q => ∃ (a : Addr) (d : PyData), xs = [.ref a] ∧ Dp X.K H (.ref a) d ∧ d.showable = true ∧ d.hasDict = false ∧ d.depth ≤ 8 ∧ d.shown.length ≤ sizeLine ∧ Q (.str d.shown) H) := by
  intro pins s σ H xs us Q I r h
  obtain ⟨a, d, rfl, hd, hs, hn, hdep, hz, q⟩ := h
  obtain ⟨u, rfl, ru⟩ := vals1 r
  obtain ⟨as, rd⟩ := Dp.reads I d _ _ hd ru
  cases ru
  exact repr_of_reads' (h₀ := s.heap) rd hs (PyData.noDict_hsm hn) hg (by omega) (fun _ _ e => e)
    (fun h' u tk hk => ⟨.str d.shown, H, I.kept hk, ⟨u, rfl⟩, q⟩) hz
end

/-! ### a def that is called where no repr is under way -/
structure FnG (P : Program) (w : World) (K : PySem.W.Frag) (mg : Str → Option Value) (base : Heap) (k : Nat) (f : Addr) (sp : Sp) : Prop where
  run : ∀ (A : Around) (fr : List Env) (s : Shared) (H : Hp) (us : List Value) (vs : List V) (Q : VK), A.guards = some [] → Room k A → Env0 P w K mg base A fr s H → Vals vs us → sp vs H Q E0 →
    codeAny (model P w) A (.call (.ref f) ⟨us, []⟩) (CR CX0 fr P w H s Q E0) s
section
variable {P : Program} {w : World} {K : PySem.W.Frag} {mg : Str → Option Value} {base : Heap}
theorem fnG_of {x qual : Str} {st : Stmt} {f : Addr} {fd : FuncData} {N ps : List Str} {k : Nat} {sp : Sp} (F : Fun K x qual st f fd) (S : FnScope N ps (defScope st)) (len : ∀ vs H Q E, sp vs H Q E → vs.length = ps.length)
    (hb : ∀ (kV doc pm : Value) (an : Option Addr) (cdv ct : Value) (us : List Value), us.length = ps.length → bindArgs (PySem.W.fnOf x qual (defArgs st) (defBody st) (defScope st) .none kV doc pm an cdv ct) ⟨us, []⟩ = pure (ps.zip us))
    (body : ∀ (cdv : Value) (A : Around) (fr : List Env) (s : Shared) (H : Hp) (vs : List V) (Q : VK), A.guards = some [] → Room k (A.deeper (envOfC qual (defScope st) s.heap.objs.size f cdv)) → sp vs H Q E0 →
      ∃ t, PSs (cxOf CX0 P w K mg base N qual (defScope st) f cdv A fr s H E0).nox (defBody st) t ∧ t { nx := fun _ H' => Q .non H', rt := Q } (start N vs) H) : FnG P w K mg base (k + 1) f sp := by
  obtain ⟨oc, od, kV, doc, pm, an, cdv, ct, osl, rfl, lk, hcd⟩ := F.ex
  refine ⟨fun A fr s H us vs Q hg hr e0 rv hsp => ?_⟩
  have hl := len _ _ _ _ hsp
  have hlu : us.length = ps.length := by rw [← rv.length]; exact hl
  refine StX.run_bnd (G := fun ys H2 => ys = vs ∧ H2 = H) lk hcd S hr e0 (fun A' Ex Q' h => ?_) fun s2 H2 ys hG hr2 => ?_
  · rw [hb kV doc pm an cdv ct us hlu]
    exact wpAny_pure (h s H vs us e0 Un.refl rfl (fun _ _ z => z) rv hl ⟨rfl, rfl⟩)
  · obtain ⟨rfl, rfl⟩ := hG
    obtain ⟨t, ht, q⟩ := body cdv A fr s2 H2 ys Q hg hr2 hsp
    exact ⟨t, ht.nox, q⟩
end
section
variable {X : Cx} {k : Nat} {f : Addr} {sp : Sp} {x : Str} {p pos : Pos} {e : Expr} {es : List Expr} {t : TA}
/-- such a def called by its name -/
theorem pe_callG (F : FnG X.prog X.w X.K X.mg X.base k f sp) (hgd : X.A.guards = some []) (hr : Room k X.A) (hg : Gl X x) (hm : X.mg x = some (.ref f)) (hk : PySem.W.keepIn X.K (.ref f) = true)
    (ha : PA X (e :: es) t) (hdb : (x == ("__debug__" : Str)) = false := by decide) (hst : starEach (e :: es) X.env = (false, eval e X.env) :: starEach es X.env := by rfl) (hpl : (backTo pos (starEach es X.env)).any (·.1) = false := by rfl) :
    PE X (.Call (.Name x p) (e :: es) [] pos) (tCall sp [] E0 t) := by
  refine ⟨fun pins s σ H Q I h => wpAny_Call_Name_kw (ld_glob I hg hm ?_ hdb)⟩
  refine PySem.W.callWith_K (h₀ := X.base) I.ok.mod.kin hk (thn (ha.run pos pins s σ H _ I h) fun us s1 hv => ?_) hst hpl
  obtain ⟨vs, H1, I1, rv, q⟩ := hv
  rw [List.append_nil] at q
  refine ⟨I1.kIn, wpAny_call (codeAny_mono (F.run X.A X.stack s1 H1 us vs Q hgd hr I1.env0 rv q) fun res s' hq => ?_)⟩
  match res, hq with
  | .ok (.ret u), hq => exact I1.after hq
  | .error e, hq => exact hq.elim
end
end K12
/-! Rules of our own: an instance called by a keyword, a static method, + of two own instances, attributes as targets. -/
namespace K12
open PySem PySem.Spec PyProof.Rows L2

/-! ### an instance called with keywords alone -/
theorem kwcall_of {M : Model} {A : Around} {E : Value → Shared → Prop} {s : Shared} {a : Addr} {pos : Pos} {Q : Value → Shared → Prop} {kws : List (Option Str × Sem Value)} (hall : kws.all (·.1.isSome) = true) (hno : kws.any (·.1.isNone) = false)
    (h : wpAny M A (evalAll (kws.map (·.2))) (fun ws s1 => (∃ C ox od, PySem.W.InstAt s1.heap a ox C od ∧ ox.data = .plain) ∧ wpAny M A (call (.ref a) [] ((kws.filterMap (·.1)).zip ws)) Q E s1) E s) :
    wpAny M A (callWith pos (.ref a) [] [] kws) Q E s := by
  unfold callWith
  have h2 : wpAny M A (evalArgs (.ref a) true [] kws) (fun z s1 => (∃ C ox od, PySem.W.InstAt s1.heap a ox C od ∧ ox.data = .plain) ∧ wpAny M A (call (.ref a) ([] ++ z.pos) z.kw) Q E s1) E s :=
    evalArgs_kw_nil hall (thn h fun ws s1 q => q)
  refine wpAny_bind (wpAny_holding (thn h2 fun z s1 hz => wpAny_bind (wpAny_standAt ?_)))
  obtain ⟨⟨C, ox, od, J, hd⟩, hq⟩ := hz
  have L := PySem.W.kco_keeper (M := M) J hd
  have hf : (([] : List (Bool × Sem Value)).any (·.1) || kws.any (·.1.isNone)) = false := by rw [hno]; rfl
  simp only [hf]
  refine wpAny_bind (L.here ?_)
  refine wpAny_bind (thn (wpAny_operateT hq) fun r s2 hr => ?_)
  exact wpAny_bind (wpAny_holding (wpAny_point (wpAny_pure hr)))
section
variable {X : Cx} {k : Nat} {C g : Addr} {fd : FuncData} {ps : List Str} {sp : Sp} {fe e : Expr} {tf te : TE} {nm : Str} {kpos pos : Pos}
/-- f(nm = e), f an instance of the class at C -/
def tCallOK (X : Cx) (C : Addr) (sp : Sp) (tf te : TE) : TE := fun σ H Q => tf σ H fun y H1 => ∃ a, y = V.ref a ∧ te σ H1 fun v H2 => StX.InsC X H2 a C ∧ sp [V.ref a, v] H2 Q E0
theorem pe_callOK (hf : PE X fe tf) (c : StX.CallO X.K C g) (F : FnOk X.prog X.w X.K X.mg X.base CX0 k g fd ps sp) (hr : Room k X.A)
    (hb : ∀ (s : Shared) (u v : Value), BindsTo s fd ⟨[u], [(nm, v)]⟩ (ps.zip [u, v])) (he : PE X e te)
    (ht : eval (.Call fe [] [⟨some nm, e, kpos⟩] pos) X.env = (do callWith pos (← eval fe X.env) [] (backTo pos (starEach [] X.env)) (backToKw pos (keywordEach [⟨some nm, e, kpos⟩] X.env))) := by rfl) :
    PE X (.Call fe [] [⟨some nm, e, kpos⟩] pos) (tCallOK X C sp tf te) := by
  refine ⟨fun pins s σ H Q I h => ?_⟩
  rw [ht]
  refine wpAny_bind (thn (hf.run pins s σ H _ I h) fun u s1 hu => ?_)
  obtain ⟨y, H1, I1, ry, a, rfl, q⟩ := hu
  obtain rfl : u = Value.ref a := ry
  have hk : PK X [⟨some nm, e, kpos⟩] (tCons te tNil) := pk_cons he pk_nil
  let Q' : List V → Hp → Prop := fun vs H2 => match vs with
    | [v] => StX.InsC X H2 a C ∧ sp [V.ref a, v] H2 Q E0
    | _ => False
  refine kwcall_of rfl rfl (thn (hk.run pos pins s1 σ H1 Q' I1 q) fun ws s2 hw => ?_)
  obtain ⟨vs, H2, I2, rv, hQ⟩ := hw
  match vs, hQ, rv with
  | [v], hQ, rv =>
    obtain ⟨hi, q2⟩ := hQ
    obtain ⟨w', rfl, rw'⟩ := vals1 rv
    obtain ⟨ox, od, J, hd⟩ := StX.insC_at I2 hi
    refine ⟨⟨C, ox, od, J, hd⟩, ?_⟩
    have r2 : Vals [V.ref a, v] [Value.ref a, w'] := .cons rfl (.cons rw' .nil)
    refine wpAny_call (PySem.W.kco_code I2.kIn J hd c.at_ c.fn c.fi ?_)
    refine codeAny_mono (F.run X.A X.stack s2 H2 ⟨[Value.ref a], [(nm, w')]⟩ [Value.ref a, w'] [V.ref a, v] Q E0 hr I2.env0 (hb s2 _ _) r2 q2) fun res s' hq => ?_
    match res, hq with
    | .ok (.ret z), hq => exact I2.after hq
    | .error e, hq => exact hq.elim
end

/-! ### a static method called through its class -/
/-- C.m is a static method: its record at p, its def at g -/
structure CStat (K : PySem.W.Frag) (C : Addr) (mc : Value) (m : Str) (p g : Addr) : Prop where
  at_ : PySem.W.findCls K (.ref C) mc m = some (.get (.builtin "staticmethod.__get__") (.ref p) .none (.ref C))
  rc : ∃ rest, PySem.W.recIn K p "staticmethod" = some (.ref g :: rest)
  kp : PySem.W.keepIn K (.ref g) = true
section
variable {X : Cx} {k : Nat} {C p g : Addr} {mc : Value} {fd : FuncData} {ps : List Str} {sp : Sp} {o e : Expr} {es : List Expr} {m : Str} {pos apos : Pos} {ta : TE} {t : TA} {pl : Sem Bool}
def tStat (C : Addr) (sp : Sp) (ta : TE) (t : TA) : TE := fun σ H Q => ta σ H fun x H1 => x = .ref C ∧ t σ H1 fun vs H2 => sp vs H2 Q E0
theorem pe_stat (he : PE X o ta) (r : ClX.CRead X.K C mc) (c : CStat X.K C mc m p g) (F : FnOk X.prog X.w X.K X.mg X.base CX0 k g fd ps sp) (hr : Room k X.A) (b : Binds X.K fd ps []) (ha : PA X (e :: es) t)
    (hst : starEach (e :: es) X.env = (false, eval e X.env) :: starEach es X.env := by rfl) (hpl : (backTo pos (starEach es X.env)).any (·.1) = false := by rfl)
    (ht : eval (.Call (.Attribute o m apos) (e :: es) [] pos) X.env = (do
      let ov ← eval o X.env; standAt apos.atName
      let (f, first) ← holding [ov] (getMethod ov m pl); callWith pos f first (backTo pos (starEach (e :: es) X.env)) (backToKw pos (keywordEach [] X.env))) := by rfl) :
    PE X (.Call (.Attribute o m apos) (e :: es) [] pos) (tStat C sp ta t) := by
  refine ⟨fun pins s σ H Q I h => ?_⟩
  refine PySem.W.methodCall_KW (pl := pl) (thn (he.run pins s σ H _ I h) fun u s1 hu => ?_) ht
  obtain ⟨x, H1, I1, rx, rfl, q⟩ := hu
  obtain rfl : u = Value.ref C := rx
  obtain ⟨rest, hp⟩ := c.rc
  have I2 := I1.tok (s1.toks + 1)
  refine PySem.W.method_cls I1.kIn r.ga (PySem.W.cls_bind I1.kIn r.rd c.at_ (wpAny_call (PySem.W.sm_get (s := { s1 with toks := s1.toks + 1 }) I1.kIn hp (PySem.W.handed_on rfl ?_))))
  refine PySem.W.callWith_K (h₀ := X.base) I.ok.mod.kin c.kp (thn (ha.run pos pins _ σ H1 _ I2 q) fun us s3 hv => ?_) hst hpl
  obtain ⟨vs, H2, I3, rv, q2⟩ := hv
  exact ⟨I3.kIn, run_fn F hr b .nil pass0 I3 rv (by rw [List.append_nil]; exact q2)⟩
end

/-! ### + of two instances of one class -/
section
variable {X : Cx} {k : Nat} {C g : Addr} {fd : FuncData} {ps : List Str} {sp : Sp}
theorem op_addOwn (hc : PySem.W.selfFirst X.K C = true) (hs : PySem.W.findIn X.K (.ref C) "__add__" = some (some (.ref g))) (hf : PySem.W.isFn X.K (.ref g) = true) (F : FnOk X.prog X.w X.K X.mg X.base CX0 k g fd ps sp) (hr : Room k X.A) (b : Binds X.K fd ps []) :
    OpR X (binaryOp .Add) (fun x y H Q => ∃ a a' dx dy fs gs, x = .ref a ∧ y = .ref a' ∧ H a = some (.ins C dx fs) ∧ H a' = some (.ins C dy gs) ∧ sp [x, y] H Q E0) := by
  intro pins s σ H x y v u Q I rx ry h
  obtain ⟨a, a', dx, dy, fs, gs, rfl, rfl, e1, e2, q⟩ := h
  obtain rfl : v = Value.ref a := rx
  obtain rfl : u = Value.ref a' := ry
  obtain ⟨m1, O1, _⟩ := ins_get I.hok e1
  obtain ⟨o1, J1, _⟩ := O1.look
  obtain ⟨m2, O2, _⟩ := ins_get I.hok e2
  obtain ⟨o2, J2, _⟩ := O2.look
  obtain ⟨m, F0⟩ := I.fr
  refine PySem.W.binop_K F0 I.mod.kin J1 J2.type hc hs hf ?_
  refine thn (run_fn (us := [.ref a, .ref a']) (vs := [.ref a, .ref a']) F hr b .nil pass0 I (.cons rfl (.cons rfl .nil)) q) fun r s' hq => ?_
  obtain ⟨z, H', I', rz, qz⟩ := hq
  have fin : EP X pins σ Q r s' := ⟨z, H', I', rz, qz⟩
  cases z <;> first
    | (cases rz; exact fin)
    | (obtain ⟨t, rfl⟩ := rz; exact fin)
end

/-! ### an attribute as a target -/
section
variable {X : Cx} {o : Expr} {f : Str} {pos : Pos} {ta : TE}
def gFld (K : PySem.W.Frag) (ta : TE) (f : Str) : TG := fun v σ H Q => ta σ H fun x H2 => ∃ a C dx fs, x = .ref a ∧ H2 a = some (.ins C dx fs) ∧ Cls K C ∧ NoAttr K C f ∧ fs.length < 1000 ∧ Q σ (upd H2 a (.ins C dx (putF f v fs)))
theorem pg_fld (ha : PE X o ta) : PG X (.Attribute o f pos) (gFld X.K ta f) := by
  refine ⟨fun pins s σ H v u Q I r h => ?_⟩
  rw [assign_Attribute]
  refine wpAny_bind (wpAny_holding (thn (ha.run pins s σ H _ I h) fun ov s1 hv => ?_))
  obtain ⟨x, H2, I2, rx, a, C, dx, fs, rfl, ea, c, n, l, q⟩ := hv
  obtain rfl : ov = Value.ref a := rx
  refine wpAny_bind (wpAny_standAt (wpAny_bind (wpAny_holding (setattr_ok I2 ea c n l r fun s3 I3 => ?_))))
  exact wpAny_release ⟨σ, _, I3, q⟩
end
end K12
/-! Rules of our own: enumerate over a tuple, a pair read from behind. -/
namespace K12
open PySem PySem.Spec PyProof.Rows L2

/-! ### enumerate(tuple) -/
theorem meets_enumT (t : Addr) (items : Array Value) (n : Nat) (dct : Option Addr) (sl : Array (Option Value)) :
    Meets (Builtin.«enumerate.__new__» ⟨[.type "enumerate", .ref t], []⟩) (fun _ R s => s.heap.get? t = some { cls := .type "tuple", dict := dct, data := .seq items n, slots := sl } ∧
      R (.ok (.ret (.ref (s.heap.push { cls := .type "tuple_iterator", data := .fields #[.ref t, .int 0 0] }).objs.size)))
        { s with heap := (s.heap.push { cls := .type "tuple_iterator", data := .fields #[.ref t, .int 0 0] }).push { cls := .type "enumerate", data := .fields #[.none, .bool false, .ref s.heap.objs.size, rawInt 0, .none, .none] } }) :=
  .of_wp fun prog w A R s h => by
    obtain ⟨hp, gn, dr, tk, os⟩ := s
    obtain ⟨hl, h⟩ := h
    have hsub := sub_enumerate
    have hT : Heap.IsTuple (Shared.heap ⟨hp, gn, dr, tk, os⟩) t items := ⟨_, hl, rfl, n, rfl⟩
    wp_walk using AutoSeq1.wpAny_loadPart' hl
    refine wpAny_stack_any fun st => wpAny_pure ?_
    split
    · rename_i c _ _ _ _ _
      cases (c == Value.type "enumerate") <;> (wp_walk using AutoSeq1.wpAny_loadPart' hl, wpAny_pyIter_tuple hT) <;> exact ⟨_, rfl, h⟩
    · wp_walk using AutoSeq1.wpAny_loadPart' hl, wpAny_pyIter_tuple hT
      exact ⟨_, rfl, h⟩
section
variable {prog : Program} {w : World} {A : Around} {E : Value → Shared → Prop} {s : Shared}
theorem call_enumT {t : Addr} {items : Array Value} {Q : Value → Shared → Prop} (hT : s.heap.IsTuple t items)
    (h : ∀ h', IsEnum h' (s.heap.objs.size + 1) s.heap.objs.size 0 .none → h'.IsTupleIter s.heap.objs.size t 0 → (∀ b o, s.heap.get? b = some o → h'.get? b = some o) → Q (.ref (s.heap.objs.size + 1)) { s with heap := h' }) :
    wpAny (model prog w) A (call (.type "enumerate") [.ref t]) Q E s := by
  obtain ⟨⟨c, dct, dt, sl⟩, hl, hc, n, hd⟩ := hT
  obtain rfl : c = .type "tuple" := hc
  obtain rfl : dt = .seq items n := hd
  refine callType_new F.called_enumerate (by decide) (F.typeCall_enumerate_1 _) (F.newCall_enumerate_1 _) (fun obj => F.args_object_init_2 obj _) F.entry_enumerate_new (meets_enumT t items n dct sl) ⟨hl, ?_⟩
  have hz : (s.heap.push { cls := .type "tuple_iterator", data := .fields #[.ref t, .int 0 0] }).objs.size = s.heap.objs.size + 1 := Heap.size_push ..
  show _ ∧ _
  rw [hz]
  have he := Heap.get?_push_size (s.heap.push { cls := .type "tuple_iterator", data := .fields #[.ref t, .int 0 0] }) (o := { cls := .type "enumerate", data := .fields #[.none, .bool false, .ref s.heap.objs.size, rawInt 0, .none, .none] }) rfl
  rw [hz] at he
  exact ⟨⟨_, he, rfl⟩, h _ he ⟨_, Heap.get?_push_of_some _ (Heap.get?_push_size _ rfl), rfl, rfl⟩ fun b o x => Heap.get?_push_of_some _ (Heap.get?_push_of_some _ x)⟩
end
/-- the tuple at a, each item in a new pair with its number -/
def Itet (K : PySem.W.Frag) (a : Addr) : It :=
  ⟨fun i H => ∃ (xs : List V) (x : V), SqT K H a xs ∧ xs[i]? = some x,
    fun i H v H' => ∃ T x, v = .ref T ∧ H T = none ∧ H' = upd H T (.tup [.int (i : Nat), x]) ∧ ∀ xs, SqT K H a xs → xs[i]? = some x,
    fun i H => ∃ xs : List V, SqT K H a xs ∧ i = xs.length⟩
theorem turn_enumT {P : Program} {w : World} {K : PySem.W.Frag} {elts : List Expr} {kk : Nat} {tpos : Pos} (a e it : Addr) :
    Turn P w K (.Tuple elts kk tpos) (Itet K a) [e, it] e (fun i h => (∃ old, IsEnum h e it ((i : Nat) : Int) old) ∧ h.IsTupleIter it a i ∧ e ≠ it) where
  mem := List.mem_cons_self
  obj := fun i h st b hb => by
    obtain ⟨⟨old, he⟩, ⟨o, ho, hc, hd⟩, _⟩ := st
    rcases List.mem_cons.mp hb with rfl | hb
    · exact ⟨_, he, fun v q => nomatch q⟩
    · rw [List.mem_singleton.mp hb]
      exact ⟨o, ho, fun v q => by rw [hd] at q; cases q⟩
  keep := fun i h h' st k => by
    obtain ⟨⟨old, he⟩, hi, hne⟩ := st
    exact ⟨⟨old, k e (by simp) _ he⟩, hi.at fun o q => k it (by simp) o q, hne⟩
  item := by
    intro X hP hw hK hc i pins s σ H E I hf st hg
    subst hP hw hK
    obtain ⟨⟨old, he⟩, hit, hne⟩ := st
    obtain ⟨xs, x, hq, hx⟩ := hg
    obtain ⟨its, rv, p, hz⟩ := I.tuple hq
    obtain ⟨u, hu, ru⟩ := rv.get hx
    have hel : e < s.heap.objs.size := Heap.lt_size he
    have hil : it < s.heap.objs.size := by obtain ⟨_, q, _⟩ := hit; exact Heap.lt_size q
    obtain ⟨ot, hot, hct, nt, hdt⟩ := id p
    have nat : a ≠ it := fun z => by
      obtain ⟨oi, hoi, hci, _⟩ := hit
      rw [← z, hot] at hoi
      obtain rfl := Option.some.inj hoi
      rw [hct] at hci
      exact absurd hci (by decide)
    have nae : a ≠ e := fun z => by
      have he' : s.heap.get? a = _ := z ▸ he
      rw [hot] at he'
      obtain rfl := Option.some.inj he'
      exact absurd (show Value.type "enumerate" = Value.type "tuple" from hct) (by decide)
    have D : Draws X.prog X.w X.A.in1 it [it, a] its.toArray.size (fun j v => its.toArray[j]? = some v) (fun j h => h.IsTupleIter it a j ∧ h.IsTuple a its.toArray) :=
      Draws.tuple (show X.A.in1.handled = none from I.ok.hd hc) it a nat its.toArray
    have hlt : i < its.toArray.size := by
      rw [List.size_toArray]
      exact (List.getElem?_eq_some_iff.mp hu).1
    refine wpAny_pyNext_enum_itemD D he ⟨hit, ⟨ot, hot, hct, nt, hdt⟩⟩ hlt hne (by simp [hne, Ne.symm nae]) fun y h' tk hy ho hst' hT hsz hk => ?_
    obtain rfl : y = u := by
      have q : its.toArray[i]? = some u := by simpa using hu
      rw [q] at hy
      exact (Option.some.inj hy).symm
    obtain ⟨hit', _⟩ := hst'
    refine ⟨_, rfl, wpAny_letOwnedTupleGo_enum (s := { s with heap := h', toks := tk + 1 }) ho fun h'' he' sb => ?_⟩
    have hT2 : h''.get? s.heap.objs.size = some { cls := .type "tuple", data := .seq #[.int i tk, y] } := (sb.2 _ (Nat.ne_of_gt hel)).trans hT
    have new : ObjOk X.prog X.w (upd H s.heap.objs.size (.tup [.int (i : Nat), x])) h'' s.heap.objs.size (.tup [.int (i : Nat), x]) :=
      ⟨by show 2 ≤ sizeLine; decide, [.int i tk, y], .cons ⟨_, rfl⟩ (.cons ru .nil), ⟨_, hT2, rfl, _, rfl⟩⟩
    have I1 : Inv X pins σ (upd H s.heap.objs.size (.tup [.int (i : Nat), x])) { s with heap := h'', toks := tk + 1 } := by
      refine I.turnedNew (ch := [e, it]) (fun b ob hb q => ?_) hf (Nat.le_refl _) new
      have hb1 : b ≠ e := fun z => hb (z ▸ List.mem_cons_self)
      have hb2 : b ≠ it := fun z => hb (z ▸ List.mem_cons_of_mem _ List.mem_cons_self)
      exact (sb.2 b hb1).trans (hk b ob hb1 hb2 q)
    refine ⟨.ref s.heap.objs.size, _, I1, rfl, ⟨_, x, rfl, I.hok.fresh (Nat.le_refl _), rfl, fun ys hy => by rw [I.tuple_inj hy hq]; exact hx⟩, ⟨⟨y, ?_⟩, hit'.at fun o q => (sb.2 it (Ne.symm hne)).trans q, hne⟩, fun b hb => ?_⟩
    · rw [show ((i + 1 : Nat) : Int) = (i : Int) + 1 from by omega]
      exact he'
    · have hb' : b < s.heap.objs.size := by
        rcases List.mem_cons.mp hb with rfl | hb
        · exact hel
        · rw [List.mem_singleton.mp hb]; exact hil
      rw [upd_ne (Nat.ne_of_lt hb')]
      exact (hf b hb).1
  done := by
    intro X hP hw hK hc i pins s σ H E I hf st hg
    subst hP hw hK
    obtain ⟨⟨old, he⟩, hit, hne⟩ := st
    obtain ⟨xs, hq, hx⟩ := hg
    obtain ⟨its, rv, p, hz⟩ := I.tuple hq
    obtain ⟨f0, f1, f2, f3, f4, f5⟩ := hf it (by simp)
    obtain ⟨ot, hot, hct, nt, hdt⟩ := id p
    have nat : a ≠ it := fun z => by
      obtain ⟨oi, hoi, hci, _⟩ := hit
      rw [← z, hot] at hoi
      obtain rfl := Option.some.inj hoi
      rw [hct] at hci
      exact absurd hci (by decide)
    have D : Draws X.prog X.w X.A.in1 it [it, a] its.toArray.size (fun j v => its.toArray[j]? = some v) (fun j h => h.IsTupleIter it a j ∧ h.IsTuple a its.toArray) :=
      Draws.tuple (show X.A.in1.handled = none from I.ok.hd hc) it a nat its.toArray
    have ei : i = its.toArray.size := by
      rw [hx, List.size_toArray]
      exact rv.length
    subst ei
    exact wpAny_pyNext_enum_endD D he ⟨hit, ⟨ot, hot, hct, nt, hdt⟩⟩ fun h' eb => ⟨rfl, I.turned (t' := s.toks) (fun b o hb q => eb b o hb q) f0 f1 f3 f4 f5⟩
  self := fun A i s Q E st h => by
    obtain ⟨⟨_, he⟩, _⟩ := st
    exact wpAny_pyIter_enum he h
def iEnumT (K : PySem.W.Frag) (ta : TA) : TI := fun σ H R => ta σ H fun vs H1 => ∃ a xs, vs = [.ref a] ∧ SqT K H1 a xs ∧ R (Itet K a) H1
theorem pi_enumT {X : Cx} {e : Expr} {ta : TA} {p pos tpos : Pos} {elts : List Expr} {kk : Nat} (hg : Gl X "enumerate") (hm : X.mg "enumerate" = none) (ha : PA X [e] ta) (hst : starEach [e] X.env = [(false, eval e X.env)] := by rfl) :
    PI X (.Tuple elts kk tpos) (.Call (.Name "enumerate" p) [e] [] pos) (iEnumT X.K ta) := by
  refine ⟨fun pins s σ H R I h => ?_⟩
  refine Call_ (ld_blt I hg hm boot_enumerate (PyProof.Rows.callWith_type1 (thn (ha.run pos pins s σ H _ I h) fun us s1 hu => ?_) hst rfl))
  obtain ⟨vs, H1, I1, r1, a, xs, rfl, hq, q⟩ := hu
  obtain ⟨u, rfl, ru⟩ := vals1 r1
  obtain rfl : u = Value.ref a := ru
  obtain ⟨its, rv, p', hz⟩ := I1.tuple hq
  obtain ⟨ot, hot, hct, nt, hdt⟩ := p'
  refine call_enumT ⟨ot, hot, hct, nt, hdt⟩ fun h' he hit hk => wpAny_pyIter_enum he ?_
  have I2 : Inv X pins σ H1 { s1 with heap := h' } := I1.kept (t' := s1.toks) hk
  refine ⟨s1.heap.objs.size + 1, [s1.heap.objs.size + 1, s1.heap.objs.size], _, _, H1, rfl, I2, turn_enumT a _ _, ⟨⟨.none, he⟩, hit, Nat.succ_ne_self _⟩, fun b hb => ?_, q⟩
  have hle : s1.heap.objs.size ≤ b := by
    rcases List.mem_cons.mp hb with rfl | hb
    · exact Nat.le_succ _
    · rw [List.mem_singleton.mp hb]; exact Nat.le_refl _
  exact I1.fpOk hle (I1.hok.fresh hle)

end K12
/-! Rules of our own: a pair read from behind. -/
namespace K12
open PySem PySem.Spec PyProof.Rows L2

/-! ### t[::-1], t a pair -/
section
variable {prog : Program} {w : World} {A : Around} {E : Value → Shared → Prop} {s : Shared}
theorem applied_back {sl : Addr} {vs : Value} {n : Nat} {Q : Int × Int × Nat → Shared → Prop} (hs : s.heap.IsSliceOf sl .none .none vs) (ps : IsPart vs (some (-1))) (hn : n = 2) (h : Q (1, -1, 2) s) :
    wpAny (model prog w) A (Builtin.Slice.sliceApplied (.ref sl) (pure (n : Int))) Q E s := by
  subst hn
  obtain ⟨os, hos, hcs, hds⟩ := id hs
  unfold Builtin.Slice.sliceApplied Builtin.Slice.sliceFields
  refine wpAny_bind (wpAny_bind (wpAny_field hos hds (x := .none) rfl (wpAny_bind (wpAny_field hos hds (x := .none) rfl (wpAny_bind (wpAny_field hos hds (x := vs) rfl (wpAny_pure ?_)))))))
  refine wpAny_bind (HT.slicePart_ ps ?_)
  show wpAny _ _ (if ((-1 : Int) == 0) = true then _ else _) _ _ s
  rw [if_neg (by decide)]
  exact wpAny_bind (HT.slicePart_ .none (wpAny_bind (HT.slicePart_ .none (wpAny_bind (wpAny_pure (wpAny_pure (by simpa [Builtin.Slice.slicePlaces] using h)))))))
theorem getItem_back2 {t sl : Addr} {u1 u2 vs : Value} {Q : Value → Shared → Prop} (ht : IsTup s.heap t #[u1, u2]) (hs : s.heap.IsSliceOf sl .none .none vs) (ps : IsPart vs (some (-1)))
    (h : Q (.ref s.heap.objs.size) { s with heap := s.heap.push { cls := .type "tuple", data := .seq #[u2, u1] } }) : wpAny (model prog w) A (getItem (.ref t) (.ref sl)) Q E s := by
  obtain ⟨os, hos, hcs, hds⟩ := id hs
  have hTs : s.TypeIs (.ref sl) "slice" := ⟨os, hos, hcs⟩
  unfold getItem
  try with_reducible refine wpAny_holding ?_
  first | refine wpAny_bind (wpAny_pure ?_) | skip
  refine wpAny_bind (wpAny_sequenceKey ht.typeIs (by decide) (wpAny_bind (wpAny_callSpecial?_slot (name := Str.ofString "__getitem__") ht.typeIs slot_tuple_getitem (wpAny_call_entry slot_tuple_getitem ht.typeIs entry_tuple_getitem ?_ (args_tuple_getitem _ _)))))
  refine wpAny_bind (m := Builtin.Tuple.tupleItemsOf (.ref t)) (tupleItemsOf_ ht (wpAny_bind (wpAny_typeOf hTs ?_)))
  rw [if_pos (by decide)]
  refine wpAny_bind (applied_back hs ps rfl ?_)
  show wpAny _ _ (if ((1 : Int) == 0 && (-1 : Int) == 1 && (2 : Nat) == 2) = true then _ else _) _ _ s
  rw [if_neg (by decide)]
  have e : ((List.range 2).filterMap fun (k : Nat) => (#[u1, u2] : Array Value)[((1 : Int) + (k : Int) * (-1)).toNat]?).toArray = #[u2, u1] := by rfl
  rw [e]
  have hz : sizeOk (.seq #[u2, u1]) := by show 2 ≤ sizeLine; decide
  first
    | exact wpAny_bind (m := Builtin.Tuple.tupleExact _) (wpAny_newObj_type (wpAny_pure ⟨_, rfl, wpAny_pure h⟩) hz)
    | exact wpAny_bind (m := Builtin.Tuple.tupleExact _) (wpAny_newObj_type (wpAny_bind (wpAny_pure (wpAny_pure ⟨_, rfl, wpAny_pure h⟩))) hz)
    | exact wpAny_bind (wpAny_bind (m := Builtin.Tuple.tupleExact _) (wpAny_newObj_type (wpAny_pure (wpAny_pure ⟨_, rfl, wpAny_pure h⟩)) hz))
end
/-- t[::-1], t a tuple of two -/
def tBack2 (K : PySem.W.Frag) (te : TE) : TE := fun σ H Q => te σ H fun x H1 => ∃ a y z, x = .ref a ∧ SqT K H1 a [y, z] ∧ ∀ p, H1 p = none → Q (.ref p) (upd H1 p (.tup [z, y]))
theorem pe_back2 {X : Cx} {e : Expr} {te : TE} {k : Nat} {p1 p2 p3 pos : Pos} (he : PE X e te) : PE X (.Subscript e (.Slice none none (some (.UnaryOp .USub (.Constant (.int 1) k p1) p2)) p3) pos) (tBack2 X.K te) := by
  refine ⟨fun pins s σ H Q I h => ?_⟩
  refine Subscript_ (thn (he.run pins s σ H _ I h) fun v s1 hv => ?_)
  obtain ⟨x, H1, I1, rx, a, y, z, rfl, hx, q⟩ := hv
  obtain rfl : v = Value.ref a := rx
  have hst : PO X (some (.UnaryOp .USub (.Constant (.int 1) k p1) p2)) (tPart (tUn (rU fun i => .int (-i)) (tC (.int 1)))) := po_some (pe_un un_neg pe_int)
  refine wpAny_Slice (thn (po_none.run pins s1 σ H1 (fun o H2 => o = none ∧ H2 = H1) I1 ⟨rfl, rfl⟩) fun vl s2 hl => ?_)
  obtain ⟨o1, H2, I2, pl, e1, e2⟩ := hl
  subst e1 e2
  refine thn (po_none.run pins s2 σ _ (fun o H3 => o = none ∧ H3 = H2) I2 ⟨rfl, rfl⟩) fun vu s3 hu => ?_
  obtain ⟨o2, H3, I3, pu, e3, e4⟩ := hu
  subst e3 e4
  refine thn (hst.run pins s3 σ _ (fun o H4 => o = some (-1) ∧ H4 = H3) I3 ⟨1, rfl, -1, rfl, rfl, rfl⟩) fun vs s4 hs => ?_
  obtain ⟨o3, H4, I4, ps, e5, e6⟩ := hs
  subst e5 e6
  cases pl
  cases pu
  have I5 := I4.kept (t' := s4.toks) (h' := s4.heap.push { cls := .type "slice", data := .fields #[.none, .none, vs] }) fun b ob q => Heap.get?_push_of_some _ q
  obtain ⟨its, r, ht, hz⟩ := I5.tuple hx
  obtain ⟨u1, u2, rfl, r1, r2⟩ := vals2 r
  show wpAny (model X.prog X.w) X.A (subscriptTail e (.Slice none none (some (.UnaryOp .USub (.Constant (.int 1) k p1) p2)) p3) (.ref a) (.ref s4.heap.objs.size)) (EP X pins σ Q) X.xe { s4 with heap := s4.heap.push { cls := .type "slice", data := .fields #[.none, .none, vs] } }
  refine tail_any (ops := [.ref a, .ref s4.heap.objs.size]) ht.typeIs slot_tuple_getitem.lookup ?_ (by with_unfolding_all rfl)
  refine getItem_back2 ht (Heap.IsSliceOf.new _ .none .none vs) ps ?_
  refine ⟨.ref _, _, I5.laid (t' := s4.toks) (o := .tup [z, y]) (fun b ob q => Heap.get?_push_of_some _ q) (Nat.le_refl _) ?_, rfl, q _ (I5.hok.fresh (Nat.le_refl _))⟩
  exact ⟨by show 2 ≤ sizeLine; decide, [u2, u1], .cons r2 (.cons r1 .nil), IsTup.new _ _⟩
end K12
/-! The text by places; words for heaps; a def that may be called by its name. -/
namespace K12
open PySem PySem.Spec PyProof.Rows L2
/-! ### the text -/
def top (i : Nat) : Stmt := PySem.Challenge.pw_rungladders_k12_whole_patterns_show_by_t.main.body.getD i (.Pass ⟨0, 0, 0, 0⟩)
def inPat (j : Nat) : Stmt := inClass (top 39) j

/-! ### values and heaps -/
abbrev nI (n : Nat) : V := .int (n : Int)
def pr (x : Nat × Nat) : List V := [nI x.1, nI x.2]
/-- all but the object at c stands -/
def Ext (c : Addr) (H H' : Hp) : Prop := ∀ b o, b ≠ c → H b = some o → H' b = some o
theorem Ext.refl (c : Addr) (H : Hp) : Ext c H H := fun _ _ _ h => h
theorem Ext.trans {c : Addr} {H H1 H2 : Hp} (a : Ext c H H1) (b : Ext c H1 H2) : Ext c H H2 := fun x o n h => b x o n (a x o n h)
theorem Same.ext {c : Addr} {H H' : Hp} (h : Same H H') : Ext c H H' := fun b o _ e => h b o e
theorem same_new {H : Hp} {p : Addr} {o : HO} (h : H p = none) : Same H (upd H p o) := fun b x e => by
  rw [upd_ne (ne_of_none e h)]
  exact e
theorem same_set {H H' : Hp} {p : Addr} {o : HO} (s : Same H H') (h : H p = none) : Same H (upd H' p o) := fun b x e => by
  rw [upd_ne (ne_of_none e h)]
  exact s b x e
theorem same_seqT {K : PySem.W.Frag} {H H' : Hp} {a : Addr} {xs : List V} (e : Same H H') (h : SqT K H a xs) : SqT K H' a xs := by
  rcases h with (h | ⟨o, h⟩) | h
  · exact .inl (.inl (e _ _ h))
  · exact .inl (.inr ⟨o, e _ _ h⟩)
  · exact .inr h
theorem ext_upd {c : Addr} {H : Hp} {o : HO} : Ext c H (upd H c o) := fun b x n e => by
  rw [upd_ne n]
  exact e

/-- a truth that is known -/
theorem blT {Q : VK} {H : Hp} {p : Prop} [Decidable p] (h : p) (q : Q (.bl true) H) : Q (.bl (decide p)) H := by
  rw [decide_eq_true h]
  exact q
theorem blE {Q : VK} {H : Hp} {b c : Bool} (e : b = c) (q : Q (.bl c) H) : Q (.bl b) H := by
  rw [e]
  exact q

/-! ### defs by their names -/
/-- a def of the module as it stands -/
structure Df (K : PySem.W.Frag) (mg : Str → Option Value) (x : Str) (st : Stmt) : Prop where
  ex : ∃ (f : Addr) (fd : FuncData), Fun K x x st f fd ∧ mg x = some (.ref f)
/-- a def that may be called by its name -/
structure Ca (P : Program) (w : World) (K : PySem.W.Frag) (mg : Str → Option Value) (base : Heap) (k : Nat) (x : Str) (sp : Sp) : Prop where
  ex : ∃ (f : Addr) (fd : FuncData) (ps : List Str), FnOk P w K mg base CX0 k f fd ps sp ∧ mg x = some (.ref f) ∧ PySem.W.keepIn K (.ref f) = true ∧ Binds K fd ps []
section
variable {P : Program} {w : World} {K : PySem.W.Frag} {mg : Str → Option Value} {base : Heap}
theorem ca_mk {x : Str} {st : Stmt} {N ps : List Str} {k : Nat} {sp : Sp} (D : Df K mg x st) (S : FnScope N ps (defScope st))
    (hb : ∀ (kV doc pm : Value) (an : Option Addr) (cdv ct : Value) (us : List Value), us.length = ps.length → bindArgs (PySem.W.fnOf x x (defArgs st) (defBody st) (defScope st) .none kV doc pm an cdv ct) ⟨us, []⟩ = pure (ps.zip us))
    (len : ∀ vs H Q E, sp vs H Q E → vs.length = ps.length)
    (body : ∀ (f : Addr) (cdv : Value) (A : Around) (fr : List Env) (s : Shared) (H : Hp) (vs : List V) (Q : VK) (E : XK), Room k (A.deeper (envOfC x (defScope st) s.heap.objs.size f cdv)) → sp vs H Q E →
      ∃ t, PSs (cxOf CX0 P w K mg base N x (defScope st) f cdv A fr s H E).nox (defBody st) t ∧ t { nx := fun _ H' => Q .non H', rt := Q } (start N vs) H) : Ca P w K mg base (k + 1) x sp := by
  obtain ⟨f, fd, F, hm⟩ := D.ex
  exact ⟨f, fd, ps, F.ok S len (body f), hm, F.kp, F.binds hb⟩
theorem Ca.mono {x : Str} {j k : Nat} {sp : Sp} (c : Ca P w K mg base j x sp) (h : j ≤ k) : Ca P w K mg base k x sp := by
  obtain ⟨f, fd, ps, F, r⟩ := c.ex
  exact ⟨f, fd, ps, F.mono h, r⟩
end
section
variable {X : Cx} {j k : Nat} {x : Str} {sp : Sp} {p pos : Pos} {e : Expr} {es : List Expr} {t : TA}
theorem pe_ca (c : Ca X.prog X.w X.K X.mg X.base k x sp) (hr : Room j X.A) (ha : PA X (e :: es) t) (hk : k ≤ j := by decide) (hg : Gl X x := by rfl)
    (hdb : (x == ("__debug__" : Str)) = false := by decide) (hst : starEach (e :: es) X.env = (false, eval e X.env) :: starEach es X.env := by rfl) (hpl : (backTo pos (starEach es X.env)).any (·.1) = false := by rfl) :
    PE X (.Call (.Name x p) (e :: es) [] pos) (tCall sp [] E0 t) := by
  obtain ⟨f, fd, ps, F, hm, kp, b⟩ := c.ex
  exact pe_call F (hr.mono hk) hg hm kp b .nil pass0 ha hdb hst hpl
end
/-- the built-ins' names are free, the module's constants are what they are -/
structure Tx (K : PySem.W.Frag) (mg : Str → Option Value) : Prop where
  isinstance : mg "isinstance" = none
  int : mg "int" = none
  bool : mg "bool" = none
  str : mg "str" = none
  tuple : mg "tuple" = none
  len : mg "len" = none
  any : mg "any" = none
  all : mg "all" = none
  abs : mg "abs" = none
  divmod : mg "divmod" = none
  max : mg "max" = none
  min : mg "min" = none
  range : mg "range" = none
  repr : mg "repr" = none
  enumerate : mg "enumerate" = none
  greatest : ∃ t, mg "GREATEST" = some (.int 1000000000000 t)
  ohms : ∃ t, mg "MOST_OHMS" = some (.int 12 t)
  pieces : ∃ t, mg "MOST_PIECES" = some (.int 4 t)
  joined : ∃ t, mg "MOST_JOINED" = some (.int 8 t)
  digits : ∃ t, mg "DIGITS" = some (.str "0123456789" t)
  mdigits : ∃ t, mg "MOST_DIGITS" = some (.int 13 t)
  opn : ∃ a, mg "OPEN" = some (.ref a) ∧ ∀ H, SqT K H a [.int 1, .int 0]
  nothing : ∃ a, mg "NOTHING" = some (.ref a) ∧ ∀ H, SqT K H a [.int 1, .int 0, .int 0, .int 1]
  words : ∃ a, mg "WORDS" = some (.ref a) ∧ ∀ H, SqT K H a [.str "rail", .str "rung"]
section
variable {X : Cx} {x : Str} {pos : Pos} {i : Int}
/-- a constant of the module that is an int -/
theorem pe_kI (h : ∃ t, X.mg x = some (.int i t)) (hg : Gl X x := by rfl) (hd : (x == ("__debug__" : Str)) = false := by decide) : PE X (.Name x pos) (tC (.int i)) := by
  obtain ⟨t, e⟩ := h
  exact pe_glob hg e ⟨t, rfl⟩ hd
theorem pe_kS {z : Str} (h : ∃ t, X.mg x = some (.str z t)) (hg : Gl X x := by rfl) (hd : (x == ("__debug__" : Str)) = false := by decide) : PE X (.Name x pos) (tC (.str z)) := by
  obtain ⟨t, e⟩ := h
  exact pe_glob hg e ⟨t, rfl⟩ hd
/-- .. a tuple -/
def tKT (K : PySem.W.Frag) (xs : List V) : TE := fun _ H Q => ∀ a, SqT K H a xs → Q (.ref a) H
theorem pe_kT {xs : List V} (h : ∃ a, X.mg x = some (.ref a) ∧ ∀ H, SqT X.K H a xs) (hg : Gl X x := by rfl) (hd : (x == ("__debug__" : Str)) = false := by decide) : PE X (.Name x pos) (tKT X.K xs) := by
  obtain ⟨a, e, hT⟩ := h
  have q := pe_glob (X := X) (pos := pos) hg e (show RelV (.ref a) (.ref a) from rfl) hd
  exact ⟨fun pins s σ H Q I hq => q.run pins s σ H Q I (hq a (hT H))⟩
/-- a built-in type as a value -/
theorem pe_ty {n : String} (hm : X.mg x = none) (hv : bootBuiltins x = some (.type n)) (hg : Gl X x := by rfl) (hn : x ≠ "__name__" := by decide) (hd : (x == ("__debug__" : Str)) = false := by decide) : PE X (.Name x pos) (tC (.ty n)) :=
  pe_bltn hg hm hv rfl hn hd
end
end K12
namespace K12
open PySem PySem.Spec PyProof.Rows L2
section
variable {P : Program} {w : World} {K : PySem.W.Frag} {mg : Str → Option Value} {base : Heap}

/-! ### is_integer -/
theorem sc15 : FnScope ["value"] ["value"] (defScope (top 15)) := ⟨rfl, rfl, rfl, by decide +kernel, rfl, by decide +kernel, by decide +kernel⟩
def spIsInt : Sp := fun vs H Q _ => ∃ i : Int, vs = [.int i] ∧ Q (.bl true) H
theorem c_isint (D : Df K mg "is_integer" (top 15)) (T : Tx K mg) : Ca P w K mg base 1 "is_integer" spIsInt := by
  refine ca_mk D sc15 (fun _ _ _ _ _ _ us hl => match us, hl with | [_], _ => rfl) (fun vs H Q E h => ?_) (fun f cdv A fr s H vs Q E hr h => ?_)
  · obtain ⟨i, rfl, _⟩ := h
    rfl
  · obtain ⟨i, rfl, q⟩ := h
    refine ⟨_, pss_one (ps_ret (pe_and (pe_callB call_isi (by rfl) T.isinstance (by decide +kernel) (pa_cons (pv 0) (pa_cons (pe_ty (n := "int") T.int (by decide +kernel)) pa_nil)))
      (pe_one (pe_not (pe_callB call_isi (by rfl) T.isinstance (by decide +kernel) (pa_cons (pv 0) (pa_cons (pe_ty (n := "bool") T.bool (by decide +kernel)) pa_nil))))))), ?_⟩
    refine ⟨_, rfl, _, _, _, _, true, rfl, .ty _, .base (.int i), kit_ty (by decide +kernel), true, rfl, iteT ?_⟩
    exact ⟨_, rfl, _, _, _, _, false, rfl, .ty _, .base (.int i), kit_ty (by decide +kernel), false, rfl, q⟩

/-! ### is_between -/
theorem sc16 : FnScope ["value", "low", "high"] ["value", "low", "high"] (defScope (top 16)) := ⟨rfl, rfl, rfl, by decide +kernel, rfl, by decide +kernel, by decide +kernel⟩
def spBetween : Sp := fun vs H Q _ => ∃ i lo hi : Int, vs = [.int i, .int lo, .int hi] ∧ lo ≤ i ∧ i ≤ hi ∧ Q (.bl true) H
theorem c_between (D : Df K mg "is_between" (top 16)) (c1 : Ca P w K mg base 1 "is_integer" spIsInt) : Ca P w K mg base 2 "is_between" spBetween := by
  refine ca_mk D sc16 (fun _ _ _ _ _ _ us hl => match us, hl with | [_, _, _], _ => rfl) (fun vs H Q E h => ?_) (fun f cdv A fr s H vs Q E hr h => ?_)
  · obtain ⟨i, lo, hi, rfl, _⟩ := h
    rfl
  · obtain ⟨i, lo, hi, rfl, h1, h2, q⟩ := h
    refine ⟨_, pss_one (ps_ret (pe_and (pe_ca c1 hr (pa_cons (pv 0) pa_nil)) (pe_one (pe_chain op_le op_le (pv 1) (pv 0) (pv 2))))), ?_⟩
    refine ⟨_, rfl, i, rfl, true, rfl, iteT ?_⟩
    refine ⟨_, rfl, _, rfl, lo, i, rfl, rfl, _, rfl, ?_⟩
    rw [decide_eq_true h1]
    refine iteT ⟨_, rfl, i, hi, rfl, rfl, ?_⟩
    exact blT (show i ≤ hi from h2) q

/-! ### is_fraction, is_number, is_resistance -/
/-- what may be passed as a load: a whole number, a pair -/
inductive LoadV (H : Hp) : V → Nat × Nat → Prop where
  | int (n : Nat) : LoadV H (nI n) (n, 1)
  | tup {a : Addr} {x : Nat × Nat} (h : H a = some (.tup (pr x))) : LoadV H (.ref a) x
theorem LoadV.same {H H' : Hp} {v : V} {x : Nat × Nat} (s : Same H H') (h : LoadV H v x) : LoadV H' v x := by
  cases h with
  | int n => exact .int n
  | tup h => exact .tup (s _ _ h)
theorem sc17 : FnScope ["value"] ["value"] (defScope (top 17)) := ⟨rfl, rfl, rfl, by decide +kernel, rfl, by decide +kernel, by decide +kernel⟩
def spIsFrac : Sp := fun vs H Q _ => ∃ v x, vs = [v] ∧ LoadV H v x ∧ Q (.bl (decide (1 ≤ x.2))) H
theorem c_isfrac (D : Df K mg "is_fraction" (top 17)) (T : Tx K mg) (c1 : Ca P w K mg base 1 "is_integer" spIsInt) : Ca P w K mg base 2 "is_fraction" spIsFrac := by
  refine ca_mk D sc17 (fun _ _ _ _ _ _ us hl => match us, hl with | [_], _ => rfl) (fun vs H Q E h => ?_) (fun f cdv A fr s H vs Q E hr h => ?_)
  · obtain ⟨v, x, rfl, _⟩ := h
    rfl
  · obtain ⟨v, x, rfl, hv, q⟩ := h
    refine ⟨_, pss_cons (ps_if (pt_not (pt_val (pe_callB call_isi (by rfl) T.isinstance (by decide +kernel) (pa_cons (pv 0) (pa_cons (pe_ty (n := "tuple") T.tuple (by decide +kernel)) pa_nil)))))
        (pss_one (ps_ret (pe_and (pe_ca c1 hr (pa_cons (pv 0) pa_nil)) (pe_one (pe_cmpR op_ge (pv 0) pe_int (nomark _)))))) pss_nil)
      (pss_one (ps_ret (pe_and (pe_cmpR op_eq (pe_callB call_len_seq (by rfl) T.len boot_len (pa_cons (pv 0) pa_nil)) pe_int (nomark _))
        (pe_and (pe_ca c1 hr (pa_cons (pe_ix ix_tup (pv 0) pe_int (fun _ _ => rfl)) pa_nil)) (pe_and (pe_ca c1 hr (pa_cons (pe_ix ix_tup (pv 0) pe_int (fun _ _ => rfl)) pa_nil))
          (pe_and (pe_cmpR op_ge (pe_ix ix_tup (pv 0) pe_int (fun _ _ => rfl)) pe_int (nomark _)) (pe_one (pe_cmpR op_ge (pe_ix ix_tup (pv 0) pe_int (fun _ _ => rfl)) pe_int (nomark _))))))))), ?_⟩
    cases hv with
    | int n =>
      refine ⟨_, rfl, _, _, _, _, false, rfl, .ty _, .base (.int _), kit_ty (by decide +kernel), false, rfl, iteT ?_⟩
      refine ⟨_, rfl, (n : Int), rfl, true, rfl, iteT ?_⟩
      refine ⟨_, rfl, (n : Int), 0, rfl, rfl, ?_⟩
      exact blT (show (0 : Int) ≤ (n : Int) from Int.natCast_nonneg n) q
    | @tup a x h =>
      refine ⟨_, rfl, _, _, _, _, true, rfl, .ty _, .base (.tup h), kit_ty (by decide +kernel), true, rfl, iteF ?_⟩
      have g0 : atI (pr x) 0 = some (nI x.1) := atI_nat (j := 0) rfl
      have g1 : atI (pr x) 1 = some (nI x.2) := atI_nat (j := 1) rfl
      refine ⟨_, rfl, a, _, rfl, .inr (SqT.of h), rfl, true, rfl, iteT ?_⟩
      refine ⟨_, rfl, a, _, 0, _, rfl, rfl, SqT.of h, g0, _, rfl, true, rfl, iteT ?_⟩
      refine ⟨_, rfl, a, _, 1, _, rfl, rfl, SqT.of h, g1, _, rfl, true, rfl, iteT ?_⟩
      refine ⟨_, rfl, a, _, 0, _, rfl, rfl, SqT.of h, g0, _, _, rfl, rfl, _, rfl, ?_⟩
      rw [decide_eq_true (show (0 : Int) ≤ (x.1 : Int) from Int.natCast_nonneg _)]
      refine iteT ⟨_, rfl, a, _, 1, _, rfl, rfl, SqT.of h, g1, _, _, rfl, rfl, ?_⟩
      have e : decide ((1 : Int) ≤ (x.2 : Int)) = decide (1 ≤ x.2) := decide_eq_decide.mpr (by omega)
      exact blE e q

/-! ### is_number -/
theorem sc18 : FnScope ["value"] ["value"] (defScope (top 18)) := ⟨rfl, rfl, rfl, by decide +kernel, rfl, by decide +kernel, by decide +kernel⟩
/-- a load in bounds, not 0 / 0 -/
def LoadOk (x : Nat × Nat) : Prop := (1 ≤ x.2 ∨ x = (1, 0)) ∧ x.1 ≤ 1000000000000 ∧ x.2 ≤ 1000000000000
def spLoad (v : V) : Sp := fun vs H Q _ => ∃ l x, vs = [l] ∧ LoadV H l x ∧ LoadOk x ∧ Q v H
theorem c_isnum (D : Df K mg "is_number" (top 18)) (T : Tx K mg) (c1 : Ca P w K mg base 1 "is_integer" spIsInt) (c2 : Ca P w K mg base 2 "is_fraction" spIsFrac) : Ca P w K mg base 3 "is_number" (spLoad (.bl true)) := by
  refine ca_mk D sc18 (fun _ _ _ _ _ _ us hl => match us, hl with | [_], _ => rfl) (fun vs H Q E h => ?_) (fun f cdv A fr s H vs Q E hr h => ?_)
  · obtain ⟨v, x, rfl, _⟩ := h
    rfl
  · obtain ⟨v, x, rfl, hv, hx, q⟩ := h
    refine ⟨_, pss_cons (ps_if (pt_val (pe_ca c2 hr (pa_cons (pv 0) pa_nil))) (pss_one (ps_ret pe_bl)) pss_nil)
      (pss_cons (ps_if (PW.pt (pw_or (pt_not (pt_val (pe_callB call_isi (by rfl) T.isinstance (by decide +kernel) (pa_cons (pv 0) (pa_cons (pe_ty (n := "tuple") T.tuple (by decide +kernel)) pa_nil)))))
          (pw_or1 (pt_cmpR op_ne (pe_callB call_len_seq (by rfl) T.len boot_len (pa_cons (pv 0) pa_nil)) pe_int (nomark _))))) (pss_one (ps_ret pe_bl)) pss_nil)
      (pss_one (ps_ret (pe_and (pe_ca c1 hr (pa_cons (pe_ix ix_tup (pv 0) pe_int (fun _ _ => rfl)) pa_nil)) (pe_and (pe_ca c1 hr (pa_cons (pe_ix ix_tup (pv 0) pe_int (fun _ _ => rfl)) pa_nil))
        (pe_one (pe_cmpR (op_eqD hr.units) (pv 0) (pe_kT T.opn) (nomark _)))))))), ?_⟩
    refine ⟨_, rfl, v, x, rfl, hv, _, rfl, ?_⟩
    by_cases h1 : 1 ≤ x.2
    · rw [decide_eq_true h1]
      exact iteT q
    · rw [decide_eq_false h1]
      refine iteF ?_
      obtain rfl : x = (1, 0) := hx.1.resolve_left h1
      cases hv with
      | @tup a x h =>
        have g0 : atI (pr (1, 0)) 0 = some (nI 1) := atI_nat (j := 0) rfl
        have g1 : atI (pr (1, 0)) 1 = some (nI 0) := atI_nat (j := 1) rfl
        refine ⟨_, rfl, _, _, _, _, true, rfl, .ty _, .base (.tup h), kit_ty (by decide +kernel), true, rfl, iteF ?_⟩
        refine ⟨_, rfl, a, _, rfl, .inr (SqT.of h), rfl, _, rfl, iteF ?_⟩
        refine ⟨_, rfl, a, _, 0, _, rfl, rfl, SqT.of h, g0, _, rfl, true, rfl, iteT ?_⟩
        refine ⟨_, rfl, a, _, 1, _, rfl, rfl, SqT.of h, g1, _, rfl, true, rfl, iteT ?_⟩
        refine ⟨_, rfl, fun b hb => ⟨.tuple [.int 1, .int 0], .tuple [.int 1, .int 0], .tup (SqT.of h) (.cons (.int _) (.cons (.int _) .nil)), .tup hb (.cons (.int _) (.cons (.int _) .nil)), rfl, rfl, ?_⟩⟩
        exact q

/-! ### is_resistance, check_resistance -/
theorem sc19 : FnScope ["value"] ["value"] (defScope (top 19)) := ⟨rfl, rfl, rfl, by decide +kernel, rfl, by decide +kernel, by decide +kernel⟩
theorem c_isres (D : Df K mg "is_resistance" (top 19)) (T : Tx K mg) (c1 : Ca P w K mg base 3 "is_number" (spLoad (.bl true))) : Ca P w K mg base 4 "is_resistance" (spLoad (.bl true)) := by
  refine ca_mk D sc19 (fun _ _ _ _ _ _ us hl => match us, hl with | [_], _ => rfl) (fun vs H Q E h => ?_) (fun f cdv A fr s H vs Q E hr h => ?_)
  · obtain ⟨v, x, rfl, _⟩ := h
    rfl
  · obtain ⟨v, x, rfl, hv, hx, q⟩ := h
    refine ⟨_, pss_cons (ps_if (pt_not (pt_val (pe_ca c1 hr (pa_cons (pv 0) pa_nil)))) (pss_one (ps_ret pe_bl)) pss_nil)
      (pss_cons (ps_if (pt_val (pe_callB call_isi (by rfl) T.isinstance (by decide +kernel) (pa_cons (pv 0) (pa_cons (pe_ty (n := "tuple") T.tuple (by decide +kernel)) pa_nil))))
          (pss_one (ps_ret (pe_and (pe_cmpR op_le (pe_ix ix_tup (pv 0) pe_int (fun _ _ => rfl)) (pe_kI T.greatest) (nomark _)) (pe_one (pe_cmpR op_le (pe_ix ix_tup (pv 0) pe_int (fun _ _ => rfl)) (pe_kI T.greatest) (nomark _)))))) pss_nil)
        (pss_one (ps_ret (pe_cmpR op_le (pv 0) (pe_kI T.greatest) (nomark _))))), ?_⟩
    refine ⟨_, rfl, v, x, rfl, hv, hx, true, rfl, iteF ?_⟩
    cases hv with
    | int n =>
      refine ⟨_, rfl, _, _, _, _, false, rfl, .ty _, .base (.int _), kit_ty (by decide +kernel), false, rfl, iteF ?_⟩
      refine ⟨_, rfl, _, _, rfl, rfl, ?_⟩
      exact blT (show (n : Int) ≤ 1000000000000 from by have := hx.2.1; simp only at this; omega) q
    | @tup a x h =>
      have g0 : atI (pr x) 0 = some (nI x.1) := atI_nat (j := 0) rfl
      have g1 : atI (pr x) 1 = some (nI x.2) := atI_nat (j := 1) rfl
      refine ⟨_, rfl, _, _, _, _, true, rfl, .ty _, .base (.tup h), kit_ty (by decide +kernel), true, rfl, iteT ?_⟩
      refine ⟨_, rfl, a, _, 0, _, rfl, rfl, SqT.of h, g0, _, _, rfl, rfl, _, rfl, ?_⟩
      rw [decide_eq_true (show (x.1 : Int) ≤ 1000000000000 from by have := hx.2.1; omega)]
      refine iteT ⟨_, rfl, a, _, 1, _, rfl, rfl, SqT.of h, g1, _, _, rfl, rfl, ?_⟩
      exact blT (show (x.2 : Int) ≤ 1000000000000 from by have := hx.2.2; omega) q
theorem sc23 : FnScope ["value"] ["value"] (defScope (top 23)) := ⟨rfl, rfl, rfl, by decide +kernel, rfl, by decide +kernel, by decide +kernel⟩
theorem c_checkres (D : Df K mg "check_resistance" (top 23)) (c1 : Ca P w K mg base 4 "is_resistance" (spLoad (.bl true))) : Ca P w K mg base 5 "check_resistance" (spLoad .non) := by
  refine ca_mk D sc23 (fun _ _ _ _ _ _ us hl => match us, hl with | [_], _ => rfl) (fun vs H Q E h => ?_) (fun f cdv A fr s H vs Q E hr h => ?_)
  · obtain ⟨v, x, rfl, _⟩ := h
    rfl
  · obtain ⟨v, x, rfl, hv, hx, q⟩ := h
    refine ⟨_, pss_one (ps_if (pt_not (pt_val (pe_ca c1 hr (pa_cons (pv 0) pa_nil)))) (pss_one ps_never) pss_nil), ?_⟩
    exact ⟨_, rfl, v, x, rfl, hv, hx, true, rfl, iteF q⟩

/-! ### common, lowest, pair_of -/
theorem sc20 : FnScope ["one", "other"] ["one", "other"] (defScope (top 20)) := ⟨rfl, rfl, rfl, by decide +kernel, rfl, by decide +kernel, by decide +kernel⟩
def spCommon : Sp := fun vs H Q _ => ∃ a b : Nat, vs = [nI a, nI b] ∧ Q (nI (Nat.gcd a b)) H
theorem c_common (D : Df K mg "common" (top 20)) (T : Tx K mg) : Ca P w K mg base 1 "common" spCommon := by
  refine ca_mk D sc20 (fun _ _ _ _ _ _ us hl => match us, hl with | [_, _], _ => rfl) (fun vs H Q E h => ?_) (fun f cdv A fr s H vs Q E hr h => ?_)
  · obtain ⟨a, b, rfl, _⟩ := h
    rfl
  · obtain ⟨a, b, rfl, q⟩ := h
    refine ⟨_, pss_cons (ps_while PassesOwn.never (pt_cmpR op_gt (pv 1) pe_int (nomark _))
        (pss_one (ps_par (i := 0) (j := 1) (by rfl) sc20.nd rfl rfl (by decide) rfl rfl (pa_cons (pv 1) (pa_cons (pe_op op_mod (pe_callTy call_int1 (by rfl) T.int (by decide +kernel) (pa_cons (pv 0) pa_nil)) (pe_callTy call_int1 (by rfl) T.int (by decide +kernel) (pa_cons (pv 1) pa_nil))) pa_nil)) (by rfl))))
      (pss_one (ps_ret (pv 0))), ?_⟩
    refine while_by (fun σ H' => ∃ x y : Nat, σ = [some (nI x), some (nI y)] ∧ H' = H ∧ Nat.gcd x y = Nat.gcd a b) (fun σ _ => match σ with | [_, some (.int y)] => y.toNat | _ => 0) ⟨a, b, rfl, rfl, rfl⟩ ?_ ?_
    · rintro σ H' ⟨x, y, rfl, rfl, e⟩
      refine ⟨_, rfl, _, _, rfl, rfl, _, rfl, ?_⟩
      refine ite2 (fun c => ?_) (fun c => ?_)
      · have c' : 0 < y := by have := of_decide_eq_true c; omega
        refine ⟨_, rfl, _, rfl, .inl ⟨_, rfl, _, rfl, .inl ⟨_, rfl, _, _, rfl, rfl, (by omega), _, _, rfl, ?_⟩⟩⟩
        refine ⟨⟨y, x % y, rfl, rfl, ?_⟩, ?_⟩
        · rw [← e, Nat.gcd_comm x y, Nat.gcd_rec y x, Nat.gcd_comm]
        · show ((x : Int) % (y : Int)).toNat < ((y : Nat) : Int).toNat
          have h1 : ((x : Int) % (y : Int)) = ((x % y : Nat) : Int) := (Int.natCast_emod x y).symm
          rw [h1, Int.toNat_natCast, Int.toNat_natCast]
          exact Nat.mod_lt _ c'
      · have c' : y = 0 := by
          have : ¬ (0 : Int) < (y : Int) := fun z => c (decide_eq_true z)
          omega
        subst c'
        rw [Nat.gcd_zero_right] at e
        refine ⟨_, rfl, ?_⟩
        rw [e]
        exact q
    · rintro σ H' Q1 Q2 hq ⟨v, e1, i, j, e2, e3, k, e4, q1⟩
      exact ⟨v, e1, i, j, e2, e3, k, e4, hq _ _ q1⟩

theorem sc21 : FnScope ["top", "bottom", "by"] ["top", "bottom"] (defScope (top 21)) := ⟨rfl, rfl, rfl, by decide +kernel, rfl, by decide +kernel, by decide +kernel⟩
/-- a new pair in lowest terms -/
def spLow : Sp := fun vs H Q _ => ∃ x : Nat × Nat, vs = pr x ∧ NZ x ∧ x.1 < 2 ^ 900 ∧ x.2 < 2 ^ 900 ∧ ∀ p, H p = none → Q (.ref p) (upd H p (.tup (pr (low x))))
theorem gcd_wide {x : Nat × Nat} (h : NZ x) (h1 : x.1 < 2 ^ 900) (h2 : x.2 < 2 ^ 900) : CDivW 0 ((Nat.gcd x.1 x.2 : Nat) : Int) := by
  have g := gcd_pos h
  refine wide_div (b := 900) (by omega) ?_ (by decide) (by decide)
  rw [Int.natAbs_natCast]
  rcases Nat.eq_zero_or_pos x.1 with e | e
  · rw [e, Nat.gcd_zero_left]; exact h2
  · exact Nat.lt_of_le_of_lt (Nat.gcd_le_left _ e) h1
theorem c_lowest (D : Df K mg "lowest" (top 21)) (c1 : Ca P w K mg base 1 "common" spCommon) : Ca P w K mg base 2 "lowest" spLow := by
  refine ca_mk D sc21 (fun _ _ _ _ _ _ us hl => match us, hl with | [_, _], _ => rfl) (fun vs H Q E h => ?_) (fun f cdv A fr s H vs Q E hr h => ?_)
  · obtain ⟨x, rfl, _⟩ := h
    rfl
  · obtain ⟨x, rfl, hp, b1, b2, q⟩ := h
    refine ⟨_, pss_cons (ps_set (i := 2) sc21.nd rfl (.inl rfl) (pe_ca c1 hr (pa_cons (pv 0) (pa_cons (pv 1) pa_nil))))
      (pss_one (ps_ret (pe_tup (pa_cons (pe_op op_fdivW (pv 0) (pv 2)) (pa_cons (pe_op op_fdivW (pv 1) (pv 2)) pa_nil))))), ?_⟩
    have g : CDivW 0 ((Nat.gcd x.1 x.2 : Nat) : Int) := gcd_wide hp b1 b2
    refine ⟨_, rfl, _, rfl, x.1, x.2, rfl, ?_⟩
    refine ⟨_, rfl, _, rfl, _, _, rfl, rfl, g, _, rfl, _, rfl, _, _, rfl, rfl, g, (by show 2 ≤ sizeLine; decide), fun p hp => ?_⟩
    exact q p hp

theorem sc22 : FnScope ["number"] ["number"] (defScope (top 22)) := ⟨rfl, rfl, rfl, by decide +kernel, rfl, by decide +kernel, by decide +kernel⟩
def spPairOf : Sp := fun vs H Q _ => ∃ v x, vs = [v] ∧ LoadV H v x ∧ LoadOk x ∧ ∀ p, H p = none → Q (.ref p) (upd H p (.tup (pr (low x))))
theorem LoadOk.nz {x : Nat × Nat} (h : LoadOk x) : NZ x := by
  unfold NZ
  rcases h.1 with h | h
  · omega
  · rw [h]; decide
theorem big900 {n : Nat} (h : n ≤ 1000000000000) : n < 2 ^ 900 := Nat.lt_of_le_of_lt h (by decide +kernel)
theorem c_pairof (D : Df K mg "pair_of" (top 22)) (T : Tx K mg) (c1 : Ca P w K mg base 2 "lowest" spLow) : Ca P w K mg base 3 "pair_of" spPairOf := by
  refine ca_mk D sc22 (fun _ _ _ _ _ _ us hl => match us, hl with | [_], _ => rfl) (fun vs H Q E h => ?_) (fun f cdv A fr s H vs Q E hr h => ?_)
  · obtain ⟨v, x, rfl, _⟩ := h
    rfl
  · obtain ⟨v, x, rfl, hv, hx, q⟩ := h
    refine ⟨_, pss_one (ps_ret (pe_ifExp (pt_val (pe_callB call_isi (by rfl) T.isinstance (by decide +kernel) (pa_cons (pv 0) (pa_cons (pe_ty (n := "tuple") T.tuple (by decide +kernel)) pa_nil))))
      (pe_ca c1 hr (pa_cons (pe_ix ix_tup (pv 0) pe_int (fun _ _ => rfl)) (pa_cons (pe_ix ix_tup (pv 0) pe_int (fun _ _ => rfl)) pa_nil)))
      (pe_tup (pa_cons (pv 0) (pa_cons pe_int pa_nil))))), ?_⟩
    cases hv with
    | int n =>
      refine ⟨_, rfl, _, _, _, _, false, rfl, .ty _, .base (.int _), kit_ty (by decide +kernel), false, rfl, iteF ?_⟩
      refine ⟨_, rfl, (by show 2 ≤ sizeLine; decide), fun p hp => ?_⟩
      have e : low (n, 1) = (n, 1) := low_of (Nat.gcd_one_right n)
      have q' := q p hp
      rw [e] at q'
      exact q'
    | @tup a x h =>
      have g0 : atI (pr x) 0 = some (nI x.1) := atI_nat (j := 0) rfl
      have g1 : atI (pr x) 1 = some (nI x.2) := atI_nat (j := 1) rfl
      refine ⟨_, rfl, _, _, _, _, true, rfl, .ty _, .base (.tup h), kit_ty (by decide +kernel), true, rfl, iteT ?_⟩
      refine ⟨_, rfl, a, _, 0, _, rfl, rfl, SqT.of h, g0, _, rfl, a, _, 1, _, rfl, rfl, SqT.of h, g1, ?_⟩
      exact ⟨x, rfl, hx.nz, big900 hx.2.1, big900 hx.2.2, q⟩
end
end K12
namespace K12
open PySem PySem.Spec PyProof.Rows L2
section
variable {P : Program} {w : World} {K : PySem.W.Frag} {mg : Str → Option Value} {base : Heap}
def chV (m : Ch) : List V := [nI m.a, nI m.b, nI m.c, nI m.d]
def wd (r : Bool) : Str := if r then "rail" else "rung"
def PcAt (H : Hp) (v : V) (p : Pc) : Prop := ∃ a, v = .ref a ∧ H a = some (.tup [.str (wd p.1), nI p.2])
theorem PcAt.same {H H' : Hp} {v : V} {p : Pc} (s : Same H H') (h : PcAt H v p) : PcAt H' v p := by
  obtain ⟨a, e, h⟩ := h
  exact ⟨a, e, s _ _ h⟩
theorem pcs_same {H H' : Hp} (s : Same H H') : ∀ {vs : List V} {l : List Pc}, Paired (PcAt H) vs l → Paired (PcAt H') vs l
  | _, _, .nil => .nil
  | _, _, .cons a r => .cons (a.same s) (pcs_same s r)
theorem paired_get {α β : Type} {F : α → β → Prop} : ∀ {xs : List α} {ys : List β} {i : Nat} {x : α}, Paired F xs ys → xs[i]? = some x → ∃ y, ys[i]? = some y ∧ F x y
  | _, _, _, _, .nil, e => by simp at e
  | _, _, 0, _, .cons r _, e => by
    simp at e
    subst e
    exact ⟨_, rfl, r⟩
  | _, _, i + 1, x, .cons _ t, e => by
    obtain ⟨y, h1, h2⟩ := paired_get (i := i) (x := x) t (by simpa using e)
    exact ⟨y, by simpa using h1, h2⟩
theorem take_next {α : Type} {l : List α} {i : Nat} {x : α} (h : l[i]? = some x) : l.take (i + 1) = l.take i ++ [x] := by
  rw [List.take_add_one, h]
  rfl

/-! ### joined -/
theorem sc27 : FnScope ["front", "back", "a", "b", "c", "d", "e", "f", "g", "h"] ["front", "back"] (defScope (top 27)) := ⟨rfl, rfl, rfl, by decide +kernel, rfl, by decide +kernel, by decide +kernel⟩
def spJoined (K : PySem.W.Frag) : Sp := fun vs H Q _ => ∃ (p1 p2 : Addr) (m n : Ch), vs = [.ref p1, .ref p2] ∧ SqT K H p1 (chV m) ∧ SqT K H p2 (chV n) ∧ ChLe 1000 n ∧ ∀ p, H p = none → Q (.ref p) (upd H p (.tup (chV (m.mul n))))
theorem mulR {i : Int} {n m : Nat} (h : n ≤ m) (hm : m ≤ 1000000000000) : CMul i (n : Int) := .inr ⟨by omega, by omega⟩
theorem mulL {j : Int} {n m : Nat} (h : n ≤ m) (hm : m ≤ 1000000000000) : CMul (n : Int) j := .inl ⟨by omega, by omega⟩
theorem c_joined (D : Df K mg "joined" (top 27)) : Ca P w K mg base 1 "joined" (spJoined K) := by
  refine ca_mk D sc27 (fun _ _ _ _ _ _ us hl => match us, hl with | [_, _], _ => rfl) (fun vs H Q E h => ?_) (fun f cdv A fr s H vs Q E hr h => ?_)
  · obtain ⟨p1, p2, m, n, rfl, _⟩ := h
    rfl
  · obtain ⟨p1, p2, m, n, rfl, h1, h2, hb, q⟩ := h
    refine ⟨_, pss_cons (ps_asg (pv 0) (pg_tup rfl (pgs_cons (pg_name (i := 2) sc27.nd rfl (.inl rfl)) (pgs_cons (pg_name (i := 3) sc27.nd rfl (.inl rfl)) (pgs_cons (pg_name (i := 4) sc27.nd rfl (.inl rfl)) (pgs_cons (pg_name (i := 5) sc27.nd rfl (.inl rfl)) pgs_nil))))))
      (pss_cons (ps_asg (pv 1) (pg_tup rfl (pgs_cons (pg_name (i := 6) sc27.nd rfl (.inl rfl)) (pgs_cons (pg_name (i := 7) sc27.nd rfl (.inl rfl)) (pgs_cons (pg_name (i := 8) sc27.nd rfl (.inl rfl)) (pgs_cons (pg_name (i := 9) sc27.nd rfl (.inl rfl)) pgs_nil))))))
      (pss_one (ps_ret (pe_tup (pa_cons (pe_op op_add (pe_op op_mul (pv 2) (pv 6)) (pe_op op_mul (pv 3) (pv 8))) (pa_cons (pe_op op_add (pe_op op_mul (pv 2) (pv 7)) (pe_op op_mul (pv 3) (pv 9)))
        (pa_cons (pe_op op_add (pe_op op_mul (pv 4) (pv 6)) (pe_op op_mul (pv 5) (pv 8))) (pa_cons (pe_op op_add (pe_op op_mul (pv 4) (pv 7)) (pe_op op_mul (pv 5) (pv 9))) pa_nil)))))))), ?_⟩
    have m1 : ∀ i, CMul i ((n.a : Nat) : Int) := fun i => mulR hb.a (by decide)
    have m2 : ∀ i, CMul i ((n.b : Nat) : Int) := fun i => mulR hb.b (by decide)
    have m3 : ∀ i, CMul i ((n.c : Nat) : Int) := fun i => mulR hb.c (by decide)
    have m4 : ∀ i, CMul i ((n.d : Nat) : Int) := fun i => mulR hb.d (by decide)
    refine ⟨_, rfl, p1, _, rfl, h1, rfl, _, _, rfl, _, _, rfl, _, _, rfl, _, _, rfl, rfl, ?_⟩
    refine ⟨_, rfl, p2, _, rfl, h2, rfl, _, _, rfl, _, _, rfl, _, _, rfl, _, _, rfl, rfl, ?_⟩
    refine ⟨_, rfl, _, rfl, _, _, rfl, rfl, m1 _, _, rfl, _, rfl, _, _, rfl, rfl, m3 _, _, _, rfl, rfl, ?_⟩
    refine ⟨_, rfl, _, rfl, _, _, rfl, rfl, m2 _, _, rfl, _, rfl, _, _, rfl, rfl, m4 _, _, _, rfl, rfl, ?_⟩
    refine ⟨_, rfl, _, rfl, _, _, rfl, rfl, m1 _, _, rfl, _, rfl, _, _, rfl, rfl, m3 _, _, _, rfl, rfl, ?_⟩
    refine ⟨_, rfl, _, rfl, _, _, rfl, rfl, m2 _, _, rfl, _, rfl, _, _, rfl, rfl, m4 _, _, _, rfl, rfl, ?_⟩
    exact ⟨by show 4 ≤ sizeLine; decide, fun p hp => q p hp⟩

/-! ### chain_of -/
theorem sc28 : FnScope ["pieces", "found", "times", "word", "ohms"] ["pieces"] (defScope (top 28)) := ⟨rfl, rfl, rfl, by decide +kernel, rfl, by decide +kernel, by decide +kernel⟩
def spChainOf (K : PySem.W.Frag) : Sp := fun vs H Q _ => ∃ (a : Addr) (ps : List V) (l : List Pc), vs = [.ref a] ∧ SqT K H a ps ∧ Paired (PcAt H) ps l ∧ RowOk l ∧
  ∀ H' p q, Same H H' → SqT K H' p (chV (chain l)) → H' q = some (.tup [.ref p, nI (scale l)]) → Q (.ref q) H'
theorem pcCh_le {p : Pc} (h : PcOk p) : ChLe 1000 (pcCh p) := by
  obtain ⟨r, o⟩ := p
  simp only [PcOk] at h
  cases r <;> constructor <;> simp [pcCh] <;> omega
theorem chain_next {l : List Pc} {i : Nat} {p : Pc} (h : l[i]? = some p) : chain (l.take (i + 1)) = (chain (l.take i)).mul (pcCh p) := by
  rw [take_next h]
  show (l.take i ++ [p]).foldl stepC Ch.one = _
  rw [List.foldl_append]
  rfl
theorem scale_next {l : List Pc} {i : Nat} {p : Pc} (h : l[i]? = some p) : scale (l.take (i + 1)) = stepS (scale (l.take i)) p := by
  rw [take_next h]
  show (l.take i ++ [p]).foldl stepS 1 = _
  rw [List.foldl_append]
  rfl
theorem c_chainof (D : Df K mg "chain_of" (top 28)) (T : Tx K mg) (c1 : Ca P w K mg base 1 "joined" (spJoined K)) : Ca P w K mg base 2 "chain_of" (spChainOf K) := by
  refine ca_mk D sc28 (fun _ _ _ _ _ _ us hl => match us, hl with | [_], _ => rfl) (fun vs H Q E h => ?_) (fun f cdv A fr s H vs Q E hr h => ?_)
  · obtain ⟨a, ps, l, rfl, _⟩ := h
    rfl
  · obtain ⟨a, ps, l, rfl, hS, hP, hl, q⟩ := h
    refine ⟨_, pss_cons (ps_par (i := 1) (j := 2) (by rfl) sc28.nd rfl rfl (by decide) rfl rfl (pa_cons (pe_kT T.nothing) (pa_cons pe_int pa_nil)) (by rfl))
      (pss_cons (ps_for PassesOwn.never rfl (pi_tup (pv 0)) (pg_tup rfl (pgs_cons (pg_name (i := 3) sc28.nd rfl (.inl rfl)) (pgs_cons (pg_name (i := 4) sc28.nd rfl (.inl rfl)) pgs_nil)))
        (pss_one (ps_if (pt_cmpR op_eq (pv 3) pe_str (nomark _))
          (pss_one (ps_set (i := 1) sc28.nd rfl (.inl rfl) (pe_ca c1 hr (pa_cons (pv 1) (pa_cons (pe_tup (pa_cons pe_int (pa_cons (pv 4) (pa_cons pe_int (pa_cons pe_int pa_nil))))) pa_nil)))))
          (pss_one (ps_par (i := 1) (j := 2) (by rfl) sc28.nd rfl rfl (by decide) rfl rfl (pa_cons (pe_ca c1 hr (pa_cons (pv 1) (pa_cons (pe_tup (pa_cons (pv 4) (pa_cons pe_int (pa_cons pe_int (pa_cons (pv 4) pa_nil))))) pa_nil))) (pa_cons (pe_op op_mul (pv 2) (pv 4)) pa_nil)) (by rfl))))))
      (pss_one (ps_ret (pe_tup (pa_cons (pv 1) (pa_cons (pv 2) pa_nil)))))), ?_⟩
    intro n0 hn0
    refine ⟨_, _, rfl, ?_⟩
    refine ⟨_, rfl, a, rfl, ⟨_, hS⟩, for_tup (K := K) (a := a) (xs := ps) (fun i σ H' => ∃ (p : Addr) (z : Nat) (y3 y4 : Option V), σ = [some (.ref a), some (.ref p), some (nI z), y3, y4] ∧ z = scale (l.take i) ∧ Same H H' ∧ SqT K H' p (chV (chain (l.take i))))
      ⟨n0, 1, none, none, rfl, rfl, Same.refl _, hn0⟩ (fun i σ H' _ ⟨_, _, _, _, _, _, sm, _⟩ => same_seqT sm hS) ?_ ?_⟩
    · rintro i v σ H' hi ⟨p, z, y3, y4, rfl, ez, sm, hp⟩
      obtain ⟨pc, hpc, b, rfl, hb⟩ := paired_get hP hi
      have ok := hl pc (List.mem_of_getElem? hpc)
      have hb' := sm _ _ hb
      have e1 := chain_next hpc
      have e2 := scale_next hpc
      refine ⟨b, _, rfl, SqT.of hb', rfl, _, _, rfl, _, _, rfl, rfl, ?_⟩
      obtain ⟨r, o⟩ := pc
      refine ⟨_, rfl, rfl, _, rfl, ?_⟩
      cases r with
      | true =>
        refine iteT ?_
        refine ⟨_, rfl, _, rfl, (by show 4 ≤ sizeLine; decide), fun t ht => ?_⟩
        have s1 : Same H' (upd H' t (.tup [.int 1, nI o, .int 0, .int 1])) := same_new ht
        refine ⟨p, t, chain (l.take i), pcCh (true, o), rfl, same_seqT s1 hp, SqT.of upd_same, pcCh_le ok, fun y hy => ?_⟩
        refine ⟨y, z, _, _, rfl, ez.trans e2.symm, (sm.trans s1).trans (same_new hy), ?_⟩
        rw [e1]
        exact SqT.of upd_same
      | false =>
        refine iteF ?_
        refine ⟨_, rfl, _, rfl, _, rfl, (by show 4 ≤ sizeLine; decide), fun t ht => ?_⟩
        have s1 : Same H' (upd H' t (.tup [nI o, .int 0, .int 1, nI o])) := same_new ht
        refine ⟨p, t, chain (l.take i), pcCh (false, o), rfl, same_seqT s1 hp, SqT.of upd_same, pcCh_le ok, fun y hy => ?_⟩
        refine ⟨_, rfl, _, rfl, _, _, rfl, rfl, mulR ok.2 (by decide), _, _, rfl, ?_⟩
        refine ⟨y, z * o, _, _, rfl, ?_, (sm.trans s1).trans (same_new hy), ?_⟩
        · rw [e2, ez]
          rfl
        · rw [e1]
          exact SqT.of upd_same
    · rintro σ H' ⟨p, z, y3, y4, rfl, ez, sm, hp⟩
      have hlen : ps.length = l.length := hP.length
      rw [hlen, List.take_length] at ez hp
      refine ⟨_, rfl, _, rfl, (by show 2 ≤ sizeLine; decide), fun t ht => ?_⟩
      refine q _ p t (sm.trans (same_new ht)) (same_seqT (same_new ht) hp) ?_
      rw [upd_same, ez]

/-! ### led, shown -/
theorem sc29 : FnScope ["chain", "pair", "a", "b", "c", "d"] ["chain", "pair"] (defScope (top 29)) := ⟨rfl, rfl, rfl, by decide +kernel, rfl, by decide +kernel, by decide +kernel⟩
def spLed (K : PySem.W.Frag) : Sp := fun vs H Q _ => ∃ (p1 p2 : Addr) (m : Ch) (x : Nat × Nat), vs = [.ref p1, .ref p2] ∧ SqT K H p1 (chV m) ∧ H p2 = some (.tup (pr x)) ∧ Le 1000000000000 x ∧ ∀ p, H p = none → Q (.ref p) (upd H p (.tup (pr (app m x))))
theorem c_led (D : Df K mg "led" (top 29)) : Ca P w K mg base 1 "led" (spLed K) := by
  refine ca_mk D sc29 (fun _ _ _ _ _ _ us hl => match us, hl with | [_, _], _ => rfl) (fun vs H Q E h => ?_) (fun f cdv A fr s H vs Q E hr h => ?_)
  · obtain ⟨p1, p2, m, x, rfl, _⟩ := h
    rfl
  · obtain ⟨p1, p2, m, x, rfl, h1, h2, hb, q⟩ := h
    refine ⟨_, pss_cons (ps_asg (pv 0) (pg_tup rfl (pgs_cons (pg_name (i := 2) sc29.nd rfl (.inl rfl)) (pgs_cons (pg_name (i := 3) sc29.nd rfl (.inl rfl)) (pgs_cons (pg_name (i := 4) sc29.nd rfl (.inl rfl)) (pgs_cons (pg_name (i := 5) sc29.nd rfl (.inl rfl)) pgs_nil))))))
      (pss_one (ps_ret (pe_tup (pa_cons (pe_op op_add (pe_op op_mul (pv 2) (pe_ix ix_tup (pv 1) pe_int (fun _ _ => rfl))) (pe_op op_mul (pv 3) (pe_ix ix_tup (pv 1) pe_int (fun _ _ => rfl))))
        (pa_cons (pe_op op_add (pe_op op_mul (pv 4) (pe_ix ix_tup (pv 1) pe_int (fun _ _ => rfl))) (pe_op op_mul (pv 5) (pe_ix ix_tup (pv 1) pe_int (fun _ _ => rfl)))) pa_nil))))), ?_⟩
    have m1 : ∀ i, CMul i ((x.1 : Nat) : Int) := fun i => mulR hb.1 (by decide)
    have m2 : ∀ i, CMul i ((x.2 : Nat) : Int) := fun i => mulR hb.2 (by decide)
    have g0 : atI (pr x) 0 = some (nI x.1) := atI_nat (j := 0) rfl
    have g1 : atI (pr x) 1 = some (nI x.2) := atI_nat (j := 1) rfl
    refine ⟨_, rfl, p1, _, rfl, h1, rfl, _, _, rfl, _, _, rfl, _, _, rfl, _, _, rfl, rfl, ?_⟩
    refine ⟨_, rfl, _, rfl, p2, _, 0, _, rfl, rfl, SqT.of h2, g0, _, _, rfl, rfl, m1 _, _, rfl, _, rfl, p2, _, 1, _, rfl, rfl, SqT.of h2, g1, _, _, rfl, rfl, m2 _, _, _, rfl, rfl, ?_⟩
    refine ⟨_, rfl, _, rfl, p2, _, 0, _, rfl, rfl, SqT.of h2, g0, _, _, rfl, rfl, m1 _, _, rfl, _, rfl, p2, _, 1, _, rfl, rfl, SqT.of h2, g1, _, _, rfl, rfl, m2 _, _, _, rfl, rfl, ?_⟩
    exact ⟨by show 2 ≤ sizeLine; decide, fun p hp => q p hp⟩
theorem sc30 : FnScope ["chain", "pair", "top", "bottom"] ["chain", "pair"] (defScope (top 30)) := ⟨rfl, rfl, rfl, by decide +kernel, rfl, by decide +kernel, by decide +kernel⟩
def spShown (K : PySem.W.Frag) : Sp := fun vs H Q _ => ∃ (p1 p2 : Addr) (m : Ch) (x : Nat × Nat), vs = [.ref p1, .ref p2] ∧ SqT K H p1 (chV m) ∧ H p2 = some (.tup (pr x)) ∧ Le 1000000000000 x ∧ ChLe (13 ^ 8) m ∧ NZ (app m x) ∧
  ∀ H' p, Same H H' → H' p = some (.tup (pr (low (app m x)))) → Q (.ref p) H'
theorem app_big {m : Ch} {x : Nat × Nat} (hx : Le 1000000000000 x) (hm : ChLe (13 ^ 8) m) : (app m x).1 < 2 ^ 900 ∧ (app m x).2 < 2 ^ 900 := by
  have z := app_le hm hx
  have e : 2 * (13 ^ 8 * 1000000000000) < 2 ^ 900 := by decide +kernel
  exact ⟨Nat.lt_of_le_of_lt z.1 e, Nat.lt_of_le_of_lt z.2 e⟩
theorem c_shown (D : Df K mg "shown" (top 30)) (c1 : Ca P w K mg base 1 "led" (spLed K)) (c2 : Ca P w K mg base 2 "lowest" spLow) : Ca P w K mg base 3 "shown" (spShown K) := by
  refine ca_mk D sc30 (fun _ _ _ _ _ _ us hl => match us, hl with | [_, _], _ => rfl) (fun vs H Q E h => ?_) (fun f cdv A fr s H vs Q E hr h => ?_)
  · obtain ⟨p1, p2, m, x, rfl, _⟩ := h
    rfl
  · obtain ⟨p1, p2, m, x, rfl, h1, h2, hx, hm, hz, q⟩ := h
    refine ⟨_, pss_cons (ps_asg (pe_ca c1 hr (pa_cons (pv 0) (pa_cons (pv 1) pa_nil))) (pg_tup rfl (pgs_cons (pg_name (i := 2) sc30.nd rfl (.inl rfl)) (pgs_cons (pg_name (i := 3) sc30.nd rfl (.inl rfl)) pgs_nil))))
      (pss_one (ps_ret (pe_ca c2 hr (pa_cons (pv 2) (pa_cons (pv 3) pa_nil))))), ?_⟩
    refine ⟨_, rfl, _, rfl, p1, p2, m, x, rfl, h1, h2, hx, fun p hp => ?_⟩
    refine ⟨p, _, rfl, SqT.of upd_same, rfl, _, _, rfl, _, _, rfl, rfl, ?_⟩
    have b := app_big hx hm
    refine ⟨_, rfl, _, rfl, app m x, rfl, hz, b.1, b.2, fun y hy => ?_⟩
    exact q _ y ((same_new hp).trans (same_new hy)) upd_same
end
end K12
namespace K12
open PySem PySem.Spec PyProof.Rows L2 TL
/-! ### the texts of numbers and pieces -/
/-- str(n) -/
def nT (n : Nat) : Str := Str.ofString (toString ((n : Nat) : Int))
theorem nT_tl (n : Nat) : tl (nT n) = numL n := tl_num n
theorem nT_first {n : Nat} (h1 : 1 ≤ n) (h2 : n ≤ 12) : ∃ c r, tl (nT n) = c :: r ∧ 49 ≤ c ∧ r.length ≤ 1 := by
  rw [nT_tl]
  by_cases h : n < 10
  · exact ⟨48 + n, [], numL_lt h, by omega, Nat.zero_le _⟩
  · rw [numL_step (by omega), numL_lt (show n / 10 < 10 by omega)]
    exact ⟨48 + n / 10, [48 + n % 10], rfl, by omega, Nat.le_refl _⟩
theorem nT_len {n : Nat} (h1 : 1 ≤ n) (h2 : n ≤ 12) : 1 ≤ (nT n).length ∧ (nT n).length ≤ 2 := by
  obtain ⟨c, r, e, _, hr⟩ := nT_first h1 h2
  rw [len_tl, e, List.length_cons]
  omega
theorem nT_digits {n c : Nat} (h : c ∈ tl (nT n)) : 48 ≤ c ∧ c ≤ 57 := by
  rw [nT_tl] at h
  refine ⟨Nat.le_of_not_lt fun z => ?_, Nat.le_of_not_lt fun z => ?_⟩
  · exact numL_free (.inl z) h
  · exact numL_free (.inr z) h
theorem in_digits {c : Nat} (h : 48 ≤ c ∧ c ≤ 57) : c ∈ (("0123456789" : Str)).cps.toList := by
  have e : c = 48 ∨ c = 49 ∨ c = 50 ∨ c = 51 ∨ c = 52 ∨ c = 53 ∨ c = 54 ∨ c = 55 ∨ c = 56 ∨ c = 57 := by omega
  rcases e with e | e | e | e | e | e | e | e | e | e <;> subst e <;> decide +kernel
theorem nT_int {n : Nat} (h : n ≤ 12) : intText? (nT n) = some (n : Int) := int_num (by have := numL_len (n := n) (k := 2) (by decide) (by omega); omega)
/-- the text of a piece -/
def pcT (p : Pc) : Str := wd p.1 ++ " " ++ nT p.2
theorem wd_tl (r : Bool) : tl (wd r) = if r then [114, 97, 105, 108] else [114, 117, 110, 103] := by cases r <;> decide +kernel
theorem wd_len (r : Bool) : (wd r).length = 4 := by cases r <;> decide +kernel
theorem blank_tl : tl (" " : Str) = 32 :: [] := by decide +kernel
theorem comma_tl : tl (", " : Str) = 44 :: [32] := by decide +kernel
theorem pcT_tl (p : Pc) : tl (pcT p) = tl (wd p.1) ++ [32] ++ tl (nT p.2) := by
  unfold pcT
  rw [tl_append, tl_append, blank_tl]
theorem pcT_len {p : Pc} (h : PcOk p) : (pcT p).length ≤ 7 := by
  have := nT_len h.1 h.2
  rw [len_tl] at this
  rw [len_tl, pcT_tl, List.length_append, List.length_append, ← len_tl, wd_len]
  simp only [List.length_cons, List.length_nil]
  omega
theorem pcT_split (p : Pc) : Txt.split (pcT p) " " = [wd p.1, nT p.2] := by
  have e : pcT p = Txt.join " " [wd p.1, nT p.2] := by
    refine ext_tl ?_
    rw [pcT_tl, join_eq, tl_join]
    show _ = tl (wd p.1) ++ (tl (" " : Str) ++ tl (nT p.2))
    rw [blank_tl, List.append_assoc]
  rw [e]
  refine split_join blank_tl (by decide +kernel) (by simp) fun z hz => ?_
  rcases List.mem_cons.mp hz with rfl | hz
  · rw [wd_tl]
    cases p.1 <;> decide
  · rw [List.mem_singleton.mp hz]
    intro hm
    have := nT_digits hm
    omega
/-- the text of a row -/
def rowT (l : List Pc) : Str := Txt.join ", " (l.map pcT)
theorem rowT_split {l : List Pc} (h : l ≠ []) : Txt.split (rowT l) ", " = l.map pcT := by
  refine split_join comma_tl (by decide +kernel) (by simpa using h) fun z hz => ?_
  obtain ⟨p, _, rfl⟩ := List.mem_map.mp hz
  rw [pcT_tl]
  intro hm
  rcases List.mem_append.mp hm with hm | hm
  · rcases List.mem_append.mp hm with hm | hm
    · rw [wd_tl] at hm
      revert hm
      cases p.1 <;> decide
    · revert hm
      decide
  · have := nT_digits hm
    omega
section
variable {P : Program} {w : World} {K : PySem.W.Frag} {mg : Str → Option Value} {base : Heap}

/-! ### integer_in -/
theorem sc24 : FnScope ["word", "digit"] ["word"] (defScope (top 24)) := ⟨rfl, rfl, rfl, by decide +kernel, rfl, by decide +kernel, by decide +kernel⟩
def spIntIn : Sp := fun vs H Q _ => ∃ n : Nat, vs = [.str (nT n)] ∧ 1 ≤ n ∧ n ≤ 12 ∧ ∀ H', Same H H' → Q (nI n) H'
theorem c_intin (D : Df K mg "integer_in" (top 24)) (T : Tx K mg) : Ca P w K mg base 1 "integer_in" spIntIn := by
  refine ca_mk D sc24 (fun _ _ _ _ _ _ us hl => match us, hl with | [_], _ => rfl) (fun vs H Q E h => ?_) (fun f cdv A fr s H vs Q E hr h => ?_)
  · obtain ⟨n, rfl, _⟩ := h
    rfl
  · obtain ⟨n, rfl, h1, h2, q⟩ := h
    refine ⟨_, pss_cons (ps_if (PW.pt (pw_or (pt_not (pt_chain op_le op_le pe_int (pe_callB call_len (by rfl) T.len boot_len (pa_cons (pv 0) pa_nil)) (pe_kI T.mdigits)))
        (pw_or1 (pt_val (pe_callB (cr_any rfl) (by rfl) T.any (by decide +kernel) (pa_cons (pe_lc (own := [("digit", 1)]) (g := gName 1) (tt := tYes) rfl sc24.nd (pi_str (pv 0)) (blkOk_by (N := ["word", "digit"]) (sc := defScope (top 24)) (by decide +kernel))
          (fun _ _ _ _ _ => pg_name (i := 1) sc24.nd rfl (Or.inl rfl)) (fun _ _ _ _ _ => pts_nil) (fun _ _ _ _ _ => pe_cmpR op_notIn_sign (pv 1) (pe_kS T.digits) rfl)) pa_nil)))))) (pss_one (ps_ret pe_non)) pss_nil)
      (pss_one (ps_ret (pe_ifExp (PW.pt (pw_and (pt_cmpR op_eq (pe_ix ix_str (pv 0) pe_int (fun _ _ => rfl)) pe_str (nomark _)) (pw_and1 (pt_cmpR op_ne (pv 0) pe_str (nomark _))))) pe_non
        (pe_callTy call_int_str (by rfl) T.int (by decide +kernel) (pa_cons (pv 0) pa_nil))))), ?_⟩
    have ln := nT_len h1 h2
    have lz : (nT n).length ≤ sizeLine := Nat.le_trans ln.2 (by decide)
    refine ⟨_, rfl, _, _, rfl, ⟨lz, rfl⟩, _, _, rfl, rfl, true, congrArg V.bl (decide_eq_true (by omega)), iteT ?_⟩
    refine ⟨_, _, rfl, rfl, true, congrArg V.bl (decide_eq_true (by omega)), iteF ?_⟩
    refine ⟨_, rfl, _, rfl, fun D0 hD0 => lc_it walk_str (fun i H' => Same H H' ∧ H' D0 = some (.lst ((List.replicate i false).map V.bl))) ⟨same_new hD0, upd_same⟩ (fun _ _ _ _ => trivial) ?_ ?_⟩
    · rintro i v H1 H2 hi ⟨sm, hD⟩ ⟨rfl, c, hc, rfl⟩
      have hm : c ∈ tl (nT n) := List.mem_of_getElem? (by simpa using hc)
      refine ⟨rfl, ?_⟩
      refine ⟨_, rfl, c, _, rfl, rfl, _, hD, ?_, same_set sm hD0, ?_⟩
      · rw [List.length_map, List.length_replicate]
        have : i < (nT n).length := hi
        exact Nat.lt_of_lt_of_le (Nat.lt_of_lt_of_le this ln.2) (by decide)
      · rw [upd_same, decide_eq_true (in_digits (nT_digits hm)), List.replicate_succ', List.map_append]
        rfl
    · rintro H1 ⟨sm, hD⟩
      refine ⟨D0, _, rfl, SqL.of hD, false, congrArg V.bl (by simp), iteF ?_⟩
      obtain ⟨c, r, ec, c49, _⟩ := nT_first h1 h2
      have g0 : atI (nT n).cps.toList 0 = some c := by
        have e : (nT n).cps.toList = c :: r := ec
        rw [e]
        exact atI_nat (j := 0) rfl
      have ne : ¬ (V.str ⟨#[c]⟩ = V.str "0") := fun z => by
        have z2 := congrArg tl (V.str.inj z)
        have z3 : [c] = [48] := z2.trans (by decide +kernel)
        have z4 := List.head_eq_of_cons_eq z3
        omega
      refine ⟨_, rfl, _, 0, c, rfl, rfl, lz, g0, rfl, false, congrArg V.bl (decide_eq_false ne), iteF (iteF ?_)⟩
      exact ⟨_, rfl, _, _, rfl, nT_int h2, Nat.le_trans ln.2 (by decide), q H1 sm⟩
end
end K12
namespace K12
open PySem PySem.Spec PyProof.Rows L2 TL
section
variable {P : Program} {w : World} {K : PySem.W.Frag} {mg : Str → Option Value} {base : Heap}

/-! ### piece_in -/
theorem sc36 : FnScope ["text", "words", "ohms"] ["text"] (defScope (top 36)) := ⟨rfl, rfl, rfl, by decide +kernel, rfl, by decide +kernel, by decide +kernel⟩
def spPieceIn : Sp := fun vs H Q _ => ∃ p : Pc, vs = [.str (pcT p)] ∧ PcOk p ∧ ∀ H' a, Same H H' → H' a = some (.tup [.str (wd p.1), nI p.2]) → Q (.ref a) H'
theorem wd_in (r : Bool) : (!inV (.str (wd r)) [.str "rail", .str "rung"]) = false := by cases r <;> decide +kernel
theorem c_piecein (D : Df K mg "piece_in" (top 36)) (T : Tx K mg) (c1 : Ca P w K mg base 1 "integer_in" spIntIn) (c2 : Ca P w K mg base 2 "is_between" spBetween) : Ca P w K mg base 3 "piece_in" spPieceIn := by
  refine ca_mk D sc36 (fun _ _ _ _ _ _ us hl => match us, hl with | [_], _ => rfl) (fun vs H Q E h => ?_) (fun f cdv A fr s H vs Q E hr h => ?_)
  · obtain ⟨p, rfl, _⟩ := h
    rfl
  · obtain ⟨p, rfl, ok, q⟩ := h
    refine ⟨_, pss_cons (ps_set (i := 1) sc36.nd rfl (.inl rfl) (pe_split (pv 0) pe_str))
      (pss_cons (ps_if (PW.pt (pw_or (pt_cmpR op_ne (pe_callB call_len_seq (by rfl) T.len boot_len (pa_cons (pv 1) pa_nil)) pe_int (nomark _)) (pw_or1 (pt_cmpR op_notIn_seq (pe_ix ix_list (pv 1) pe_int (fun _ _ => rfl)) (pe_kT T.words) rfl)))) (pss_one (ps_ret pe_non)) pss_nil)
      (pss_cons (ps_set (i := 2) sc36.nd rfl (.inl rfl) (pe_ca c1 hr (pa_cons (pe_ix ix_list (pv 1) pe_int (fun _ _ => rfl)) pa_nil)))
      (pss_one (ps_ret (pe_ifExp (pt_val (pe_ca c2 hr (pa_cons (pv 2) (pa_cons pe_int (pa_cons (pe_kI T.ohms) pa_nil))))) (pe_tup (pa_cons (pe_ix ix_list (pv 1) pe_int (fun _ _ => rfl)) (pa_cons (pv 2) pa_nil))) pe_non))))), ?_⟩
    refine ⟨_, rfl, ⟨_, rfl⟩, _, _, rfl, rfl, by decide +kernel, ?_, ?_⟩
    · have := pcT_len ok
      exact Nat.le_trans (Nat.add_le_add_right this 2) (by decide)
    rw [pcT_split]
    intro l hl
    have s1 : Same H (upd H l (.lst ([wd p.1, nT p.2].map V.str))) := same_new hl
    have g0 : atI ([wd p.1, nT p.2].map V.str) 0 = some (.str (wd p.1)) := atI_nat (j := 0) rfl
    have g1 : atI ([wd p.1, nT p.2].map V.str) 1 = some (.str (nT p.2)) := atI_nat (j := 1) rfl
    refine ⟨_, rfl, l, _, rfl, .inl (SqL.of upd_same), rfl, _, rfl, ?_⟩
    refine ⟨_, rfl, l, _, 0, _, rfl, rfl, SqL.of upd_same, g0, fun b hb => ?_⟩
    refine ⟨b, _, rfl, .inr hb, rfl, rfl, false, congrArg V.bl (wd_in p.1), ?_⟩
    refine ⟨_, rfl, l, _, 1, _, rfl, rfl, SqL.of upd_same, g1, p.2, rfl, ok.1, ok.2, fun H2 s2 => ?_⟩
    have hl2 : H2 l = some (.lst ([wd p.1, nT p.2].map V.str)) := s2 _ _ upd_same
    refine ⟨_, rfl, (p.2 : Int), 1, 12, rfl, by have := ok.1; omega, by have := ok.2; omega, true, rfl, ?_⟩
    refine ⟨_, rfl, l, _, 0, _, rfl, rfl, SqL.of hl2, g0, _, rfl, (by show 2 ≤ sizeLine; decide), fun a ha => ?_⟩
    exact q _ a ((s1.trans s2).trans (same_new ha)) upd_same

/-! ### is_piece, check_pieces -/
theorem sc34 : FnScope ["value"] ["value"] (defScope (top 34)) := ⟨rfl, rfl, rfl, by decide +kernel, rfl, by decide +kernel, by decide +kernel⟩
def spIsPiece : Sp := fun vs H Q _ => ∃ v p, vs = [v] ∧ PcAt H v p ∧ PcOk p ∧ Q (.bl true) H
theorem c_ispiece (D : Df K mg "is_piece" (top 34)) (T : Tx K mg) (c1 : Ca P w K mg base 2 "is_between" spBetween) : Ca P w K mg base 3 "is_piece" spIsPiece := by
  refine ca_mk D sc34 (fun _ _ _ _ _ _ us hl => match us, hl with | [_], _ => rfl) (fun vs H Q E h => ?_) (fun f cdv A fr s H vs Q E hr h => ?_)
  · obtain ⟨v, p, rfl, _⟩ := h
    rfl
  · obtain ⟨v, p, rfl, ⟨a, rfl, ha⟩, ok, q⟩ := h
    refine ⟨_, pss_cons (ps_if (PW.pt (pw_or (pt_not (pt_val (pe_callB call_isi (by rfl) T.isinstance (by decide +kernel) (pa_cons (pv 0) (pa_cons (pe_ty (n := "tuple") T.tuple (by decide +kernel)) pa_nil)))))
        (pw_or (pt_cmpR op_ne (pe_callB call_len_seq (by rfl) T.len boot_len (pa_cons (pv 0) pa_nil)) pe_int (nomark _))
        (pw_or1 (pt_not (pt_val (pe_callB call_isi (by rfl) T.isinstance (by decide +kernel) (pa_cons (pe_ix ix_tup (pv 0) pe_int (fun _ _ => rfl)) (pa_cons (pe_ty (n := "str") T.str (by decide +kernel)) pa_nil))))))))) (pss_one (ps_ret pe_bl)) pss_nil)
      (pss_one (ps_ret (pe_and (pe_cmpR op_in_seq (pe_ix ix_tup (pv 0) pe_int (fun _ _ => rfl)) (pe_kT T.words) rfl) (pe_one (pe_ca c1 hr (pa_cons (pe_ix ix_tup (pv 0) pe_int (fun _ _ => rfl)) (pa_cons pe_int (pa_cons (pe_kI T.ohms) pa_nil)))))))), ?_⟩
    have g0 : atI [.str (wd p.1), nI p.2] 0 = some (V.str (wd p.1)) := atI_nat (j := 0) rfl
    have g1 : atI [.str (wd p.1), nI p.2] 1 = some (nI p.2) := atI_nat (j := 1) rfl
    refine ⟨_, rfl, _, _, _, _, true, rfl, .ty _, .base (.tup ha), kit_ty (by decide +kernel), true, rfl, ?_⟩
    refine ⟨_, rfl, a, _, rfl, .inr (SqT.of ha), rfl, _, rfl, ?_⟩
    refine ⟨_, rfl, a, _, 0, _, rfl, rfl, SqT.of ha, g0, _, _, _, _, true, rfl, .ty _, .base (.str _), kit_ty (by decide +kernel), true, rfl, ?_⟩
    refine ⟨_, rfl, a, _, 0, _, rfl, rfl, SqT.of ha, g0, fun b hb => ⟨b, _, rfl, .inr hb, rfl, rfl, true, congrArg V.bl ?_, ?_⟩⟩
    · cases p.1 <;> decide +kernel
    · exact ⟨_, rfl, a, _, 1, _, rfl, rfl, SqT.of ha, g1, (p.2 : Int), 1, 12, rfl, by have := ok.1; omega, by have := ok.2; omega, q⟩
end
end K12
namespace K12
open PySem PySem.Spec PyProof.Rows L2 TL
theorem walk_enumT {K : PySem.W.Frag} {a : Addr} {xs : List V} : Walk (Itet K a) xs.length (fun H => SqT K H a xs) (YPair (fun i => some (.int (i : Nat))) (fun i => xs[i]?)) := by
  refine ⟨fun i _ hi q => ⟨xs, xs[i], q, by simp [hi]⟩, fun _ q => ⟨xs, q, rfl⟩, fun i H v H' _ q y => ?_⟩
  obtain ⟨T, x, h1, h2, h3, h4⟩ := y
  exact ⟨T, .int (i : Nat), x, h1, h2, h3, rfl, h4 xs q⟩
section
variable {P : Program} {w : World} {K : PySem.W.Frag} {mg : Str → Option Value} {base : Heap}
theorem sc35 : FnScope ["pieces", "index", "piece"] ["pieces"] (defScope (top 35)) := ⟨rfl, rfl, rfl, by decide +kernel, rfl, by decide +kernel, by decide +kernel⟩
def spCheckPieces : Sp := fun vs H Q _ => ∃ (a : Addr) (ps : List V) (l : List Pc), vs = [.ref a] ∧ H a = some (.tup ps) ∧ Paired (PcAt H) ps l ∧ RowOk l ∧ 1 ≤ l.length ∧ l.length ≤ 4 ∧ ∀ H', Same H H' → Q .non H'
theorem c_checkpieces (D : Df K mg "check_pieces" (top 35)) (T : Tx K mg) (c1 : Ca P w K mg base 3 "is_piece" spIsPiece) : Ca P w K mg base 4 "check_pieces" spCheckPieces := by
  refine ca_mk D sc35 (fun _ _ _ _ _ _ us hl => match us, hl with | [_], _ => rfl) (fun vs H Q E h => ?_) (fun f cdv A fr s H vs Q E hr h => ?_)
  · obtain ⟨a, ps, l, rfl, _⟩ := h
    rfl
  · obtain ⟨a, ps, l, rfl, ha, hP, hl, l1, l4, q⟩ := h
    have hlen : ps.length = l.length := hP.length
    refine ⟨_, pss_cons (ps_if (PW.pt (pw_or (pt_cmpR op_eq (pe_callB call_len_seq (by rfl) T.len boot_len (pa_cons (pv 0) pa_nil)) pe_int (nomark _))
        (pw_or1 (pt_cmpR op_gt (pe_callB call_len_seq (by rfl) T.len boot_len (pa_cons (pv 0) pa_nil)) (pe_kI T.pieces) (nomark _))))) (pss_one ps_never) pss_nil)
      (pss_one (ps_for PassesOwn.never rfl (pi_enumT (by rfl) T.enumerate (pa_cons (pv 0) pa_nil)) (pg_tup rfl (pgs_cons (pg_name (i := 1) sc35.nd rfl (.inl rfl)) (pgs_cons (pg_name (i := 2) sc35.nd rfl (.inl rfl)) pgs_nil)))
        (pss_one (ps_if (pt_not (pt_val (pe_ca c1 hr (pa_cons (pv 2) pa_nil)))) (pss_one ps_never) pss_nil)))), ?_⟩
    refine ⟨_, rfl, a, _, rfl, .inr (SqT.of ha), rfl, false, congrArg V.bl (decide_eq_false fun z => ?_), ?_⟩
    · have z' := V.int.inj z
      omega
    refine ⟨_, rfl, a, _, rfl, .inr (SqT.of ha), _, _, rfl, rfl, false, congrArg V.bl (decide_eq_false (by omega)), ?_⟩
    refine ⟨_, rfl, a, ps, rfl, SqT.of ha, for_it (walk_enumT (xs := ps)) (fun i σ H' => ∃ y1 y2, σ = [some (.ref a), y1, y2] ∧ Same H H') ⟨none, none, rfl, Same.refl _⟩ (fun i σ H' _ hh => ?_) ?_ ?_⟩
    · obtain ⟨_, _, _, sm⟩ := hh
      exact SqT.of (sm _ _ ha)
    · rintro i v σ H1 H2 hi ⟨y1, y2, rfl, sm⟩ ⟨t, u, x, rfl, ht, rfl, e1, e2⟩
      obtain ⟨p, hp, hx⟩ := paired_get hP e2
      obtain rfl := Option.some.inj e1
      have s2 := sm.trans (same_new (o := .tup [.int (i : Nat), x]) ht)
      refine ⟨t, _, rfl, SqT.of upd_same, rfl, _, _, rfl, _, _, rfl, rfl, ?_⟩
      refine ⟨_, rfl, x, p, rfl, hx.same s2, hl p (List.mem_of_getElem? hp), true, rfl, ?_⟩
      exact ⟨_, _, rfl, s2⟩
    · rintro σ H1 ⟨y1, y2, rfl, sm⟩
      exact q H1 sm

/-! ### the classes -/
/-- what the top has written of the two classes -/
structure PF (K : PySem.W.Frag) (mg : Str → Option Value) (C R : Addr) : Prop where
  mC : mg "Pattern" = some (.ref C)
  mR : mg "Row" = some (.ref R)
  isC : C8.InsC K C
  isR : C8.InsC K R
  tR : PySem.W.kitOne K (.type "tuple") (.ref R) = some false
  nRow : NoAttr K C "row"
  nChain : NoAttr K C "chain"
  nScale : NoAttr K C "scale"
  nTold : NoAttr K R "told"
/-- a method as it stands: its def is at f -/
structure Mt (K : PySem.W.Frag) (m qual : Str) (st : Stmt) (f : Addr) : Prop where
  ex : ∃ fd : FuncData, Fun K m qual st f fd
/-- what stands at f keeps the promise -/
structure CaM (P : Program) (w : World) (K : PySem.W.Frag) (mg : Str → Option Value) (base : Heap) (k : Nat) (f : Addr) (ps : List Str) (sp : Sp) : Prop where
  ex : ∃ fd : FuncData, FnOk P w K mg base CX0 k f fd ps sp ∧ Binds K fd ps []
theorem cam_mk {m qual : Str} {st : Stmt} {f : Addr} {N ps : List Str} {k : Nat} {sp : Sp} (D : Mt K m qual st f) (S : FnScope N ps (defScope st))
    (hb : ∀ (kV doc pm : Value) (an : Option Addr) (cdv ct : Value) (us : List Value), us.length = ps.length → bindArgs (PySem.W.fnOf m qual (defArgs st) (defBody st) (defScope st) .none kV doc pm an cdv ct) ⟨us, []⟩ = pure (ps.zip us))
    (len : ∀ vs H Q E, sp vs H Q E → vs.length = ps.length)
    (body : ∀ (cdv : Value) (A : Around) (fr : List Env) (s : Shared) (H : Hp) (vs : List V) (Q : VK) (E : XK), Room k (A.deeper (envOfC qual (defScope st) s.heap.objs.size f cdv)) → sp vs H Q E →
      ∃ t, PSs (cxOf CX0 P w K mg base N qual (defScope st) f cdv A fr s H E).nox (defBody st) t ∧ t { nx := fun _ H' => Q .non H', rt := Q } (start N vs) H) : CaM P w K mg base (k + 1) f ps sp := by
  obtain ⟨fd, F⟩ := D.ex
  exact ⟨fd, F.ok S len body, F.binds hb⟩
theorem sc33 : FnScope ["self", "told"] ["self", "told"] (defScope (inClass (top 33) 0)) := ⟨rfl, rfl, rfl, by decide +kernel, rfl, by decide +kernel, by decide +kernel⟩
def spRow (R : Addr) : Sp := fun vs H Q _ => ∃ (x dx : Addr) (v : V), vs = [.ref x, v] ∧ H x = some (.ins R dx []) ∧ Q .non (upd H x (.ins R dx [("told", v)]))
theorem c_row {C R f : Addr} (D : Mt K "__init__" "Row.__init__" (inClass (top 33) 0) f) (F : PF K mg C R) : CaM P w K mg base 1 f ["self", "told"] (spRow R) := by
  refine cam_mk D sc33 (fun _ _ _ _ _ _ us hl => match us, hl with | [_, _], _ => rfl) (fun vs H Q E h => ?_) (fun cdv A fr s H vs Q E hr h => ?_)
  · obtain ⟨x, dx, v, rfl, _⟩ := h
    rfl
  · obtain ⟨x, dx, v, rfl, hx, q⟩ := h
    refine ⟨_, pss_one (ps_fld (pv 0) (pv 1) rfl), ?_⟩
    exact ⟨_, rfl, _, rfl, x, R, dx, [], rfl, hx, F.isR.cl, F.nTold, by decide, q⟩

/-! ### patterns -/
/-- the attributes of a pattern -/
def pF (r c : Addr) (s : Nat) : List (Str × V) := [("row", .ref r), ("chain", .ref c), ("scale", nI s)]
/-- at x stands a pattern with the row l -/
def PatAt (K : PySem.W.Frag) (C : Addr) (H : Hp) (x : Addr) (l : List Pc) : Prop :=
  ∃ (dx r c : Addr) (ps : List V), H x = some (.ins C dx (pF r c (scale l))) ∧ H r = some (.tup ps) ∧ Paired (PcAt H) ps l ∧ SqT K H c (chV (chain l))
theorem PatAt.same {C : Addr} {H H' : Hp} {x : Addr} {l : List Pc} (s : Same H H') (h : PatAt K C H x l) : PatAt K C H' x l := by
  obtain ⟨dx, r, c, ps, h1, h2, h3, h4⟩ := h
  exact ⟨dx, r, c, ps, s _ _ h1, s _ _ h2, pcs_same s h3, same_seqT s h4⟩
theorem rc_ : ¬ (("row" : Str) = "chain") := by decide +kernel
theorem rs_ : ¬ (("row" : Str) = "scale") := by decide +kernel
theorem cs_ : ¬ (("chain" : Str) = "scale") := by decide +kernel
theorem pF_row (r c : Addr) (s : Nat) : (pF r c s).lookup ("row" : Str) = some (.ref r) := by
  unfold pF; simp [List.lookup]
theorem pF_chain (r c : Addr) (s : Nat) : (pF r c s).lookup ("chain" : Str) = some (.ref c) := by
  have e : (("chain" : Str) == "row") = false := by decide +kernel
  unfold pF; simp [List.lookup, e]
theorem pF_scale (r c : Addr) (s : Nat) : (pF r c s).lookup ("scale" : Str) = some (nI s) := by
  have e1 : (("scale" : Str) == "row") = false := by decide +kernel
  have e2 : (("scale" : Str) == "chain") = false := by decide +kernel
  unfold pF; simp [List.lookup, e1, e2]
theorem pF_no (r c : Addr) (s : Nat) {m : Str} (h1 : (m == ("row" : Str)) = false) (h2 : (m == ("chain" : Str)) = false) (h3 : (m == ("scale" : Str)) = false) : (pF r c s).lookup m = none := by
  unfold pF; simp [List.lookup, h1, h2, h3]
theorem pF_put (r c : Addr) (s : Nat) : putF "scale" (nI s) (putF "chain" (.ref c) [("row", .ref r)]) = pF r c s := by
  simp [putF, rc_, rs_, cs_, pF]
end
end K12
namespace K12
open PySem PySem.Spec PyProof.Rows L2 TL
/-! ### all but one instance stands -/
section
variable {K : PySem.W.Frag} {H H' : Hp} {x C dx : Addr} {fs : List (Str × V)}
theorem but_tup (hx : H x = some (.ins C dx fs)) {a : Addr} {xs : List V} (h : H a = some (.tup xs)) : a ≠ x := ne_of h hx (by intro z; cases z)
theorem pcs_but (hx : H x = some (.ins C dx fs)) (e : Ext x H H') : ∀ {vs : List V} {l : List Pc}, Paired (PcAt H) vs l → Paired (PcAt H') vs l
  | _, _, .nil => .nil
  | _, _, .cons ⟨a, ea, ha⟩ r => .cons ⟨a, ea, e _ _ (but_tup hx ha) ha⟩ (pcs_but hx e r)
theorem seqT_but (hx : H x = some (.ins C dx fs)) (e : Ext x H H') {a : Addr} {xs : List V} (h : SqT K H a xs) : SqT K H' a xs := by
  rcases h with (h | ⟨o, h⟩) | h
  · exact .inl (.inl (e _ _ (but_tup hx h) h))
  · exact .inl (.inr ⟨o, e _ _ (ne_of h hx (by intro z; cases z)) h⟩)
  · exact .inr h
theorem same_made {H1 H2 : Hp} {o1 o2 : HO} (h1 : H1 x = none) (h2 : H1 dx = none) (e : Ext x (upd (upd H1 dx o1) x o2) H2) : Same H1 H2 := fun b o hb => by
  refine e b o (ne_of_none hb h1) ?_
  rw [upd_ne (ne_of_none hb h1), upd_ne (ne_of_none hb h2)]
  exact hb
end
section
variable {P : Program} {w : World} {K : PySem.W.Frag} {mg : Str → Option Value} {base : Heap}
/-- what a pattern is made of: a row, or pieces -/
def Mode (R : Addr) (H : Hp) (rest : List V) (l : List Pc) : Prop :=
  (∃ (r dr t : Addr) (ps : List V), rest = [.ref r] ∧ H r = some (.ins R dr [("told", .ref t)]) ∧ H t = some (.tup ps) ∧ Paired (PcAt H) ps l) ∨ (Paired (PcAt H) rest l ∧ 1 ≤ l.length ∧ l.length ≤ 4)
theorem Mode.same {R : Addr} {H H' : Hp} {rest : List V} {l : List Pc} (s : Same H H') (h : Mode R H rest l) : Mode R H' rest l := by
  rcases h with ⟨r, dr, t, ps, e, h1, h2, h3⟩ | ⟨h1, h2, h3⟩
  · exact .inl ⟨r, dr, t, ps, e, s _ _ h1, s _ _ h2, pcs_same s h3⟩
  · exact .inr ⟨pcs_same s h1, h2, h3⟩
def spPatBody (K : PySem.W.Frag) (C R : Addr) : Sp := fun vs H Q _ => ∃ (x dx p : Addr) (rest : List V) (l : List Pc), vs = [.ref x, .ref p] ∧ H x = some (.ins C dx []) ∧ H p = some (.tup rest) ∧ RowOk l ∧ Mode R H rest l ∧
  ∀ H', Ext x H H' → PatAt K C H' x l → Q .non H'
def spPatNew (K : PySem.W.Frag) (C R : Addr) : Sp := fun vs H Q _ => ∃ (x dx : Addr) (rest : List V) (l : List Pc), vs = .ref x :: rest ∧ H x = some (.ins C dx []) ∧ rest.length ≤ sizeLine ∧ RowOk l ∧ Mode R H rest l ∧
  ∀ H', Ext x H H' → PatAt K C H' x l → Q .non H'
theorem scP0 : FnScope ["self", "pieces"] ["self", "pieces"] (defScope (inPat 0)) := ⟨rfl, rfl, rfl, by decide +kernel, rfl, by decide +kernel, by decide +kernel⟩
theorem c_patinit {C R f : Addr} (D : Mt K "__init__" "Pattern.__init__" (inPat 0) f) (T : Tx K mg) (F : PF K mg C R) (cc : Ca P w K mg base 4 "check_pieces" spCheckPieces) (ch : Ca P w K mg base 2 "chain_of" (spChainOf K)) :
    FnR P w K mg base CX0 5 f (spPatNew K C R) := by
  obtain ⟨fd, oc, od, kV, doc, pm, an, cdv, ct, osl, rfl, lk, hcd⟩ : ∃ (fd : FuncData) (oc : Value) (od : Option Addr) (kV doc pm : Value) (an : Option Addr) (cdv ct : Value) (osl : Array (Option Value)),
      fd = PySem.W.fnOf "__init__" "Pattern.__init__" (defArgs (inPat 0)) (defBody (inPat 0)) (defScope (inPat 0)) .none kV doc pm an cdv ct ∧ K.lookup f = some ⟨oc, od, .func fd, osl⟩ ∧ PySem.W.codeIn K cdv "Pattern.__init__" = true := by
    obtain ⟨fd, F⟩ := D.ex
    exact ⟨fd, F.ex⟩
  refine (StX.fn_star (N := ["self", "pieces"]) (ps := ["self"]) (pv := "pieces") (sp := spPatBody K C R) (k := 4) lk hcd scP0 StX.cxUp_none
    (StX.bind_star1 (B := fun us => bindArgs (PySem.W.fnOf "__init__" "Pattern.__init__" (defArgs (inPat 0)) (defBody (inPat 0)) (defScope (inPat 0)) .none kV doc pm an cdv ct) ⟨us, []⟩) (fun _ => rfl) (fun _ _ _ => rfl)) ?_).imp ?_
  · intro A fr s H vs Q E hr h
    obtain ⟨x, dx, p, rest, l, rfl, hx, hp, hl, hm, q⟩ := h
    refine ⟨_, PSs.nox (pss_cons (ps_if (PW.pt (pw_and (pt_cmpR op_eq (pe_callB call_len_seq (by rfl) T.len boot_len (pa_cons (pv 1) pa_nil)) pe_int (nomark _))
          (pw_and1 (pt_val (pe_callB call_isi (by rfl) T.isinstance (by decide +kernel) (pa_cons (pe_ix ix_tup (pv 1) pe_int (fun _ _ => rfl)) (pa_cons (pe_glob (v := .ref R) rfl F.mR rfl) pa_nil)))))))
        (pss_one (ps_fld (pv 0) (pe_fld (pe_ix ix_tup (pv 1) pe_int (fun _ _ => rfl)) rfl) rfl))
        (pss_cons (ps_expr (pe_ca cc hr (pa_cons (pv 1) pa_nil))) (pss_one (ps_fld (pv 0) (pe_callTy call_tupleT (by rfl) T.tuple (by decide +kernel) (pa_cons (pv 1) pa_nil)) rfl))))
      (pss_one (ps_asg (pe_ca ch hr (pa_cons (pe_fld (pv 0) rfl) pa_nil)) (pg_tup rfl (pgs_cons (pg_fld (pv 0)) (pgs_cons (pg_fld (pv 0)) pgs_nil)))))), ?_⟩
    -- self.chain, self.scale = chain_of(self.row)
    have fin : ∀ (H1 : Hp) (r : Addr) (ps : List V), Ext x H H1 → H1 x = some (.ins C dx [("row", .ref r)]) → H r = some (.tup ps) → Paired (PcAt H) ps l →
        tAsg (tCall (spChainOf K) [] E0 (tCons (tFld K (tVar 0) "row") tNil)) (gTup K 2 (gCons (gFld K (tVar 0) "chain") (gCons (gFld K (tVar 0) "scale") gNil))) { nx := fun _ H' => Q .non H', rt := Q } (L2.start ["self", "pieces"] [.ref x, .ref p]) H1 := by
      intro H1 r ps e1 hx1 hr0 hP
      have hr1 : H1 r = some (.tup ps) := e1 _ _ (but_tup hx hr0) hr0
      refine ⟨_, rfl, x, C, dx, _, .ref r, rfl, hx1, F.isC.cl, F.nRow, rfl, r, ps, l, rfl, SqT.of hr1, pcs_but hx e1 hP, hl, fun H2 c z s2 hc hz => ?_⟩
      have hx2 := s2 _ _ hx1
      refine ⟨z, _, rfl, SqT.of hz, rfl, _, _, rfl, _, rfl, x, C, dx, _, rfl, hx2, F.isC.cl, F.nChain, (by show 1 < 1000; decide), ?_⟩
      refine ⟨_, _, rfl, _, rfl, x, C, dx, _, rfl, upd_same, F.isC.cl, F.nScale, (by show 2 < 1000; decide), rfl, ?_⟩
      have e2 : Ext x H (upd (upd H2 x (.ins C dx (putF "chain" (.ref c) [("row", .ref r)]))) x (.ins C dx (putF "scale" (nI (scale l)) (putF "chain" (.ref c) [("row", .ref r)])))) := fun b o nb hb => by
        rw [upd_ne nb, upd_ne nb]
        exact s2 _ _ (e1 _ _ nb hb)
      refine q _ e2 ⟨dx, r, c, ps, ?_, e2 _ _ (but_tup hx hr0) hr0, pcs_but hx e2 hP, ?_⟩
      · rw [upd_same, pF_put]
      · refine seqT_but hx2 (fun b o nb hb => ?_) hc
        rw [upd_ne nb, upd_ne nb]
        exact hb
    rcases hm with ⟨r, dr, t, ps, rfl, hrow, ht, hP⟩ | ⟨hP, l1, l4⟩
    · have g0 : atI [V.ref r] 0 = some (.ref r) := atI_nat (j := 0) rfl
      refine ⟨_, rfl, p, _, rfl, .inr (SqT.of hp), rfl, true, rfl, ?_⟩
      refine ⟨_, rfl, p, _, 0, _, rfl, rfl, SqT.of hp, g0, _, _, _, _, true, rfl, .own R, .base (.ins hrow F.isR.cl F.isR.ha F.isR.hn F.isR.htk F.isR.hm), F.isR.me, true, rfl, ?_⟩
      refine ⟨_, rfl, p, _, 0, _, rfl, rfl, SqT.of hp, g0, r, R, dr, _, .ref t, rfl, hrow, F.isR.cl, F.nTold, rfl, _, rfl, x, C, dx, [], rfl, hx, F.isC.cl, F.nRow, by decide, ?_⟩
      exact fin _ t ps ext_upd upd_same ht hP
    · have hlen : rest.length = l.length := hP.length
      -- the second branch
      have other : ∀ D : Ends, D = { nx := tAsg (tCall (spChainOf K) [] E0 (tCons (tFld K (tVar 0) "row") tNil)) (gTup K 2 (gCons (gFld K (tVar 0) "chain") (gCons (gFld K (tVar 0) "scale") gNil))) { nx := fun _ H' => Q .non H', rt := Q }, rt := Q } →
          tSeq (tDrop (tCall spCheckPieces [] E0 (tCons (tVar 1) tNil))) (sFld K (tVar 0) (tCB (fun xs H1 Q1 => ∃ a ys, xs = [.ref a] ∧ SqT K H1 a ys ∧ Q1 (.ref a) H1) (tCons (tVar 1) tNil)) "row") D (L2.start ["self", "pieces"] [.ref x, .ref p]) H := by
        rintro D rfl
        refine ⟨_, rfl, p, rest, l, rfl, hp, hP, hl, l1, l4, fun H1 s1 => ?_⟩
        refine ⟨_, rfl, p, rest, rfl, SqT.of (s1 _ _ hp), _, rfl, x, C, dx, [], rfl, s1 _ _ hx, F.isC.cl, F.nRow, by decide, ?_⟩
        exact fin _ p rest (fun b o nb hb => by rw [upd_ne nb]; exact s1 _ _ hb) upd_same hp hP
      by_cases h1 : rest.length = 1
      · obtain ⟨v, rfl⟩ : ∃ v, rest = [v] := by
          match rest, h1 with
          | [v], _ => exact ⟨v, rfl⟩
        obtain ⟨pc, _, a, rfl, ha⟩ := paired_get (i := 0) hP rfl
        have g0 : atI [V.ref a] 0 = some (.ref a) := atI_nat (j := 0) rfl
        refine ⟨_, rfl, p, _, rfl, .inr (SqT.of hp), rfl, true, rfl, ?_⟩
        refine ⟨_, rfl, p, _, 0, _, rfl, rfl, SqT.of hp, g0, _, _, _, _, false, rfl, .own R, .base (.tup ha), F.tR, false, rfl, ?_⟩
        exact other _ rfl
      · refine ⟨_, rfl, p, _, rfl, .inr (SqT.of hp), rfl, false, congrArg V.bl (decide_eq_false fun z => h1 (by have := V.int.inj z; omega)), ?_⟩
        exact other _ rfl
  · intro vs H Q E h
    obtain ⟨x, dx, rest, l, rfl, hx, hz, hl, hm, q⟩ := h
    refine ⟨[.ref x], rest, rfl, rfl, hz, fun p hp => ?_⟩
    have s1 : Same H (upd H p (.tup rest)) := same_new hp
    exact ⟨x, dx, p, rest, l, rfl, s1 _ _ hx, upd_same, hl, hm.same s1, fun H' e hP => q H' (fun b o nb hb => e b o nb (s1 _ _ hb)) hP⟩
end
end K12
namespace K12
open PySem PySem.Spec PyProof.Rows L2 TL
/-! ### pieces as data -/
def pcD (p : Pc) : PyData := .tuple [.str (wd p.1), .int (p.2 : Int)]
theorem pcD_all {K : PySem.W.Frag} {H : Hp} : ∀ {vs : List V} {l : List Pc}, Paired (PcAt H) vs l → DpAll K H vs (l.map pcD)
  | _, _, .nil => .nil
  | _, _, .cons ⟨a, ea, ha⟩ r => by
    subst ea
    exact .cons (.tup (SqT.of ha) (.cons (.str _) (.cons (.int _) .nil))) (pcD_all r)
theorem wd_ok (r : Bool) : PyData.canLay0 (.str (wd r)) = true := by cases r <;> decide +kernel
theorem pcD_lay : ∀ l : List Pc, PyData.canLayAll0 (l.map pcD) = true ∧ PyData.depthAll (l.map pcD) ≤ 1
  | [] => ⟨rfl, by decide⟩
  | p :: l => by
    have ih := pcD_lay l
    have h1 : PyData.canLay0 (pcD p) = true := by
      show (PyData.canLay0 (.str (wd p.1)) && (true && true)) = true
      rw [wd_ok]
      rfl
    refine ⟨?_, ?_⟩
    · show (PyData.canLay0 (pcD p) && PyData.canLayAll0 (l.map pcD)) = true
      rw [h1, ih.1]
      rfl
    · show max (PyData.depth (pcD p)) (PyData.depthAll (l.map pcD)) ≤ 1
      exact Nat.max_le.mpr ⟨by show max 0 (max 0 0) + 1 ≤ 1; decide, ih.2⟩
theorem pcD_shaped (l : List Pc) : SeqAt.shaped (.list (l.map pcD)) = true := by
  have h := pcD_lay l
  unfold SeqAt.shaped
  rw [show PyData.canLay0 (.list (l.map pcD)) = true from h.1]
  exact decide_eq_true (show PyData.depthAll (l.map pcD) + 1 ≤ 64 by omega)
theorem pcD_none (l : List Pc) : ((l.map pcD).any fun z => PyData.eqv z .none) = false := by
  rw [List.any_map]
  induction l with
  | nil => rfl
  | cons p l ih =>
    rw [List.any_cons, ih]
    rfl
/-! ### the size of a row's text -/
theorem joinL_len {S : List Nat} : ∀ {ps : List (List Nat)}, (∀ p ∈ ps, p.length ≤ 7) → S.length ≤ 2 → (joinL S ps).length ≤ 9 * ps.length
  | [], _, _ => Nat.zero_le _
  | [p], h, _ => by
    have := h p List.mem_cons_self
    show p.length ≤ 9 * 1
    omega
  | p :: q :: r, h, hS => by
    have h1 := h p List.mem_cons_self
    have ih := joinL_len (ps := q :: r) (fun x hx => h x (List.mem_cons_of_mem _ hx)) hS
    show (p ++ (S ++ joinL S (q :: r))).length ≤ _
    rw [List.length_append, List.length_append, List.length_cons]
    omega
theorem rowT_len {l : List Pc} (h : RowOk l) : (rowT l).length ≤ 9 * l.length := by
  unfold rowT
  rw [len_tl, join_eq, tl_join, comma_tl]
  have z := joinL_len (S := [44, 32]) (ps := (l.map pcT).map tl) (fun p hp => ?_) (by decide)
  · rw [List.length_map, List.length_map] at z
    exact z
  · obtain ⟨t, ht, rfl⟩ := List.mem_map.mp hp
    obtain ⟨pc, hpc, rfl⟩ := List.mem_map.mp ht
    rw [← len_tl]
    exact pcT_len (h pc hpc)
section
variable {P : Program} {w : World} {K : PySem.W.Frag} {mg : Str → Option Value} {base : Heap}
/-- Pattern(Row(t)): what is asked behind the tuple -/
theorem newpat {C R : Addr} {H1 : Hp} {t : Addr} {ps : List V} {l : List Pc} {Q : VK} (ht : H1 t = some (.tup ps)) (hP : Paired (PcAt H1) ps l) (hl : RowOk l) (q : ∀ H' x, Same H1 H' → PatAt K C H' x l → Q (.ref x) H')
    (x dx : Addr) (nx : H1 x = none) (nd : H1 dx = none) (ne : dx ≠ x) :
    spRow R (.ref x :: ([.ref t] ++ [])) (upd (upd H1 dx (.own x)) x (.ins R dx [])) (fun v H2 => v = .non ∧ ∀ y dy, H2 y = none → H2 dy = none → dy ≠ y →
      spPatNew K C R (.ref y :: [.ref x]) (upd (upd H2 dy (.own y)) y (.ins C dy [])) (fun v H3 => v = .non ∧ Q (.ref y) H3) E0) E0 := by
  refine ⟨x, dx, .ref t, rfl, upd_same, rfl, fun y dy ny ndy nyd => ?_⟩
  have s1 : Same H1 (upd (upd (upd H1 dx (.own x)) x (.ins R dx [])) x (.ins R dx [("told", .ref t)])) := same_set (same_set (same_new nd) nx) nx
  have s2 := s1.trans ((same_new (o := .own y) ndy).trans (same_new (p := y) (o := .ins C dy []) (by rw [upd_ne (Ne.symm nyd)]; exact ny)))
  refine ⟨y, dy, [.ref x], l, rfl, upd_same, by show 1 ≤ sizeLine; decide, hl, .inl ⟨x, dx, t, ps, rfl, ?_, s2 _ _ ht, pcs_same s2 hP⟩, fun H' e hP' => ⟨rfl, q H' y (s1.trans (same_made ny ndy e)) hP'⟩⟩
  have nxy : x ≠ y := fun z => by
    rw [← z, upd_same] at ny
    cases ny
  have nxd : x ≠ dy := fun z => by
    rw [← z, upd_same] at ndy
    cases ndy
  rw [upd_ne nxy, upd_ne nxd, upd_same]

/-! ### pattern_of -/
theorem sc38 : FnScope ["pieces"] ["pieces"] (defScope (top 38)) := ⟨rfl, rfl, rfl, by decide +kernel, rfl, by decide +kernel, by decide +kernel⟩
def spPatOf (K : PySem.W.Frag) (C : Addr) : Sp := fun vs H Q _ => ∃ (t : Addr) (ps : List V) (l : List Pc), vs = [.ref t] ∧ H t = some (.tup ps) ∧ Paired (PcAt H) ps l ∧ RowOk l ∧ ∀ H' x, Same H H' → PatAt K C H' x l → Q (.ref x) H'
theorem c_patof {C R fC fR : Addr} (D : Df K mg "pattern_of" (top 38)) (F : PF K mg C R) (MC : Mk K C fC) (MR : Mk K R fR) (GC : FnR P w K mg base CX0 5 fC (spPatNew K C R)) (GR : CaM P w K mg base 1 fR ["self", "told"] (spRow R)) :
    Ca P w K mg base 7 "pattern_of" (spPatOf K C) := by
  obtain ⟨fd, FR, bR⟩ := GR.ex
  refine ca_mk D sc38 (fun _ _ _ _ _ _ us hl => match us, hl with | [_], _ => rfl) (fun vs H Q E h => ?_) (fun f cdv A fr s H vs Q E hr h => ?_)
  · obtain ⟨t, ps, l, rfl, _⟩ := h
    rfl
  · obtain ⟨t, ps, l, rfl, ht, hP, hl, q⟩ := h
    refine ⟨_, pss_one (ps_ret (StX.pe_makeR MC GC hr rfl F.mC pass0 (pa_cons (pe_make MR FR (hr.mono (by decide)) rfl F.mR bR .nil pass0 (pa_cons (pv 0) pa_nil)) pa_nil))), ?_⟩
    exact ⟨_, rfl, newpat ht hP hl q⟩

/-! ### pattern_in -/
theorem sc37 : FnScope ["text", "pieces", "part"] ["text"] (defScope (top 37)) := ⟨rfl, rfl, rfl, by decide +kernel, rfl, by decide +kernel, by decide +kernel⟩
def spPatIn (K : PySem.W.Frag) (C : Addr) : Sp := fun vs H Q _ => ∃ l : List Pc, vs = [.str (rowT l)] ∧ RowOk l ∧ 1 ≤ l.length ∧ l.length ≤ 8 ∧ ∀ H' x, Same H H' → PatAt K C H' x l → Q (.ref x) H'
theorem pcs_list {H H' : Hp} {d : Addr} {xs : List V} (hd : H d = some (.lst xs)) (e : Ext d H H') : ∀ {vs : List V} {l : List Pc}, Paired (PcAt H) vs l → Paired (PcAt H') vs l
  | _, _, .nil => .nil
  | _, _, .cons ⟨a, ea, ha⟩ r => .cons ⟨a, ea, e _ _ (ne_of ha hd (by intro z; cases z)) ha⟩ (pcs_list hd e r)
theorem paired_snoc {α β : Type} {F : α → β → Prop} {x : α} {y : β} (h : F x y) : ∀ {xs : List α} {ys : List β}, Paired F xs ys → Paired F (xs ++ [x]) (ys ++ [y])
  | _, _, .nil => .cons h .nil
  | _, _, .cons a r => .cons a (paired_snoc h r)
theorem c_patin {C R fC fR : Addr} (D : Df K mg "pattern_in" (top 37)) (T : Tx K mg) (F : PF K mg C R) (MC : Mk K C fC) (MR : Mk K R fR) (GC : FnR P w K mg base CX0 5 fC (spPatNew K C R)) (GR : CaM P w K mg base 1 fR ["self", "told"] (spRow R))
    (c1 : Ca P w K mg base 3 "piece_in" spPieceIn) : Ca P w K mg base 7 "pattern_in" (spPatIn K C) := by
  obtain ⟨fd, FR, bR⟩ := GR.ex
  refine ca_mk D sc37 (fun _ _ _ _ _ _ us hl => match us, hl with | [_], _ => rfl) (fun vs H Q E h => ?_) (fun f cdv A fr s H vs Q E hr h => ?_)
  · obtain ⟨l, rfl, _⟩ := h
    rfl
  · obtain ⟨l, rfl, hl, l1, l8, q⟩ := h
    have hu := hr.units
    have hr6 : A.deeper (envOfC "pattern_in" (defScope (top 37)) s.heap.objs.size f cdv) = A.deeper (envOfC "pattern_in" (defScope (top 37)) s.heap.objs.size f cdv) := rfl
    have hu65 : (A.deeper (envOfC "pattern_in" (defScope (top 37)) s.heap.objs.size f cdv)).units + 65 < cLine := by have := hr.un; omega
    refine ⟨_, pss_cons (ps_setLc (i := 1) (own := [("part", 2)]) (g := gName 2) (tt := tYes) rfl sc37.nd rfl rfl (sw_true rfl rfl rfl (by decide +kernel)) (pi_list (pe_split (pv 0) pe_str)) (blkOk_by (N := ["text", "pieces", "part"]) (sc := defScope (top 37)) (by decide +kernel))
        (fun _ _ _ _ _ => pg_name (i := 2) sc37.nd rfl (Or.inl rfl)) (fun _ _ _ _ _ => pts_nil) (fun _ _ _ _ _ => pe_ca c1 hr (pa_cons (pv 2) pa_nil)))
      (pss_cons (ps_if (PW.pt (pw_or (pt_cmpR (op_inD hu65) pe_non (pv 1) rfl) (pw_or1 (pt_cmpR op_gt (pe_callB call_len_seq (by rfl) T.len boot_len (pa_cons (pv 1) pa_nil)) (pe_kI T.joined) (nomark _))))) (pss_one (ps_ret pe_non)) pss_nil)
      (pss_one (ps_ret (StX.pe_makeR MC GC hr rfl F.mC pass0 (pa_cons (pe_make MR FR (hr.mono (by decide)) rfl F.mR bR .nil pass0 (pa_cons (pe_callTy call_tuple_of (by rfl) T.tuple (by decide +kernel) (pa_cons (pv 1) pa_nil)) pa_nil)) pa_nil))))), ?_⟩
    have hz : (rowT l).length + 2 ≤ sizeLine := by
      have := rowT_len hl
      exact Nat.le_trans (show (rowT l).length + 2 ≤ 100 by omega) (by decide)
    refine ⟨_, rfl, ⟨_, rfl⟩, _, _, rfl, rfl, by decide +kernel, hz, ?_⟩
    rw [rowT_split (fun z => by rw [z] at l1; exact absurd l1 (by decide))]
    intro b hb
    have s1 : Same H (upd H b (.lst ((l.map pcT).map V.str))) := same_new hb
    refine ⟨b, rfl, ⟨_, SqL.of upd_same⟩, fun d hd => ?_⟩
    have nbd : b ≠ d := fun z => by
      rw [← z, upd_same] at hd
      cases hd
    have hd0 : H d = none := s1.free hd
    refine lc_list (K := K) (a := b) (xs := (l.map pcT).map V.str) (fun i H' => Same (upd H b (.lst ((l.map pcT).map V.str))) H' ∧ ∃ rs, H' d = some (.lst rs) ∧ Paired (PcAt H') rs (l.take i)) ⟨same_new hd, [], upd_same, .nil⟩
      (fun i H' _ hh => ?_) ?_ ?_
    · exact SqL.of (hh.1 _ _ upd_same)
    · rintro i v H1 hi ⟨sm, rs, hrs, hP⟩
      rw [List.getElem?_map, List.getElem?_map] at hi
      obtain ⟨p, hp, rfl⟩ : ∃ p, l[i]? = some p ∧ v = .str (pcT p) := by
        cases e : l[i]? with
        | none => rw [e] at hi; cases hi
        | some p =>
          rw [e] at hi
          exact ⟨p, rfl, (Option.some.inj hi).symm⟩
      have hlen := hP.length
      rw [List.length_take] at hlen
      refine ⟨rfl, ?_⟩
      refine ⟨_, rfl, p, rfl, hl p (List.mem_of_getElem? hp), fun H2 a s2 ha => ?_⟩
      have hd2 := s2 _ _ hrs
      have e2 : Ext d H2 (upd H2 d (.lst (rs ++ [.ref a]))) := ext_upd
      refine ⟨rs, hd2, ?_, same_set (sm.trans s2) hd, _, upd_same, ?_⟩
      · exact Nat.lt_of_le_of_lt (show rs.length ≤ 8 by omega) (by decide)
      · rw [take_next hp]
        exact paired_snoc ⟨a, rfl, e2 _ _ (ne_of ha hd2 (by intro z; cases z)) ha⟩ (pcs_list hd2 e2 (pcs_same s2 hP))
    · rintro H1 ⟨sm, rs, hrs, hP⟩
      rw [List.length_map, List.length_map, List.take_length] at hP
      have hlen := hP.length
      refine ⟨_, rfl, .none, l.map pcD, .non, .lst (SqL.of hrs) (pcD_all hP), rfl, pcD_shaped l, false, congrArg V.bl (pcD_none l), ?_⟩
      refine ⟨_, rfl, d, rs, rfl, .inl (SqL.of hrs), _, _, rfl, rfl, false, congrArg V.bl (decide_eq_false (by omega)), ?_⟩
      refine ⟨_, rfl, d, rs, rfl, .inl ⟨SqL.of hrs, fun t ht => ?_⟩⟩
      have s2 : Same H1 (upd H1 t (.tup rs)) := same_new ht
      exact newpat upd_same (pcs_same s2 hP) hl fun H' x s3 hx => q H' x (((s1.trans sm).trans s2).trans s3) hx
end
end K12
namespace K12
open PySem PySem.Spec PyProof.Rows L2 TL
/-- e.f within a comprehension, the written part named -/
theorem pe_fldK {X : Cx} {e : Expr} {f : Str} {pos : PySem.Pos} {ta : TE} (K : PySem.W.Frag) (he : PE X e ta) (hK : X.K = K := by rfl) (hb : attributeBase e f X.env (eval e X.env) = eval e X.env := by rfl) : PE X (.Attribute e f pos) (tFld K ta f) := by
  subst hK
  exact pe_fld he hb
section
variable {P : Program} {w : World} {K : PySem.W.Frag} {mg : Str → Option Value} {base : Heap}
/-! ### Pattern.read -/
theorem scP1 : FnScope ["text", "found"] ["text"] (defScope (inPat 1)) := ⟨rfl, rfl, rfl, by decide +kernel, rfl, by decide +kernel, by decide +kernel⟩
theorem c_read {C f : Addr} (D : Mt K "read" "Pattern.read" (inPat 1) f) (T : Tx K mg) (c1 : Ca P w K mg base 7 "pattern_in" (spPatIn K C)) : CaM P w K mg base 8 f ["text"] (spPatIn K C) := by
  refine cam_mk D scP1 (fun _ _ _ _ _ _ us hl => match us, hl with | [_], _ => rfl) (fun vs H Q E h => ?_) (fun cdv A fr s H vs Q E hr h => ?_)
  · obtain ⟨l, rfl, _⟩ := h
    rfl
  · obtain ⟨l, rfl, hl, l1, l8, q⟩ := h
    refine ⟨_, pss_cons (ps_set (i := 1) scP1.nd rfl (.inl rfl) (pe_ifExp (pt_val (pe_callB call_isi (by rfl) T.isinstance (by decide +kernel) (pa_cons (pv 0) (pa_cons (pe_ty (n := "str") T.str (by decide +kernel)) pa_nil)))) (pe_ca c1 hr (pa_cons (pv 0) pa_nil)) pe_non))
      (pss_cons (ps_if (pt_cmpR op_isN (pv 1) pe_non (nomark _)) (pss_one ps_never) pss_nil) (pss_one (ps_ret (pv 1)))), ?_⟩
    refine ⟨_, rfl, _, _, _, _, true, rfl, .ty _, .base (.str _), kit_ty (by decide +kernel), true, rfl, ?_⟩
    refine ⟨_, rfl, l, rfl, hl, l1, l8, fun H' x sm hx => ?_⟩
    exact ⟨_, rfl, rfl, _, rfl, _, rfl, q H' x sm hx⟩

/-! ### pattern.numbers -/
theorem scP3 : FnScope ["self", "number"] ["self"] (defScope (inPat 3)) := ⟨rfl, rfl, rfl, by decide +kernel, rfl, by decide +kernel, by decide +kernel⟩
/-- a pair in lowest terms for the number n over s -/
def LowAt (s : Nat) (H : Hp) (v : V) (n : Nat) : Prop := ∃ a, v = .ref a ∧ H a = some (.tup (pr (low (n, s))))
theorem low_same {s : Nat} {H H' : Hp} (e : Same H H') : ∀ {vs : List V} {ns : List Nat}, Paired (LowAt s H) vs ns → Paired (LowAt s H') vs ns
  | _, _, .nil => .nil
  | _, _, .cons ⟨a, ea, ha⟩ r => .cons ⟨a, ea, e _ _ ha⟩ (low_same e r)
theorem low_list {s : Nat} {H H' : Hp} {d : Addr} {xs : List V} (hd : H d = some (.lst xs)) (e : Ext d H H') : ∀ {vs : List V} {ns : List Nat}, Paired (LowAt s H) vs ns → Paired (LowAt s H') vs ns
  | _, _, .nil => .nil
  | _, _, .cons ⟨a, ea, ha⟩ r => .cons ⟨a, ea, e _ _ (ne_of ha hd (by intro z; cases z)) ha⟩ (low_list hd e r)
def chN (m : Ch) : List Nat := [m.a, m.b, m.c, m.d]
theorem chV_map (m : Ch) : chV m = (chN m).map nI := rfl
def spNumbers (K : PySem.W.Frag) (C : Addr) : Sp := fun vs H Q _ => ∃ (x : Addr) (l : List Pc), vs = [.ref x] ∧ PatAt K C H x l ∧ RowOk l ∧ l.length ≤ 8 ∧
  ∀ H' p rs, Same H H' → H' p = some (.tup rs) → Paired (LowAt (scale l) H') rs (chN (chain l)) → Q (.ref p) H'
theorem chain_900 {l : List Pc} (hl : RowOk l) (h8 : l.length ≤ 8) : ∀ n ∈ chN (chain l), n < 2 ^ 900 := by
  have z := (chain_le hl).mono (n := 13 ^ 8) (Nat.pow_le_pow_right (by decide) h8)
  have e : 13 ^ 8 < 2 ^ 900 := by decide +kernel
  intro n hn
  refine Nat.lt_of_le_of_lt ?_ e
  rcases List.mem_cons.mp hn with rfl | hn
  · exact z.a
  rcases List.mem_cons.mp hn with rfl | hn
  · exact z.b
  rcases List.mem_cons.mp hn with rfl | hn
  · exact z.c
  rw [List.mem_singleton.mp hn]
  exact z.d
theorem scale_900 {l : List Pc} (hl : RowOk l) (h8 : l.length ≤ 8) : scale l < 2 ^ 900 := by
  have z : scale l ≤ 12 ^ l.length * 1 := (scale_le hl Nat.one_pos).2
  have z2 : 12 ^ l.length ≤ 12 ^ 8 := Nat.pow_le_pow_right (by decide) h8
  have e : 12 ^ 8 < 2 ^ 900 := by decide +kernel
  omega
theorem c_numbers {C R f : Addr} (D : Mt K "numbers" "Pattern.numbers" (inPat 3) f) (T : Tx K mg) (F : PF K mg C R) (c1 : Ca P w K mg base 2 "lowest" spLow) : CaM P w K mg base 3 f ["self"] (spNumbers K C) := by
  refine cam_mk D scP3 (fun _ _ _ _ _ _ us hl => match us, hl with | [_], _ => rfl) (fun vs H Q E h => ?_) (fun cdv A fr s H vs Q E hr h => ?_)
  · obtain ⟨x, l, rfl, _⟩ := h
    rfl
  · obtain ⟨x, l, rfl, ⟨dx, r, c, ps, hx, hrow, hP, hc⟩, hl, l8, q⟩ := h
    refine ⟨_, pss_one (ps_ret (pe_callTy call_tuple_of (by rfl) T.tuple (by decide +kernel) (pa_cons (pe_lc (own := [("number", 1)]) (g := gName 1) (tt := tYes) rfl scP3.nd (pi_tup (pe_fld (pv 0) (by rfl))) (blkOk_by (N := ["self", "number"]) (sc := defScope (inPat 3)) (by decide +kernel))
        (fun _ _ _ _ _ => pg_name (i := 1) scP3.nd rfl (Or.inl rfl)) (fun _ _ _ _ _ => pts_nil) (fun _ _ _ _ _ => pe_ca c1 hr (pa_cons (pv 1) (pa_cons (pe_fldK K (pv 0)) pa_nil)))) pa_nil))), ?_⟩
    refine ⟨_, rfl, x, C, dx, _, .ref c, rfl, hx, F.isC.cl, F.nChain, pF_chain _ _ _, c, rfl, ⟨_, hc⟩, fun d hd => ?_⟩
    refine lc_tup (K := K) (a := c) (xs := chV (chain l)) (fun i H' => Same H H' ∧ ∃ rs, H' d = some (.lst rs) ∧ Paired (LowAt (scale l) H') rs ((chN (chain l)).take i)) ⟨same_new hd, [], upd_same, .nil⟩ (fun i H' _ hh => same_seqT hh.1 hc) ?_ ?_
    · rintro i v H1 hi ⟨sm, rs, hrs, hR⟩
      rw [chV_map, List.getElem?_map] at hi
      obtain ⟨n, hn, rfl⟩ : ∃ n, (chN (chain l))[i]? = some n ∧ v = nI n := by
        cases e : (chN (chain l))[i]? with
        | none => rw [e] at hi; cases hi
        | some n =>
          rw [e] at hi
          exact ⟨n, rfl, (Option.some.inj hi).symm⟩
      have hlen := hR.length
      rw [List.length_take] at hlen
      have h4 : (chN (chain l)).length = 4 := rfl
      refine ⟨rfl, ?_⟩
      refine ⟨_, rfl, _, rfl, x, C, dx, _, _, rfl, sm _ _ hx, F.isC.cl, F.nScale, pF_scale _ _ _, (n, scale l), rfl, ?_, chain_900 hl l8 n (List.mem_of_getElem? hn), scale_900 hl l8, fun a ha => ?_⟩
      · have := scale_pos hl
        unfold NZ
        omega
      · have s2 : Same H1 (upd H1 a (.tup (pr (low (n, scale l))))) := same_new ha
        have hd2 := s2 _ _ hrs
        have e2 : Ext d (upd H1 a (.tup (pr (low (n, scale l))))) (upd (upd H1 a (.tup (pr (low (n, scale l))))) d (.lst (rs ++ [.ref a]))) := ext_upd
        refine ⟨rs, hd2, Nat.lt_of_le_of_lt (show rs.length ≤ 8 by omega) (by decide), same_set (sm.trans s2) hd, _, upd_same, ?_⟩
        rw [take_next hn]
        exact paired_snoc ⟨a, rfl, e2 _ _ (ne_of upd_same hd2 (by intro z; cases z)) upd_same⟩ (low_list hd2 e2 (low_same s2 hR))
    · rintro H1 ⟨sm, rs, hrs, hR⟩
      refine ⟨d, rs, rfl, .inl ⟨SqL.of hrs, fun t ht => ?_⟩⟩
      have s2 : Same H1 (upd H1 t (.tup rs)) := same_new ht
      exact q _ t rs (sm.trans s2) upd_same (low_same s2 hR)

/-! ### pattern(load) -/
theorem scP4 : FnScope ["self", "load"] ["self", "load"] (defScope (inPat 4)) := ⟨rfl, rfl, rfl, by decide +kernel, rfl, by decide +kernel, by decide +kernel⟩
def spCall (K : PySem.W.Frag) (C : Addr) : Sp := fun vs H Q _ => ∃ (x : Addr) (v : V) (l : List Pc) (y : Nat × Nat), vs = [.ref x, v] ∧ PatAt K C H x l ∧ RowOk l ∧ l.length ≤ 8 ∧ LoadV H v y ∧ LoadOk y ∧
  ∀ H' p, Same H H' → H' p = some (.tup (pr (low (app (chain l) (low y))))) → Q (.ref p) H'
theorem ok_call {C R f : Addr} {fd : FuncData} (F0 : Fun K "__call__" "Pattern.__call__" (inPat 4) f fd) (F : PF K mg C R) (c1 : Ca P w K mg base 5 "check_resistance" (spLoad .non)) (c2 : Ca P w K mg base 3 "shown" (spShown K)) (c3 : Ca P w K mg base 3 "pair_of" spPairOf) :
    FnOk P w K mg base CX0 6 f fd ["self", "load"] (spCall K C) := by
  refine F0.ok scP4 (fun vs H Q E h => ?_) (fun cdv A fr s H vs Q E hr h => ?_)
  · obtain ⟨x, v, l, y, rfl, _⟩ := h
    rfl
  · obtain ⟨x, v, l, y, rfl, ⟨dx, r, c, ps, hx, hrow, hP, hc⟩, hl, l8, hv, hy, q⟩ := h
    refine ⟨_, pss_cons (ps_expr (pe_ca c1 hr (pa_cons (pv 1) pa_nil))) (pss_one (ps_ret (pe_ca c2 hr (pa_cons (pe_fld (pv 0) rfl) (pa_cons (pe_ca c3 hr (pa_cons (pv 1) pa_nil)) pa_nil))))), ?_⟩
    refine ⟨_, rfl, v, y, rfl, hv, hy, ?_⟩
    refine ⟨_, rfl, x, C, dx, _, .ref c, rfl, hx, F.isC.cl, F.nChain, pF_chain _ _ _, _, rfl, v, y, rfl, hv, hy, fun p hp => ?_⟩
    have s1 : Same H (upd H p (.tup (pr (low y)))) := same_new hp
    have hly : Le 1000000000000 (low y) := low_le ⟨hy.2.1, hy.2.2⟩
    refine ⟨c, p, chain l, low y, rfl, same_seqT s1 hc, upd_same, hly, (chain_le hl).mono (Nat.pow_le_pow_right (by decide) l8), app_pos hl (low_pos hy.nz), fun H' z s2 hz => ?_⟩
    exact q H' z (s1.trans s2) hz

/-- __call__ by position and by the keyword -/
structure CaK (P : Program) (w : World) (K : PySem.W.Frag) (mg : Str → Option Value) (base : Heap) (k : Nat) (f : Addr) (sp : Sp) : Prop where
  ex : ∃ fd : FuncData, FnOk P w K mg base CX0 k f fd ["self", "load"] sp ∧ Binds K fd ["self", "load"] [] ∧ ∀ (s : Shared) (u v : Value), BindsTo s fd ⟨[u], [("load", v)]⟩ ((["self", "load"] : List Str).zip [u, v])
theorem c_call {C R f : Addr} (D : Mt K "__call__" "Pattern.__call__" (inPat 4) f) (F : PF K mg C R) (c1 : Ca P w K mg base 5 "check_resistance" (spLoad .non)) (c2 : Ca P w K mg base 3 "shown" (spShown K)) (c3 : Ca P w K mg base 3 "pair_of" spPairOf) :
    CaK P w K mg base 6 f (spCall K C) := by
  obtain ⟨fd, F0⟩ := D.ex
  refine ⟨fd, ok_call F0 F c1 c2 c3, F0.binds (fun _ _ _ _ _ _ us hl => match us, hl with | [_, _], _ => rfl), fun s u v => ?_⟩
  obtain ⟨oc, od, kV, doc, pm, an, cdv, ct, osl, rfl, _⟩ := F0.ex
  exact .of_eq rfl

/-! ### one + other, pattern.turned() -/
theorem scP5 : FnScope ["self", "other", "row"] ["self", "other"] (defScope (inPat 5)) := ⟨rfl, rfl, rfl, by decide +kernel, rfl, by decide +kernel, by decide +kernel⟩
def spAdd (K : PySem.W.Frag) (C : Addr) : Sp := fun vs H Q _ => ∃ (x y : Addr) (l m : List Pc), vs = [.ref x, .ref y] ∧ PatAt K C H x l ∧ PatAt K C H y m ∧ RowOk l ∧ RowOk m ∧ 1 ≤ l.length ∧ 1 ≤ m.length ∧ l.length + m.length ≤ 8 ∧
  ∀ H' p, Same H H' → PatAt K C H' p (l ++ m) → Q (.ref p) H'
theorem paired_append {α β : Type} {F : α → β → Prop} {as : List α} {bs : List β} (h : Paired F as bs) : ∀ {xs : List α} {ys : List β}, Paired F xs ys → Paired F (xs ++ as) (ys ++ bs)
  | _, _, .nil => h
  | _, _, .cons a r => .cons a (paired_append h r)
theorem c_add {C R f : Addr} (D : Mt K "__add__" "Pattern.__add__" (inPat 5) f) (T : Tx K mg) (F : PF K mg C R) (c1 : Ca P w K mg base 7 "pattern_of" (spPatOf K C)) : CaM P w K mg base 8 f ["self", "other"] (spAdd K C) := by
  refine cam_mk D scP5 (fun _ _ _ _ _ _ us hl => match us, hl with | [_, _], _ => rfl) (fun vs H Q E h => ?_) (fun cdv A fr s H vs Q E hr h => ?_)
  · obtain ⟨x, y, l, m, rfl, _⟩ := h
    rfl
  · obtain ⟨x, y, l, m, rfl, ⟨dx, r, c, ps, hx, hrow, hP, hc⟩, ⟨dy, r', c', ps', hy, hrow', hP', hc'⟩, hl, hm, l1, m1, h8, q⟩ := h
    have n1 := hP.length
    have n2 := hP'.length
    refine ⟨_, pss_cons (ps_if (pt_not (pt_val (pe_callB call_isi (by rfl) T.isinstance (by decide +kernel) (pa_cons (pv 1) (pa_cons (pe_glob (v := .ref C) rfl F.mC rfl) pa_nil))))) (pss_one ps_never) pss_nil)
      (pss_cons (ps_set (i := 2) scP5.nd rfl (.inl rfl) (pe_op op_catT (pe_fld (pv 0) rfl) (pe_fld (pv 1) rfl)))
      (pss_cons (ps_if (pt_cmpR op_gt (pe_callB call_len_seq (by rfl) T.len boot_len (pa_cons (pv 2) pa_nil)) (pe_kI T.joined) (nomark _)) (pss_one ps_never) pss_nil)
      (pss_one (ps_ret (pe_ca c1 hr (pa_cons (pv 2) pa_nil)))))), ?_⟩
    refine ⟨_, rfl, _, _, _, _, true, rfl, .own C, .base (.ins hy F.isC.cl F.isC.ha F.isC.hn F.isC.htk F.isC.hm), F.isC.me, true, rfl, ?_⟩
    refine ⟨_, rfl, x, C, dx, _, .ref r, rfl, hx, F.isC.cl, F.nRow, pF_row _ _ _, _, rfl, y, C, dy, _, .ref r', rfl, hy, F.isC.cl, F.nRow, pF_row _ _ _, ?_⟩
    refine ⟨r, r', ps, ps', rfl, rfl, SqT.of hrow, SqT.of hrow', fun z => ?_, ?_, fun z => ?_, fun _ p hp => ?_⟩
    · rw [z] at n1
      simp at n1
      omega
    · exact Nat.le_trans (show ps.length + ps'.length ≤ 8 by omega) (by decide)
    · rw [z] at n2
      simp at n2
      omega
    · have s1 : Same H (upd H p (.tup (ps ++ ps'))) := same_new hp
      refine ⟨_, rfl, p, _, rfl, .inr (SqT.of upd_same), _, _, rfl, rfl, false, congrArg V.bl (decide_eq_false ?_), ?_⟩
      · rw [List.length_append]
        omega
      · refine ⟨_, rfl, p, ps ++ ps', l ++ m, rfl, upd_same, pcs_same s1 (paired_append hP' hP), fun z hz => ?_, fun H' a s2 ha => q H' a (s1.trans s2) ha⟩
        rcases List.mem_append.mp hz with hz | hz
        · exact hl z hz
        · exact hm z hz
theorem scP6 : FnScope ["self"] ["self"] (defScope (inPat 6)) := ⟨rfl, rfl, rfl, by decide +kernel, rfl, by decide +kernel, by decide +kernel⟩
def spTurned (K : PySem.W.Frag) (C : Addr) : Sp := fun vs H Q _ => ∃ (x : Addr) (a b : Pc), vs = [.ref x] ∧ PatAt K C H x [a, b] ∧ RowOk [a, b] ∧ ∀ H' p, Same H H' → PatAt K C H' p [b, a] → Q (.ref p) H'
theorem c_turned {C R f : Addr} (D : Mt K "turned" "Pattern.turned" (inPat 6) f) (F : PF K mg C R) (c1 : Ca P w K mg base 7 "pattern_of" (spPatOf K C)) : CaM P w K mg base 8 f ["self"] (spTurned K C) := by
  refine cam_mk D scP6 (fun _ _ _ _ _ _ us hl => match us, hl with | [_], _ => rfl) (fun vs H Q E h => ?_) (fun cdv A fr s H vs Q E hr h => ?_)
  · obtain ⟨x, a, b, rfl, _⟩ := h
    rfl
  · obtain ⟨x, a, b, rfl, ⟨dx, r, c, ps, hx, hrow, hP, hc⟩, hl, q⟩ := h
    refine ⟨_, pss_one (ps_ret (pe_ca c1 hr (pa_cons (pe_back2 (pe_fld (pv 0) rfl)) pa_nil))), ?_⟩
    cases hP with
    | cons h1 hP =>
      cases hP with
      | cons h2 hP =>
        cases hP
        rename_i v1 v2
        refine ⟨_, rfl, x, C, dx, _, .ref r, rfl, hx, F.isC.cl, F.nRow, pF_row _ _ _, r, v1, v2, rfl, SqT.of hrow, fun p hp => ?_⟩
        have s1 : Same H (upd H p (.tup [v2, v1])) := same_new hp
        refine ⟨p, [v2, v1], [b, a], rfl, upd_same, .cons (h2.same s1) (.cons (h1.same s1) .nil), fun z hz => hl z ?_, fun H' y s2 hy => q H' y (s1.trans s2) hy⟩
        rcases List.mem_cons.mp hz with rfl | hz
        · exact List.mem_cons_of_mem _ List.mem_cons_self
        · rw [List.mem_singleton.mp hz]
          exact List.mem_cons_self
end
end K12
namespace K12
open PySem PySem.Spec PyProof.Rows L2 TL
/-! ### the draws -/
/-- a cup: a list of two whole numbers -/
def Cup (c : Addr) (H : Hp) : Prop := ∃ x y : Int, H c = some (.lst [.int x, .int y])
theorem Cup.same {c : Addr} {H H' : Hp} (s : Same H H') (h : Cup c H) : Cup c H' := by
  obtain ⟨x, y, e⟩ := h
  exact ⟨x, y, s _ _ e⟩
section
variable {P : Program} {w : World} {K : PySem.W.Frag} {mg : Str → Option Value} {base : Heap}
theorem int_part {y : Int} {m : Nat} (h : 1 ≤ m) : ∃ r : Nat, r < m ∧ y % (m : Int) = (r : Int) := by
  have h1 : 0 ≤ y % (m : Int) := Int.emod_nonneg _ (by omega)
  have h2 : y % (m : Int) < (m : Int) := Int.emod_lt_of_pos _ (by omega)
  exact ⟨(y % (m : Int)).toNat, by omega, by omega⟩

/-! ### _law_sip -/
theorem sc42 : FnScope ["_law_cup_here", "_law_many", "_law_part"] ["_law_cup_here", "_law_many"] (defScope (top 42)) := ⟨rfl, rfl, rfl, by decide +kernel, rfl, by decide +kernel, by decide +kernel⟩
def spSip : Sp := fun vs H Q _ => ∃ (c : Addr) (m : Nat), vs = [.ref c, nI m] ∧ Cup c H ∧ 1 ≤ m ∧ m ≤ 1000 ∧ ∀ H' (r : Nat), Ext c H H' → Cup c H' → r < m → Q (nI r) H'
theorem c_sip (D : Df K mg "_law_sip" (top 42)) (T : Tx K mg) : Ca P w K mg base 1 "_law_sip" spSip := by
  refine ca_mk D sc42 (fun _ _ _ _ _ _ us hl => match us, hl with | [_, _], _ => rfl) (fun vs H Q E h => ?_) (fun f cdv A fr s H vs Q E hr h => ?_)
  · obtain ⟨c, m, rfl, _⟩ := h
    rfl
  · obtain ⟨c, m, rfl, ⟨x, y, hc⟩, m1, m2, q⟩ := h
    refine ⟨_, pss_cons (ps_asg (pe_op op_mod (pe_callTy call_int1 (by rfl) T.int (by decide +kernel) (pa_cons (pe_op op_add (pe_op op_mul (pe_ix ix_list (pv 0) pe_int (fun _ _ => rfl)) pe_int) pe_int) pa_nil)) pe_int) (pg_sub (pv 0) pe_int set_list))
      (pss_cons (ps_if (pt_cmpR op_gt (pe_ix ix_list (pv 0) pe_int (fun _ _ => rfl)) pe_int (nomark _))
        (pss_cons (ps_asg (pe_callB call_divmod (by rfl) T.divmod (by decide +kernel) (pa_cons (pe_ix ix_list (pv 0) pe_int (fun _ _ => rfl)) (pa_cons (pv 1) pa_nil))) (pg_tup rfl (pgs_cons (pg_sub (pv 0) pe_int set_list) (pgs_cons (pg_name (i := 2) sc42.nd rfl (.inl rfl)) pgs_nil)))) (pss_one (ps_ret (pv 2)))) pss_nil)
      (pss_one (ps_ret (pe_op op_mod (pe_callTy call_int1 (by rfl) T.int (by decide +kernel) (pa_cons (pe_op op_fdiv (pe_ix ix_list (pv 0) pe_int (fun _ _ => rfl)) pe_int) pa_nil)) (pv 1))))), ?_⟩
    have g0 : ∀ u v : Int, atI [V.int u, V.int v] 0 = some (.int u) := fun u v => atI_nat (j := 0) rfl
    have g1 : ∀ u v : Int, atI [V.int u, V.int v] 1 = some (.int v) := fun u v => atI_nat (j := 1) rfl
    refine ⟨_, rfl, c, _, 0, _, rfl, rfl, SqL.of hc, g0 x y, x, 48271, rfl, rfl, .inr ⟨by decide, by decide⟩, _, 11, rfl, rfl, .inl ⟨_, rfl, _, 2147483629, rfl, rfl, (by show (0 : Int) < 2147483629; decide), ?_⟩⟩
    refine ⟨_, rfl, c, _, 0, 0, rfl, rfl, hc, rfl, ?_⟩
    -- cup[1] > 0
    refine ⟨_, rfl, c, _, 1, _, rfl, rfl, SqL.of upd_same, g1 _ y, y, 0, rfl, rfl, _, rfl, ?_⟩
    refine ite2 (fun _ => ?_) (fun _ => ?_)
    · refine ⟨_, rfl, c, _, 1, _, rfl, rfl, SqL.of upd_same, g1 _ y, _, rfl, y, m, rfl, ⟨by omega, by omega⟩, fun p hp => ?_⟩
      have npc : c ≠ p := fun z => by
        rw [← z, upd_same] at hp
        cases hp
      obtain ⟨r, hr1, er⟩ := int_part (y := y) m1
      refine ⟨p, _, rfl, SqT.of upd_same, rfl, _, _, rfl, _, rfl, c, _, 1, 1, rfl, rfl, Eq.trans (upd_ne npc) upd_same, rfl, ?_⟩
      refine ⟨_, _, rfl, rfl, _, rfl, ?_⟩
      rw [er]
      refine q _ r (fun b o nb hb => ?_) ⟨_, _, upd_same⟩ hr1
      have nbp : b ≠ p := fun z => by
        rw [← z, upd_ne nb, hb] at hp
        cases hp
      rw [upd_ne nb, upd_ne nbp, upd_ne nb]
      exact hb
    · refine ⟨_, rfl, c, _, 0, _, rfl, rfl, SqL.of upd_same, g0 _ y, _, 1021, rfl, rfl, ⟨by decide, by decide⟩, .inl ⟨_, rfl, _, rfl, _, m, rfl, rfl, by omega, ?_⟩⟩
      obtain ⟨r, hr1, er⟩ := int_part (y := (x * 48271 + 11) % 2147483629 / 1021) m1
      show Q (V.int ((x * 48271 + 11) % 2147483629 / 1021 % (m : Int))) _
      rw [er]
      exact q _ r ext_upd ⟨_, _, upd_same⟩ hr1

/-! ### _law_cup -/
theorem sc41 : FnScope ["_law_script", "_law_spot", "_law_cell", "_law_one"] ["_law_script", "_law_spot"] (defScope (top 41)) := ⟨rfl, rfl, rfl, by decide +kernel, rfl, by decide +kernel, by decide +kernel⟩
def spCup (K : PySem.W.Frag) : Sp := fun vs H Q _ => ∃ (a : Addr) (ns : List Int) (k : Nat), vs = [.ref a, nI k] ∧ SqL K H a (ns.map V.int) ∧ k ≤ 10 ∧ ∀ H' c, Same H H' → H c = none → Cup c H' → Q (.ref c) H'
theorem cut_ints (ns : List Int) (lo hi : Option Int) : ∃ ms : List Int, cutV (ns.map V.int) lo hi = ms.map V.int := by
  unfold cutV
  exact ⟨_, by rw [← List.map_drop, ← List.map_take]⟩
theorem ints_at {ns : List Int} {i : Nat} {v : V} (h : (ns.map V.int)[i]? = some v) : ∃ z, v = .int z := by
  rw [List.getElem?_map] at h
  cases e : ns[i]? with
  | none => rw [e] at h; cases h
  | some z =>
    rw [e] at h
    exact ⟨z, (Option.some.inj h).symm⟩
theorem c_cup (D : Df K mg "_law_cup" (top 41)) (T : Tx K mg) : Ca P w K mg base 1 "_law_cup" (spCup K) := by
  refine ca_mk D sc41 (fun _ _ _ _ _ _ us hl => match us, hl with | [_, _], _ => rfl) (fun vs H Q E h => ?_) (fun f cdv A fr s H vs Q E hr h => ?_)
  · obtain ⟨a, ns, k, rfl, _⟩ := h
    rfl
  · obtain ⟨a, ns, k, rfl, hS, k10, q⟩ := h
    refine ⟨_, C8.pss_cut (ps_set (i := 2) sc41.nd rfl (.inl rfl) (pe_ifExp (pt_cmpR op_lt (pv 1) (pe_callB call_len_seq (by rfl) T.len boot_len (pa_cons (pv 0) pa_nil)) (nomark _)) (pe_ix ix_list (pv 0) (pv 1) (fun _ _ => rfl)) (pe_op op_add (pe_op op_mul pe_int (pv 1)) pe_int)))
      (C8.pss_cut (ps_for PassesOwn.never rfl (pi_list (pe_ifExp (pt_cmpR op_ge (pv 1) (pe_callB call_len_seq (by rfl) T.len boot_len (pa_cons (pv 0) pa_nil)) (nomark _)) (pe_slice sl_list (pv 0) po_none (po_some pe_int)) (pe_lst pa_nil))) (pg_name (i := 3) sc41.nd rfl (.inl rfl))
        (pss_one (ps_set (i := 2) sc41.nd rfl (.inl rfl) (pe_op op_mod (pe_callTy call_int1 (by rfl) T.int (by decide +kernel) (pa_cons (pe_op op_add (pe_op op_mul (pv 2) pe_int) (pv 3)) pa_nil)) pe_int))))
      (pss_one (ps_ret (pe_lst (pa_cons (pe_op op_mod (pe_callTy call_int1 (by rfl) T.int (by decide +kernel) (pa_cons (pe_op op_add (pe_op op_add (pe_op op_mul (pv 2) pe_int) (pe_op op_mul pe_int (pv 1))) pe_int) pa_nil)) pe_int)
        (pa_cons (pe_ifExp (PW.pt (pw_or (pt_cmpR op_lt (pv 2) pe_int (nomark _)) (pw_or1 (pt_cmpR op_ge (pv 2) (pe_op op_pow pe_int pe_int) (nomark _))))) (pe_callB call_abs (by rfl) T.abs (by decide +kernel) (pa_cons (pv 2) pa_nil)) pe_int) pa_nil)))))), ?_⟩
    refine ⟨fun σ' H' => ∃ cell : Int, σ' = [some (.ref a), some (nI k), some (.int cell), none] ∧ H = H', ?_, ?_⟩
    · refine ⟨_, rfl, _, rfl, a, _, rfl, .inl hS, k, _, rfl, rfl, _, rfl, ?_⟩
      refine ite2 (fun hk => ?_) (fun _ => ?_)
      · have hk' : k < ns.length := by
          have := of_decide_eq_true hk
          rw [List.length_map] at this
          omega
        have g : atI (ns.map V.int) (k : Int) = some (.int ns[k]) := atI_nat (by rw [List.getElem?_map, List.getElem?_eq_getElem hk']; rfl)
        exact ⟨_, rfl, _, rfl, a, _, k, _, rfl, rfl, hS, g, _, rfl, rfl⟩
      · exact ⟨_, rfl, 7919, k, rfl, rfl, .inl ⟨by decide, by decide⟩, _, 104729, rfl, rfl, _, rfl, rfl⟩
    rintro σ' H' ⟨cell, rfl, rfl⟩
    refine ⟨fun σ' H' => ∃ (cell : Int) (y : Option V), σ' = [some (.ref a), some (nI k), some (.int cell), y] ∧ Same H H', ?_, ?_⟩
    · have go : ∀ (H1 : Hp) (b : Addr) (ms : List Int) (D : Ends), SqL K H1 b (ms.map V.int) → Same H H1 → D.nx = (fun σ' H' => ∃ (cell : Int) (y : Option V), σ' = [some (.ref a), some (nI k), some (.int cell), y] ∧ Same H H') →
          ∃ W : Nat → Nat → L2.St → Hp → Prop, (∃ m, W 0 m [some (.ref a), some (nI k), some (.int cell), none] H1) ∧ ∀ i m σ H, W i m σ H →
            ((Itl K b).stop i H ∧ D.nx σ H) ∨ ((Itl K b).go i H ∧ ∃ N : L2.St → Hp → Prop, (∀ σ' H', N σ' H' → ∃ m', m' < m ∧ W (i + 1) m' σ' H') ∧ ∀ x H', (Itl K b).yld i H x H' → gName 3 x σ H' fun σ2 H2 =>
              tAsg (tOp (rI (fun _ j => 0 < j) fun i j => .int (i % j)) (tCB (fun xs H Q => (∃ i, xs = [.int i] ∧ Q (.int i) H) ∨ ∃ k, xs = [.bl k] ∧ Q (.int (if k then 1 else 0)) H) (tCons (tOp (rI0 fun i j => .int (i + j)) (tOp (rI CMul fun i j => .int (i * j)) (tVar 2) (tC (.int 31))) (tVar 3)) tNil)) (tC (.int 1000000007))) (gName 2)
                { D with nx := N, ct := N, bk := D.nx } σ2 H2) := by
        intro H1 b ms D hb s1 eD
        refine for_list (K := K) (a := b) (xs := ms.map V.int) (fun i σ' H' => H' = H1 ∧ ∃ (cell : Int) (y : Option V), σ' = [some (.ref a), some (nI k), some (.int cell), y]) ⟨rfl, cell, none, rfl⟩ (fun i σ' H' _ hh => by rw [hh.1]; exact hb) ?_ ?_
        · rintro i v σ' H' hi ⟨rfl, c2, y, rfl⟩
          obtain ⟨z, rfl⟩ := ints_at hi
          refine ⟨_, rfl, c2, 31, rfl, rfl, .inr ⟨by decide, by decide⟩, _, rfl, _, z, rfl, rfl, .inl ⟨_, rfl, _, 1000000007, rfl, rfl, (by show (0 : Int) < 1000000007; decide), ?_⟩⟩
          exact ⟨rfl, _, _, rfl⟩
        · rintro σ' H' ⟨rfl, c2, y, rfl⟩
          rw [eD]
          exact ⟨c2, y, rfl, s1⟩
      refine ⟨_, rfl, _, rfl, a, _, rfl, .inl hS, k, _, rfl, rfl, _, rfl, ?_⟩
      refine ite2 (fun _ => ?_) (fun _ => ?_)
      · refine ⟨_, rfl, 2, rfl, a, _, rfl, hS, fun p hp => ?_⟩
        obtain ⟨ms, em⟩ := cut_ints ns none (some 2)
        refine ⟨p, rfl, ⟨_, SqL.of upd_same⟩, go _ p ms _ ?_ (same_new hp) rfl⟩
        rw [em]
        exact SqL.of upd_same
      · refine ⟨Nat.zero_le _, fun p hp => ?_⟩
        exact ⟨p, rfl, ⟨_, SqL.of upd_same⟩, go _ p [] _ (SqL.of upd_same) (same_new hp) rfl⟩
    · rintro σ' H1 ⟨c2, y, rfl, s1⟩
      refine ⟨_, rfl, c2, 4099, rfl, rfl, .inr ⟨by decide, by decide⟩, _, rfl, 271, k, rfl, rfl, .inl ⟨by decide, by decide⟩, _, _, rfl, rfl, _, 17, rfl, rfl, .inl ⟨_, rfl, _, 2147483629, rfl, rfl, (by show (0 : Int) < 2147483629; decide), ?_⟩⟩
      have fin : ∀ z1 z2 : Int, ([V.int z1, V.int z2] : List V).length ≤ sizeLine ∧ ∀ p, H1 p = none → Q (.ref p) (upd H1 p (.lst [V.int z1, V.int z2])) := fun z1 z2 =>
        ⟨by show 2 ≤ sizeLine; decide, fun p hp => q _ p (s1.trans (same_new hp)) (s1.free hp) ⟨z1, z2, upd_same⟩⟩
      refine ⟨_, rfl, c2, 0, rfl, rfl, _, rfl, ?_⟩
      refine ite2 (fun _ => ?_) (fun _ => ?_)
      · refine iteT ?_
        exact ⟨_, rfl, c2, rfl, fin _ _⟩
      · refine ⟨_, rfl, 10, 18, rfl, rfl, ⟨by decide, by decide, by decide⟩, c2, _, rfl, rfl, _, rfl, ?_⟩
        refine ite2 (fun _ => ?_) (fun _ => ?_)
        · exact ⟨_, rfl, c2, rfl, fin _ _⟩
        · exact fin _ _
end
end K12
namespace K12
open PySem PySem.Spec PyProof.Rows L2 TL
section
variable {P : Program} {w : World} {K : PySem.W.Frag} {mg : Str → Option Value} {base : Heap}
/-! ### _law_pick -/
theorem sc43 : FnScope ["_law_cup_here", "_law_things"] ["_law_cup_here", "_law_things"] (defScope (top 43)) := ⟨rfl, rfl, rfl, by decide +kernel, rfl, by decide +kernel, by decide +kernel⟩
def spPick : Sp := fun vs H Q _ => ∃ (c b : Addr) (xs : List V), vs = [.ref c, .ref b] ∧ Cup c H ∧ b ≠ c ∧ H b = some (.lst xs) ∧ 1 ≤ xs.length ∧ xs.length ≤ 1000 ∧ ∀ H' v, Ext c H H' → Cup c H' → v ∈ xs → Q v H'
theorem c_pick (D : Df K mg "_law_pick" (top 43)) (T : Tx K mg) (c1 : Ca P w K mg base 1 "_law_sip" spSip) : Ca P w K mg base 2 "_law_pick" spPick := by
  refine ca_mk D sc43 (fun _ _ _ _ _ _ us hl => match us, hl with | [_, _], _ => rfl) (fun vs H Q E h => ?_) (fun f cdv A fr s H vs Q E hr h => ?_)
  · obtain ⟨c, b, xs, rfl, _⟩ := h
    rfl
  · obtain ⟨c, b, xs, rfl, hc, nb, hb, x1, x2, q⟩ := h
    refine ⟨_, pss_one (ps_ret (pe_ix ix_list (pv 1) (pe_ca c1 hr (pa_cons (pv 0) (pa_cons (pe_callB call_len_seq (by rfl) T.len boot_len (pa_cons (pv 1) pa_nil)) pa_nil))) (fun _ _ => rfl))), ?_⟩
    refine ⟨_, rfl, _, rfl, _, rfl, b, xs, rfl, .inl (SqL.of hb), c, xs.length, rfl, hc, x1, x2, fun H' r e hc' hr' => ?_⟩
    refine ⟨b, xs, r, xs[r], rfl, rfl, SqL.of (e _ _ nb hb), atI_nat (List.getElem?_eq_getElem hr'), q H' _ e hc' (List.getElem_mem hr')⟩

/-! ### _law_pair, _law_below -/
theorem sc44 : FnScope ["_law_top", "_law_bottom", "_law_one", "_law_two"] ["_law_top", "_law_bottom"] (defScope (top 44)) := ⟨rfl, rfl, rfl, by decide +kernel, rfl, by decide +kernel, by decide +kernel⟩
theorem c_pair (D : Df K mg "_law_pair" (top 44)) (T : Tx K mg) : Ca P w K mg base 1 "_law_pair" spLow := by
  refine ca_mk D sc44 (fun _ _ _ _ _ _ us hl => match us, hl with | [_, _], _ => rfl) (fun vs H Q E h => ?_) (fun f cdv A fr s H vs Q E hr h => ?_)
  · obtain ⟨x, rfl, _⟩ := h
    rfl
  · obtain ⟨z, rfl, hz, b1, b2, q⟩ := h
    refine ⟨_, pss_cons (ps_par (i := 2) (j := 3) (by rfl) sc44.nd rfl rfl (by decide) rfl rfl (pa_cons (pv 0) (pa_cons (pv 1) pa_nil)) (by rfl))
      (pss_cons (ps_while PassesOwn.never (pt_cmpR op_gt (pv 3) pe_int (nomark _))
        (pss_one (ps_par (i := 2) (j := 3) (by rfl) sc44.nd rfl rfl (by decide) rfl rfl (pa_cons (pv 3) (pa_cons (pe_op op_mod (pe_callTy call_int1 (by rfl) T.int (by decide +kernel) (pa_cons (pv 2) pa_nil)) (pv 3)) pa_nil)) (by rfl))))
      (pss_one (ps_ret (pe_tup (pa_cons (pe_op op_fdivW (pv 0) (pv 2)) (pa_cons (pe_op op_fdivW (pv 1) (pv 2)) pa_nil)))))), ?_⟩
    refine ⟨_, rfl, _, rfl, _, _, rfl, ?_⟩
    refine while_by (fun σ H' => ∃ x y : Nat, σ = [some (nI z.1), some (nI z.2), some (nI x), some (nI y)] ∧ H' = H ∧ Nat.gcd x y = Nat.gcd z.1 z.2) (fun σ _ => match σ with | [_, _, _, some (.int y)] => y.toNat | _ => 0) ⟨z.1, z.2, rfl, rfl, rfl⟩ ?_ ?_
    · rintro σ H' ⟨x, y, rfl, rfl, e⟩
      refine ⟨_, rfl, _, _, rfl, rfl, _, rfl, ?_⟩
      refine ite2 (fun c => ?_) (fun c => ?_)
      · have c' : 0 < y := by have := of_decide_eq_true c; omega
        refine ⟨_, rfl, _, rfl, .inl ⟨_, rfl, _, rfl, _, _, rfl, rfl, (by omega), _, _, rfl, ?_⟩⟩
        refine ⟨⟨y, x % y, rfl, rfl, ?_⟩, ?_⟩
        · rw [← e, Nat.gcd_comm x y, Nat.gcd_rec y x, Nat.gcd_comm]
        · show ((x : Int) % (y : Int)).toNat < ((y : Nat) : Int).toNat
          rw [← Int.natCast_emod x y, Int.toNat_natCast, Int.toNat_natCast]
          exact Nat.mod_lt _ c'
      · have c' : y = 0 := by
          have : ¬ (0 : Int) < (y : Int) := fun z => c (decide_eq_true z)
          omega
        subst c'
        rw [Nat.gcd_zero_right] at e
        have g : CDivW 0 ((x : Nat) : Int) := by rw [e]; exact gcd_wide hz b1 b2
        refine ⟨_, rfl, _, rfl, _, _, rfl, rfl, g, _, rfl, _, rfl, _, _, rfl, rfl, g, (by show 2 ≤ sizeLine; decide), fun p hp => ?_⟩
        rw [e]
        exact q p hp
    · rintro σ H' Q1 Q2 hq ⟨v, e1, i, j, e2, e3, k, e4, q1⟩
      exact ⟨v, e1, i, j, e2, e3, k, e4, hq _ _ q1⟩
theorem sc45 : FnScope ["_law_one", "_law_two"] ["_law_one", "_law_two"] (defScope (top 45)) := ⟨rfl, rfl, rfl, by decide +kernel, rfl, by decide +kernel, by decide +kernel⟩
def spBelow : Sp := fun vs H Q _ => ∃ (a b : Addr) (x y : Nat × Nat), vs = [.ref a, .ref b] ∧ H a = some (.tup (pr x)) ∧ H b = some (.tup (pr y)) ∧ Le 1000000000000000000 y ∧ Le 1000000000000000000 x ∧ Q (.bl (decide (below x y))) H
theorem c_below (D : Df K mg "_law_below" (top 45)) : Ca P w K mg base 1 "_law_below" spBelow := by
  refine ca_mk D sc45 (fun _ _ _ _ _ _ us hl => match us, hl with | [_, _], _ => rfl) (fun vs H Q E h => ?_) (fun f cdv A fr s H vs Q E hr h => ?_)
  · obtain ⟨a, b, x, y, rfl, _⟩ := h
    rfl
  · obtain ⟨a, b, x, y, rfl, ha, hb, hy, hx, q⟩ := h
    refine ⟨_, pss_one (ps_ret (pe_cmpR op_lt (pe_op op_mul (pe_ix ix_tup (pv 0) pe_int (fun _ _ => rfl)) (pe_ix ix_tup (pv 1) pe_int (fun _ _ => rfl))) (pe_op op_mul (pe_ix ix_tup (pv 1) pe_int (fun _ _ => rfl)) (pe_ix ix_tup (pv 0) pe_int (fun _ _ => rfl))) (nomark _))), ?_⟩
    have g0 : ∀ z : Nat × Nat, atI (pr z) 0 = some (nI z.1) := fun z => atI_nat (j := 0) rfl
    have g1 : ∀ z : Nat × Nat, atI (pr z) 1 = some (nI z.2) := fun z => atI_nat (j := 1) rfl
    have my : CMul (x.1 : Int) (y.2 : Int) := .inr ⟨by have := hy.2; omega, by have := hy.2; omega⟩
    have mx : CMul (y.1 : Int) (x.2 : Int) := .inr ⟨by have := hx.2; omega, by have := hx.2; omega⟩
    refine ⟨_, rfl, a, _, 0, _, rfl, rfl, SqT.of ha, g0 x, _, rfl, b, _, 1, _, rfl, rfl, SqT.of hb, g1 y, _, _, rfl, rfl, my, ?_⟩
    refine ⟨_, rfl, b, _, 0, _, rfl, rfl, SqT.of hb, g0 y, _, rfl, a, _, 1, _, rfl, rfl, SqT.of ha, g1 x, _, _, rfl, rfl, mx, _, _, rfl, rfl, ?_⟩
    refine blE (c := decide (below x y)) (decide_eq_decide.mpr ?_) q
    show ((x.1 : Int) * (y.2 : Int) < (y.1 : Int) * (x.2 : Int)) ↔ x.1 * y.2 < y.1 * x.2
    rw [← Int.natCast_mul, ← Int.natCast_mul]
    exact Int.ofNat_lt

/-! ### _law_front -/
theorem sc46 : FnScope ["_law_row_here", "_law_pair_here", "_law_top", "_law_bottom", "_law_word", "_law_ohms"] ["_law_row_here", "_law_pair_here"] (defScope (top 46)) := ⟨rfl, rfl, rfl, by decide +kernel, rfl, by decide +kernel, by decide +kernel⟩
def spFront : Sp := fun vs H Q _ => ∃ (r b : Addr) (rs : List V) (l : List Pc) (x : Nat × Nat), vs = [.ref r, .ref b] ∧ H r = some (.lst rs) ∧ Paired (PcAt H) rs l ∧ RowOk l ∧ l.length ≤ 8 ∧ H b = some (.tup (pr x)) ∧ NZ x ∧ Le 1000000000000000000 x ∧
  ∀ H' p, Same H H' → H' p = some (.tup (pr (front l x))) → Q (.ref p) H'
theorem paired_reverse {α β : Type} {F : α → β → Prop} : ∀ {xs : List α} {ys : List β}, Paired F xs ys → Paired F xs.reverse ys.reverse
  | _, _, .nil => .nil
  | _, _, .cons a r => by
    rw [List.reverse_cons, List.reverse_cons]
    exact paired_snoc a (paired_reverse r)
theorem raw_big {l : List Pc} {x : Nat × Nat} (hl : RowOk l) (h8 : l.length ≤ 8) (hx : Le 1000000000000000000 x) : (raw l x).1 < 2 ^ 900 ∧ (raw l x).2 < 2 ^ 900 := by
  have z := (raw_le (m := 1000000000000000000) (by decide) hl hx).mono (n := 13 ^ 8 * 1000000000000000000) (Nat.mul_le_mul_right _ (Nat.pow_le_pow_right (by decide) h8))
  have e : 13 ^ 8 * 1000000000000000000 < 2 ^ 900 := by decide +kernel
  exact ⟨Nat.lt_of_le_of_lt z.1 e, Nat.lt_of_le_of_lt z.2 e⟩
theorem c_front (D : Df K mg "_law_front" (top 46)) (T : Tx K mg) (c1 : Ca P w K mg base 1 "_law_pair" spLow) : Ca P w K mg base 2 "_law_front" spFront := by
  refine ca_mk D sc46 (fun _ _ _ _ _ _ us hl => match us, hl with | [_, _], _ => rfl) (fun vs H Q E h => ?_) (fun f cdv A fr s H vs Q E hr h => ?_)
  · obtain ⟨r, b, rs, l, x, rfl, _⟩ := h
    rfl
  · obtain ⟨r, b, rs, l, x, rfl, hrow, hP, hl, l8, hb, hx, hm, q⟩ := h
    refine ⟨_, pss_cons (ps_asg (pv 1) (pg_tup rfl (pgs_cons (pg_name (i := 2) sc46.nd rfl (.inl rfl)) (pgs_cons (pg_name (i := 3) sc46.nd rfl (.inl rfl)) pgs_nil))))
      (pss_cons (ps_for PassesOwn.never rfl (pi_list (pe_revL (pv 0))) (pg_tup rfl (pgs_cons (pg_name (i := 4) sc46.nd rfl (.inl rfl)) (pgs_cons (pg_name (i := 5) sc46.nd rfl (.inl rfl)) pgs_nil)))
        (pss_one (ps_if (pt_cmpR op_eq (pv 4) pe_str (nomark _)) (pss_one (ps_set (i := 2) sc46.nd rfl (.inl rfl) (pe_op op_add (pv 2) (pe_op op_mul (pv 5) (pv 3)))))
          (pss_one (ps_if (pt_cmpR op_eq (pv 3) pe_int (nomark _)) (pss_one (ps_par (i := 2) (j := 3) (by rfl) sc46.nd rfl rfl (by decide) rfl rfl (pa_cons (pv 5) (pa_cons pe_int pa_nil)) (by rfl)))
            (pss_one (ps_par (i := 2) (j := 3) (by rfl) sc46.nd rfl rfl (by decide) rfl rfl (pa_cons (pe_op op_mul (pv 5) (pv 2)) (pa_cons (pe_op op_add (pe_op op_mul (pv 5) (pv 3)) (pv 2)) pa_nil)) (by rfl))))))))
      (pss_one (ps_ret (pe_ca c1 hr (pa_cons (pv 2) (pa_cons (pv 3) pa_nil)))))), ?_⟩
    refine ⟨_, rfl, b, _, rfl, SqT.of hb, rfl, _, _, rfl, _, _, rfl, rfl, ?_⟩
    refine ⟨_, rfl, r, rs, rfl, SqL.of hrow, fun d hd => ?_⟩
    have s1 : Same H (upd H d (.lst rs.reverse)) := same_new hd
    refine ⟨d, rfl, ⟨_, SqL.of upd_same⟩, for_list (K := K) (a := d) (xs := rs.reverse) (fun i σ H' => ∃ (t u : Nat) (y4 y5 : Option V), σ = [some (.ref r), some (.ref b), some (nI t), some (nI u), y4, y5] ∧ (t, u) = (l.reverse.take i).foldl step x ∧ H' = upd H d (.lst rs.reverse))
      ⟨x.1, x.2, none, none, rfl, rfl, rfl⟩ (fun i σ H' _ hh => ?_) ?_ ?_⟩
    · obtain ⟨_, _, _, _, _, _, rfl⟩ := hh
      exact SqL.of upd_same
    · rintro i v σ H' hi ⟨t, u, y4, y5, rfl, e, rfl⟩
      obtain ⟨⟨rl, o⟩, hpc, a, rfl, ha⟩ := paired_get (paired_reverse hP) hi
      have ok := hl _ (List.mem_reverse.mp (List.mem_of_getElem? hpc))
      have e2 : (l.reverse.take (i + 1)).foldl step x = step (t, u) (rl, o) := by
        rw [take_next hpc, List.foldl_append, ← e]
        rfl
      refine ⟨a, _, rfl, SqT.of (s1 _ _ ha), rfl, _, _, rfl, _, _, rfl, rfl, ?_⟩
      refine ⟨_, rfl, rfl, _, rfl, ?_⟩
      cases rl with
      | true =>
        refine iteT ?_
        refine ⟨_, rfl, _, rfl, _, rfl, _, _, rfl, rfl, mulL ok.2 (by decide), _, _, rfl, rfl, ?_⟩
        refine ⟨t + o * u, u, _, _, rfl, ?_, rfl⟩
        rw [e2]
        rfl
      | false =>
        refine iteF ?_
        refine ⟨_, rfl, rfl, _, rfl, ?_⟩
        refine ite2 (fun c => ?_) (fun c => ?_)
        · have c' : u = 0 := by have := V.int.inj (of_decide_eq_true c); omega
          refine ⟨_, rfl, _, _, rfl, o, 1, _, _, rfl, ?_, rfl⟩
          rw [e2, c']
          rfl
        · have c' : ¬ u = 0 := fun z => c (decide_eq_true (by rw [z]; rfl))
          refine ⟨_, rfl, _, rfl, _, _, rfl, rfl, mulL ok.2 (by decide), _, rfl, _, rfl, _, _, rfl, rfl, mulL ok.2 (by decide), _, rfl, _, _, rfl, rfl, _, _, rfl, ?_⟩
          refine ⟨o * t, o * u + t, _, _, rfl, ?_, rfl⟩
          rw [e2]
          simp only [step, Bool.false_eq_true, if_false, if_neg c']
    · rintro σ H' ⟨t, u, y4, y5, rfl, e, rfl⟩
      have hlen : rs.reverse.length = l.reverse.length := (paired_reverse hP).length
      rw [hlen, List.take_length] at e
      have e' : raw l x = (t, u) := e.symm
      have bb := raw_big hl l8 hm
      have hz := raw_pos hl hx
      rw [e'] at bb hz
      refine ⟨_, rfl, _, rfl, (t, u), rfl, hz, bb.1, bb.2, fun p hp => ?_⟩
      refine q _ p (s1.trans (same_new hp)) ?_
      rw [upd_same]
      unfold front
      rw [e']
end
end K12
namespace K12
open PySem PySem.Spec PyProof.Rows L2 TL
theorem pg_tupK {X : Cx} {es : List Expr} {k : Nat} {t : TGs} {pos : PySem.Pos} (K : PySem.W.Frag) (n : Nat) (hc : X.calm = true) (h : PGs X es t) (hK : X.K = K := by rfl)
    (hn : (assignEach es X.env).length = n := by rfl) (hst : (assignEach es X.env).findIdx? (·.1) = none := by rfl) : PG X (.Tuple es k pos) (gTup K n t) := by
  subst hK
  exact pg_tup hc h hn hst
theorem ext_new {c : Addr} {H H' : Hp} {p : Addr} {o : HO} (e : Ext c H H') (h : H' p = none) : Ext c H (upd H' p o) := e.trans (Same.ext (same_new h))
theorem pcs_ext {H H' : Hp} {c : Addr} (hc : Cup c H) (e : Ext c H H') {vs : List V} {l : List Pc} (h : Paired (PcAt H) vs l) : Paired (PcAt H') vs l := by
  obtain ⟨x, y, hc⟩ := hc
  exact pcs_list hc e h
section
variable {P : Program} {w : World} {K : PySem.W.Frag} {mg : Str → Option Value} {base : Heap}
/-! ### _law_row -/
theorem sc47 : FnScope ["_law_cup_here", "_law_most", "_law_found", "_law_turn"] ["_law_cup_here", "_law_most"] (defScope (top 47)) := ⟨rfl, rfl, rfl, by decide +kernel, rfl, by decide +kernel, by decide +kernel⟩
def spLRow : Sp := fun vs H Q _ => ∃ c : Addr, vs = [.ref c, nI 4] ∧ Cup c H ∧
  ∀ H' r rs l, Ext c H H' → Cup c H' → H r = none → H' r = some (.lst rs) → Paired (PcAt H') rs l → RowOk l → 1 ≤ l.length → l.length ≤ 4 → Q (.ref r) H'
theorem c_lrow (D : Df K mg "_law_row" (top 47)) (T : Tx K mg) (c1 : Ca P w K mg base 1 "_law_sip" spSip) (c2 : Ca P w K mg base 2 "_law_pick" spPick) : Ca P w K mg base 3 "_law_row" spLRow := by
  refine ca_mk D sc47 (fun _ _ _ _ _ _ us hl => match us, hl with | [_, _], _ => rfl) (fun vs H Q E h => ?_) (fun f cdv A fr s H vs Q E hr h => ?_)
  · obtain ⟨c, rfl, _⟩ := h
    rfl
  · obtain ⟨c, rfl, hc, q⟩ := h
    refine ⟨_, pss_cons (ps_set (i := 2) sc47.nd rfl (.inl rfl) (pe_lst pa_nil))
      (pss_cons (ps_for PassesOwn.never rfl (pi_range1 rfl T.range (pa_cons (pe_op op_add pe_int (pe_ca c1 hr (pa_cons (pv 0) (pa_cons (pv 1) pa_nil)))) pa_nil)) (pg_name (i := 3) sc47.nd rfl (.inl rfl))
        (pss_one (ps_expr (pe_bm PySem.F.plainAttrs_list PySem.F.slot_list_append PySem.F.type_list_append mt_append (pv 2)
          (pa_cons (pe_tup (pa_cons (pe_ca c2 hr (pa_cons (pv 0) (pa_cons (pe_lst (pa_cons pe_str (pa_cons pe_str pa_nil))) pa_nil))) (pa_cons (pe_op op_add pe_int (pe_ca c1 hr (pa_cons (pv 0) (pa_cons pe_int pa_nil)))) pa_nil))) pa_nil)))))
      (pss_one (ps_ret (pv 2)))), ?_⟩
    refine ⟨Nat.zero_le _, fun d hd => ?_⟩
    have ndc : d ≠ c := fun z => by
      obtain ⟨x, y, hc⟩ := hc
      rw [z, hc] at hd
      cases hd
    have s1 : Same H (upd H d (.lst [])) := same_new hd
    refine ⟨_, rfl, _, rfl, c, 4, rfl, hc.same s1, by decide, by decide, fun H1 r e1 hc1 hr1 => ?_⟩
    refine ⟨_, _, rfl, rfl, (1 : Int) + (r : Int), rfl, by omega, by omega, ?_⟩
    refine for_range (lo := 0) (fun i σ H' => ∃ (rs : List V) (l : List Pc) (y : Option V), σ = [some (.ref c), some (nI 4), some (.ref d), y] ∧ Ext c H H' ∧ Cup c H' ∧ H' d = some (.lst rs) ∧ Paired (PcAt H') rs l ∧ RowOk l ∧ l.length = i)
      ⟨[], [], none, rfl, (Same.ext s1).trans e1, hc1, e1 _ _ ndc upd_same, .nil, (fun _ h => nomatch h), rfl⟩ ?_ ?_
    · rintro i σ H' hi ⟨rs, l, y, rfl, e, hcu, hrs, hP, hl, hli⟩
      have hlen := hP.length
      have hi4 : i ≤ 4 := by omega
      refine ⟨_, rfl, .inl ⟨rfl, _, SqL.of hrs⟩, ?_⟩
      refine ⟨_, rfl, (by show 2 ≤ sizeLine; decide), fun b hb => ?_⟩
      have s2 : Same H' (upd H' b (.lst [.str "rail", .str "rung"])) := same_new hb
      have nbc : b ≠ c := fun z => by
        obtain ⟨x, y, hc⟩ := hcu
        rw [z, hc] at hb
        cases hb
      refine ⟨c, b, _, rfl, hcu.same s2, nbc, upd_same, by decide, by decide, fun H2 v e2 hc2 hv => ?_⟩
      obtain ⟨rl, rfl⟩ : ∃ rl, v = .str (wd rl) := by
        rcases List.mem_cons.mp hv with rfl | hv
        · exact ⟨true, rfl⟩
        · rw [List.mem_singleton.mp hv]
          exact ⟨false, rfl⟩
      refine ⟨_, rfl, c, 12, rfl, hc2, by decide, by decide, fun H3 o e3 hc3 ho => ?_⟩
      refine ⟨_, _, rfl, rfl, (by show 2 ≤ sizeLine; decide), fun t ht => ?_⟩
      have e4 : Ext c H' (upd H3 t (.tup [.str (wd rl), .int ((1 : Int) + (o : Int))])) := ext_new (((Same.ext s2).trans e2).trans e3) ht
      have hd4 := e4 _ _ ndc hrs
      have e5 : Ext d (upd H3 t (.tup [.str (wd rl), .int ((1 : Int) + (o : Int))])) (upd (upd H3 t (.tup [.str (wd rl), .int ((1 : Int) + (o : Int))])) d (.lst (rs ++ [.ref t]))) := ext_upd
      have hc4 : Cup c (upd H3 t (.tup [.str (wd rl), .int ((1 : Int) + (o : Int))])) := hc3.same (same_new ht)
      refine ⟨d, rs, _, rfl, rfl, hd4, Nat.lt_of_le_of_lt (show rs.length ≤ 8 by omega) (by decide), ?_⟩
      have ntd : t ≠ d := ne_of upd_same hd4 (by intro z; cases z)
      refine ⟨rs ++ [.ref t], l ++ [(rl, 1 + o)], _, rfl, fun b' o' nb' hb' => ?_, ?_, upd_same, ?_, fun p hp => ?_, ?_⟩
      · have nd' : b' ≠ d := fun z => by
          rw [z, hd] at hb'
          cases hb'
        rw [upd_ne nd']
        exact e4 _ _ nb' (e _ _ nb' hb')
      · obtain ⟨x, y, hc4⟩ := hc4
        exact ⟨x, y, by rw [upd_ne (Ne.symm ndc)]; exact hc4⟩
      · exact paired_snoc ⟨t, rfl, by rw [upd_ne ntd, upd_same]; rfl⟩ (pcs_list hd4 e5 (pcs_ext hcu e4 hP))
      · rcases List.mem_append.mp hp with hp | hp
        · exact hl p hp
        · rw [List.mem_singleton.mp hp]
          exact ⟨by show 1 ≤ 1 + o; omega, by show 1 + o ≤ 12; omega⟩
      · rw [List.length_append, hli]
        rfl
    · rintro σ H' ⟨rs, l, y, rfl, e, hcu, hrs, hP, hl, hli⟩
      exact ⟨_, rfl, q H' d rs l e hcu hd hrs hP hl (by omega) (by omega)⟩

/-! ### _law_words, _law_read -/
theorem sc48 : FnScope ["_law_row_here", "_law_word", "_law_ohms"] ["_law_row_here"] (defScope (top 48)) := ⟨rfl, rfl, rfl, by decide +kernel, rfl, by decide +kernel, by decide +kernel⟩
def spWords : Sp := fun vs H Q _ => ∃ (r : Addr) (rs : List V) (l : List Pc), vs = [.ref r] ∧ H r = some (.lst rs) ∧ Paired (PcAt H) rs l ∧ RowOk l ∧ l.length ≤ 8 ∧ ∀ H', Same H H' → Q (.str (rowT l)) H'
theorem words_sum : ∀ {l : List Pc}, RowOk l → ((l.map pcT).map (·.length)).sum ≤ 7 * l.length
  | [], _ => Nat.zero_le _
  | p :: l, h => by
    have h1 := pcT_len (h p List.mem_cons_self)
    have ih := words_sum (l := l) fun q hq => h q (List.mem_cons_of_mem _ hq)
    rw [List.map_cons, List.map_cons, List.sum_cons, List.length_cons]
    omega
theorem c_words (D : Df K mg "_law_words" (top 48)) (T : Tx K mg) : Ca P w K mg base 1 "_law_words" spWords := by
  refine ca_mk D sc48 (fun _ _ _ _ _ _ us hl => match us, hl with | [_], _ => rfl) (fun vs H Q E h => ?_) (fun f cdv A fr s H vs Q E hr h => ?_)
  · obtain ⟨r, rs, l, rfl, _⟩ := h
    rfl
  · obtain ⟨r, rs, l, rfl, hrs, hP, hl, l8, q⟩ := h
    have hlen := hP.length
    refine ⟨_, pss_one (ps_ret (pe_join pe_str (pe_lc (own := [("_law_word", 1), ("_law_ohms", 2)]) (g := gTup K 2 (gCons (gName 1) (gCons (gName 2) gNil))) (tt := tYes) rfl sc48.nd (pi_list (pv 0)) (blkOk_by (N := ["_law_row_here", "_law_word", "_law_ohms"]) (sc := defScope (top 48)) (by decide +kernel))
      (fun _ _ _ _ _ => pg_tupK K 2 rfl (pgs_cons (pg_name (i := 1) sc48.nd rfl (Or.inl rfl)) (pgs_cons (pg_name (i := 2) sc48.nd rfl (Or.inl rfl)) pgs_nil))) (fun _ _ _ _ _ => pts_nil)
      (fun _ _ _ _ _ => pe_op op_add_str (pe_op op_add_str (pv 1) pe_str) (pe_callTy call_str_int (by rfl) T.str (by decide +kernel) (pa_cons (pv 2) pa_nil)))))), ?_⟩
    refine ⟨⟨_, rfl⟩, _, rfl, r, rfl, ⟨_, SqL.of hrs⟩, fun d hd => ?_⟩
    refine lc_list (K := K) (a := r) (xs := rs) (fun i H' => Same H H' ∧ H' d = some (.lst (((l.take i).map pcT).map V.str))) ⟨same_new hd, upd_same⟩ (fun i H' _ hh => SqL.of (hh.1 _ _ hrs)) ?_ ?_
    · rintro i v H1 hi ⟨sm, hdd⟩
      obtain ⟨p, hp, a, rfl, ha⟩ := paired_get hP hi
      have ok := hl p (List.mem_of_getElem? hp)
      have hlp := pcT_len ok
      have e1 : (pcT p).length = 4 + 1 + (nT p.2).length := by
        rw [len_tl, pcT_tl, List.length_append, List.length_append, ← len_tl, wd_len, ← len_tl]
        rfl
      refine ⟨a, _, rfl, SqT.of (sm _ _ ha), rfl, _, _, rfl, _, _, rfl, rfl, ?_⟩
      refine ⟨rfl, ?_⟩
      refine ⟨_, rfl, _, _, rfl, rfl, ?_, _, rfl, _, rfl, ?_, _, nT p.2, rfl, rfl, ?_, _, hdd, ?_, same_set sm hd, ?_⟩
      · rw [wd_len]
        exact (by decide : 4 + 1 ≤ sizeLine)
      · have h12 := ok.2
        show ((p.2 : Int)).natAbs.log2 < 1920
        rw [Int.natAbs_natCast]
        by_cases h0 : p.2 = 0
        · rw [h0]; decide
        · exact Nat.lt_of_lt_of_le ((Nat.log2_lt h0).mpr (show p.2 < 2 ^ 4 by omega)) (by decide)
      · have h2 := nT_len ok.1 ok.2
        have e2 : (wd p.1 ++ (" " : Str)).length = 5 := by
          rw [len_tl, tl_append, List.length_append, ← len_tl, wd_len, blank_tl]
          rfl
        show (wd p.1 ++ (" " : Str)).length + (nT p.2).length ≤ sizeLine
        rw [e2]
        exact Nat.le_trans (show 5 + (nT p.2).length ≤ 7 by omega) (by decide)
      · rw [List.length_map, List.length_map, List.length_take]
        exact Nat.lt_of_le_of_lt (show min i l.length ≤ 8 by omega) (by decide)
      · rw [upd_same, take_next hp, List.map_append, List.map_append]
        rfl
    · rintro H1 ⟨sm, hdd⟩
      rw [hlen, List.take_length] at hdd
      refine ⟨_, d, l.map pcT, rfl, rfl, .inl (SqL.of hdd), ?_, q H1 sm⟩
      have h1 := words_sum hl
      rw [List.length_map]
      have e2 : ((", " : Str)).length = 2 := by decide +kernel
      rw [e2]
      omega
theorem sc51 : FnScope ["_law_row_here"] ["_law_row_here"] (defScope (top 51)) := ⟨rfl, rfl, rfl, by decide +kernel, rfl, by decide +kernel, by decide +kernel⟩
def spLRead (K : PySem.W.Frag) (C : Addr) : Sp := fun vs H Q _ => ∃ (r : Addr) (rs : List V) (l : List Pc), vs = [.ref r] ∧ H r = some (.lst rs) ∧ Paired (PcAt H) rs l ∧ RowOk l ∧ 1 ≤ l.length ∧ l.length ≤ 8 ∧ ∀ H' x, Same H H' → PatAt K C H' x l → Q (.ref x) H'
theorem c_lread {C R p g : Addr} {mc : Value} (D : Df K mg "_law_read" (top 51)) (F : PF K mg C R) (c1 : Ca P w K mg base 1 "_law_words" spWords) (rd : ClX.CRead K C mc) (st : CStat K C mc "read" p g) (G : CaM P w K mg base 8 g ["text"] (spPatIn K C)) :
    Ca P w K mg base 9 "_law_read" (spLRead K C) := by
  obtain ⟨fd, FG, bG⟩ := G.ex
  refine ca_mk D sc51 (fun _ _ _ _ _ _ us hl => match us, hl with | [_], _ => rfl) (fun vs H Q E h => ?_) (fun f cdv A fr s H vs Q E hr h => ?_)
  · obtain ⟨r, rs, l, rfl, _⟩ := h
    rfl
  · obtain ⟨r, rs, l, rfl, hrs, hP, hl, l1, l8, q⟩ := h
    refine ⟨_, pss_one (ps_ret (pe_stat (pe_glob (v := .ref C) rfl F.mC rfl) rd st FG hr bG (pa_cons (pe_ca c1 hr (pa_cons (pv 0) pa_nil)) pa_nil))), ?_⟩
    refine ⟨rfl, _, rfl, r, rs, l, rfl, hrs, hP, hl, l8, fun H1 s1 => ?_⟩
    exact ⟨l, rfl, hl, l1, l8, fun H' x s2 hx => q H' x (s1.trans s2) hx⟩
end
end K12
namespace K12
open PySem PySem.Spec PyProof.Rows L2 TL
section
variable {P : Program} {w : World} {K : PySem.W.Frag} {mg : Str → Option Value} {base : Heap}
/-- a load as the law draws it -/
def End (x : Nat × Nat) : Prop := Nat.gcd x.1 x.2 = 1 ∧ Le 1000000000000 x
theorem End.ok {x : Nat × Nat} (h : End x) : LoadOk x := by
  refine ⟨?_, h.2.1, h.2.2⟩
  rcases Nat.eq_zero_or_pos x.2 with e | e
  · exact .inr (Prod.ext (open_one h.1 e) e)
  · exact .inl e
theorem End.nz {x : Nat × Nat} (h : End x) : NZ x := pos_gcd h.1
theorem End.low {x : Nat × Nat} (h : NZ x) (hx : Le 1000000000000 x) : End (low x) := ⟨low_gcd h, low_le hx⟩

/-! ### _law_end -/
theorem sc49 : FnScope ["_law_cup_here", "_law_way", "_law_small"] ["_law_cup_here"] (defScope (top 49)) := ⟨rfl, rfl, rfl, by decide +kernel, rfl, by decide +kernel, by decide +kernel⟩
def spEnd : Sp := fun vs H Q _ => ∃ c : Addr, vs = [.ref c] ∧ Cup c H ∧ ∀ H' p x, Ext c H H' → Cup c H' → H' p = some (.tup (pr x)) → End x → Q (.ref p) H'
theorem c_end (D : Df K mg "_law_end" (top 49)) (T : Tx K mg) (c1 : Ca P w K mg base 1 "_law_sip" spSip) (c2 : Ca P w K mg base 1 "_law_pair" spLow) : Ca P w K mg base 2 "_law_end" spEnd := by
  refine ca_mk D sc49 (fun _ _ _ _ _ _ us hl => match us, hl with | [_], _ => rfl) (fun vs H Q E h => ?_) (fun f cdv A fr s H vs Q E hr h => ?_)
  · obtain ⟨c, rfl, _⟩ := h
    rfl
  · obtain ⟨c, rfl, hc, q⟩ := h
    refine ⟨_, pss_cons (ps_par (i := 1) (j := 2) (by rfl) sc49.nd rfl rfl (by decide) rfl rfl (pa_cons (pe_ca c1 hr (pa_cons (pv 0) (pa_cons pe_int pa_nil))) (pa_cons (pe_op op_add pe_int (pe_ca c1 hr (pa_cons (pv 0) (pa_cons pe_int pa_nil)))) pa_nil)) (by rfl))
      (pss_cons (ps_if (pt_cmpR op_lt (pv 1) pe_int (nomark _)) (pss_one (ps_ret (pe_ix ix_list (pe_lst (pa_cons (pe_tup (pa_cons pe_int (pa_cons pe_int pa_nil))) (pa_cons (pe_tup (pa_cons pe_int (pa_cons pe_int pa_nil))) pa_nil))) (pv 1) (fun _ _ => rfl)))) pss_nil)
      (pss_cons (ps_if (pt_cmpR op_lt (pv 1) pe_int (nomark _)) (pss_one (ps_ret (pe_ca c2 hr (pa_cons (pe_ca c1 hr (pa_cons (pv 0) (pa_cons pe_int pa_nil))) (pa_cons (pv 2) pa_nil))))) pss_nil)
      (pss_one (ps_ret (pe_ix ix_list (pe_lst (pa_cons (pe_ca c2 hr (pa_cons (pv 2) (pa_cons (pe_op op_add pe_int (pe_ca c1 hr (pa_cons (pv 0) (pa_cons pe_int pa_nil)))) pa_nil)))
        (pa_cons (pe_ca c2 hr (pa_cons (pe_op op_sub (pe_op op_pow pe_int pe_int) (pv 2)) (pa_cons (pv 2) pa_nil))) (pa_cons (pe_tup (pa_cons pe_int (pa_cons (pe_op op_add (pe_op op_pow pe_int pe_int) (pv 2)) pa_nil))) pa_nil)))) (pe_op op_sub (pv 1) pe_int) (fun _ _ => rfl)))))), ?_⟩
    refine ⟨_, rfl, c, 8, rfl, hc, by decide, by decide, fun H1 way e1 hc1 hw => ?_⟩
    refine ⟨_, rfl, c, 30, rfl, hc1, by decide, by decide, fun H2 r e2 hc2 hr2 => ?_⟩
    refine ⟨_, _, rfl, rfl, _, _, rfl, ?_⟩
    have e12 := e1.trans e2
    refine ⟨_, rfl, _, _, rfl, rfl, _, rfl, ?_⟩
    refine ite2 (fun k2 => ?_) (fun k2 => ?_)
    · have w2 : way < 2 := by have := of_decide_eq_true k2; omega
      refine ⟨(by show 2 ≤ sizeLine; decide), fun p1 h1 => ?_⟩
      refine ⟨(by show 2 ≤ sizeLine; decide), fun p2 h2 => ?_⟩
      refine ⟨(by show 2 ≤ sizeLine; decide), fun d hd => ?_⟩
      have s1 : Same H2 (upd H2 p1 (.tup [.int 0, .int 1])) := same_new h1
      have s2 := s1.trans (same_new (o := .tup [.int 1, .int 0]) h2)
      have s3 := s2.trans (same_new (o := .lst [.ref p1, .ref p2]) hd)
      have g1 : upd (upd H2 p1 (.tup [.int 0, .int 1])) p2 (.tup [.int 1, .int 0]) p1 = some (.tup [.int 0, .int 1]) := same_new h2 _ _ upd_same
      have e3 := e12.trans (Same.ext (c := c) s3)
      have hc3 := hc2.same s3
      have cases2 : way = 0 ∨ way = 1 := by omega
      rcases cases2 with rfl | rfl
      · refine ⟨_, rfl, d, _, 0, .ref p1, rfl, rfl, SqL.of upd_same, rfl, ?_⟩
        exact q _ p1 (0, 1) e3 hc3 (same_new hd _ _ g1) ⟨by decide, by decide, by decide⟩
      · refine ⟨_, rfl, d, _, 1, .ref p2, rfl, rfl, SqL.of upd_same, rfl, ?_⟩
        exact q _ p2 (1, 0) e3 hc3 (same_new hd _ _ upd_same) ⟨by decide, by decide, by decide⟩
    refine ⟨_, rfl, _, _, rfl, rfl, _, rfl, ?_⟩
    refine ite2 (fun k5 => ?_) (fun k5 => ?_)
    · refine ⟨_, rfl, c, 40, rfl, hc2, by decide, by decide, fun H3 t e3 hc3 ht => ?_⟩
      have hx : NZ (t, 1 + r) := by unfold NZ; omega
      refine ⟨_, rfl, (t, 1 + r), rfl, hx, big900 (show t ≤ 1000000000000 by omega), big900 (show 1 + r ≤ 1000000000000 by omega), fun p hp => ?_⟩
      exact q _ p _ (ext_new (e12.trans e3) hp) (hc3.same (same_new hp)) upd_same (End.low hx ⟨show t ≤ 1000000000000 by omega, show 1 + r ≤ 1000000000000 by omega⟩)
    · have w5 : 5 ≤ way := by
        have : ¬ (way : Int) < 5 := fun z => k5 (decide_eq_true z)
        omega
      refine ⟨_, rfl, _, rfl, c, 9, rfl, hc2, by decide, by decide, fun H3 t e3 hc3 ht => ?_⟩
      have hx1 : NZ (1 + r, 1 + t) := by unfold NZ; omega
      refine ⟨_, _, rfl, rfl, (1 + r, 1 + t), rfl, hx1, big900 (show 1 + r ≤ 1000000000000 by omega), big900 (show 1 + t ≤ 1000000000000 by omega), fun p1 h1 => ?_⟩
      have hx2 : NZ (1000000000000 - (1 + r), 1 + r) := by unfold NZ; omega
      refine ⟨10, 12, rfl, rfl, ⟨by decide, by decide, by decide⟩, _, rfl, _, _, rfl, rfl, _, rfl, (1000000000000 - (1 + r), 1 + r), ?_, hx2, big900 (show 1000000000000 - (1 + r) ≤ 1000000000000 by omega), big900 (show 1 + r ≤ 1000000000000 by omega), fun p2 h2 => ?_⟩
      · refine congrArg (fun z => [V.int z, V.int ((1 : Int) + (r : Int))]) ?_
        show (10 : Int) ^ 12 - (1 + (r : Int)) = ((1000000000000 - (1 + r) : Nat) : Int)
        have e10 : (10 : Int) ^ 12 = 1000000000000 := by decide
        rw [e10]
        omega
      refine ⟨10, 6, rfl, rfl, ⟨by decide, by decide, by decide⟩, _, rfl, _, _, rfl, rfl, (by show 2 ≤ sizeLine; decide), fun p3 h3 => ?_⟩
      refine ⟨(by show 3 ≤ sizeLine; decide), fun d hd => ?_⟩
      have hp1 : upd H3 p1 (.tup (pr (low (1 + r, 1 + t)))) p1 = some (.tup (pr (low (1 + r, 1 + t)))) := upd_same
      have t1 := same_new h1 (o := .tup (pr (low (1 + r, 1 + t))))
      have t2 := same_new h2 (o := .tup (pr (low (1000000000000 - (1 + r), 1 + r))))
      have hp2 : upd (upd H3 p1 (.tup (pr (low (1 + r, 1 + t))))) p2 (.tup (pr (low (1000000000000 - (1 + r), 1 + r)))) p2 = some (.tup (pr (low (1000000000000 - (1 + r), 1 + r)))) := upd_same
      have e10 : ((10 : Int) ^ (6 : Int).toNat + ((1 : Int) + (r : Int))) = ((1000000 + (1 + r) : Nat) : Int) := by
        show (10 : Int) ^ 6 + (1 + (r : Int)) = ((1000000 + (1 + r) : Nat) : Int)
        have e10 : (10 : Int) ^ 6 = 1000000 := by decide
        rw [e10]
        omega
      have t3 := same_new h3 (o := .tup [.int 1, .int ((10 : Int) ^ (6 : Int).toNat + ((1 : Int) + (r : Int)))])
      have t4 := same_new hd (o := .lst [.ref p1, .ref p2, .ref p3])
      have all := ((t1.trans t2).trans t3).trans t4
      have e4 := (e12.trans e3).trans (Same.ext (c := c) all)
      have hc4 := hc3.same all
      have cases3 : way = 5 ∨ way = 6 ∨ way = 7 := by omega
      rcases cases3 with rfl | rfl | rfl
      · refine ⟨_, rfl, _, _, rfl, rfl, d, _, 0, .ref p1, rfl, rfl, SqL.of upd_same, rfl, ?_⟩
        exact q _ p1 _ e4 hc4 (((t2.trans t3).trans t4) _ _ hp1) (End.low hx1 ⟨show 1 + r ≤ 1000000000000 by omega, show 1 + t ≤ 1000000000000 by omega⟩)
      · refine ⟨_, rfl, _, _, rfl, rfl, d, _, 1, .ref p2, rfl, rfl, SqL.of upd_same, rfl, ?_⟩
        exact q _ p2 _ e4 hc4 ((t3.trans t4) _ _ hp2) (End.low hx2 ⟨show 1000000000000 - (1 + r) ≤ 1000000000000 by omega, show 1 + r ≤ 1000000000000 by omega⟩)
      · refine ⟨_, rfl, _, _, rfl, rfl, d, _, 2, .ref p3, rfl, rfl, SqL.of upd_same, rfl, ?_⟩
        refine q _ p3 (1, 1000000 + (1 + r)) e4 hc4 (t4 _ _ ?_) ⟨Nat.gcd_one_left _, show 1 ≤ 1000000000000 by decide, show 1000000 + (1 + r) ≤ 1000000000000 by omega⟩
        rw [upd_same]
        exact congrArg (fun z => some (HO.tup [V.int 1, V.int z])) e10

/-! ### _law_told -/
theorem sc50 : FnScope ["_law_cup_here", "_law_pair_here", "_law_by"] ["_law_cup_here", "_law_pair_here"] (defScope (top 50)) := ⟨rfl, rfl, rfl, by decide +kernel, rfl, by decide +kernel, by decide +kernel⟩
def spTold : Sp := fun vs H Q _ => ∃ (c b : Addr) (x : Nat × Nat), vs = [.ref c, .ref b] ∧ Cup c H ∧ H b = some (.tup (pr x)) ∧ End x ∧ ∀ H' v y, Ext c H H' → Cup c H' → LoadV H' v y → LoadOk y → low y = x → Q v H'
theorem c_told (D : Df K mg "_law_told" (top 50)) (T : Tx K mg) (c1 : Ca P w K mg base 1 "_law_sip" spSip) : Ca P w K mg base 2 "_law_told" spTold := by
  refine ca_mk D sc50 (fun _ _ _ _ _ _ us hl => match us, hl with | [_, _], _ => rfl) (fun vs H Q E h => ?_) (fun f cdv A fr s H vs Q E hr h => ?_)
  · obtain ⟨c, b, x, rfl, _⟩ := h
    rfl
  · obtain ⟨c, b, x, rfl, hc, hb, hx, q⟩ := h
    refine ⟨_, pss_cons (ps_if (pt_cmpR op_eq (pe_ix ix_tup (pv 1) pe_int (fun _ _ => rfl)) pe_int (nomark _)) (pss_one (ps_ret (pv 1))) pss_nil)
      (pss_cons (ps_if (PW.pt (pw_and (pt_cmpR op_eq (pe_ix ix_tup (pv 1) pe_int (fun _ _ => rfl)) pe_int (nomark _)) (pw_and1 (pt_cmpR op_eq (pe_ca c1 hr (pa_cons (pv 0) (pa_cons pe_int pa_nil))) pe_int (nomark _))))) (pss_one (ps_ret (pe_ix ix_tup (pv 1) pe_int (fun _ _ => rfl)))) pss_nil)
      (pss_cons (ps_set (i := 2) sc50.nd rfl (.inl rfl) (pe_op op_add pe_int (pe_ca c1 hr (pa_cons (pv 0) (pa_cons pe_int pa_nil)))))
      (pss_one (ps_ret (pe_ifExp (PW.pt (pw_or (pt_cmpR op_gt (pe_ix ix_tup (pv 1) pe_int (fun _ _ => rfl)) (pe_op op_pow pe_int pe_int) (nomark _)) (pw_or1 (pt_cmpR op_gt (pe_ix ix_tup (pv 1) pe_int (fun _ _ => rfl)) (pe_op op_pow pe_int pe_int) (nomark _))))) (pv 1)
        (pe_tup (pa_cons (pe_op op_mul (pv 2) (pe_ix ix_tup (pv 1) pe_int (fun _ _ => rfl))) (pa_cons (pe_op op_mul (pv 2) (pe_ix ix_tup (pv 1) pe_int (fun _ _ => rfl))) pa_nil)))))))), ?_⟩
    have g0 : atI (pr x) 0 = some (nI x.1) := atI_nat (j := 0) rfl
    have g1 : atI (pr x) 1 = some (nI x.2) := atI_nat (j := 1) rfl
    have lx : low x = x := low_of hx.1
    have nbc : ∀ {H' : Hp}, Ext c H H' → H' b = some (.tup (pr x)) := fun {H'} e => by
      refine e _ _ ?_ hb
      obtain ⟨u, v, hc⟩ := hc
      exact ne_of hb hc (by intro z; cases z)
    refine ⟨_, rfl, b, _, 1, _, rfl, rfl, SqT.of hb, g1, rfl, _, rfl, ?_⟩
    refine ite2 (fun _ => ?_) (fun k0 => ?_)
    · exact ⟨_, rfl, q H _ x (Ext.refl c H) hc (.tup hb) hx.ok lx⟩
    have x20 : ¬ x.2 = 0 := fun z => k0 (decide_eq_true (by rw [z]; rfl))
    -- the number itself
    have last : ∀ H1 : Hp, Ext c H H1 → Cup c H1 → tSeq (tAsg (tOp (rI0 fun i j => .int (i + j)) (tC (.int 1)) (tCall spSip [] E0 (tCons (tVar 0) (tCons (tC (.int 3)) tNil)))) (gName 2))
        (tRet (tIf (tOr (tTest (tOp (rI0 fun i j => .bl (decide (j < i))) (tOp (rIxT K) (tVar 1) (tC (.int 0))) (tOp (rI CPow fun i j => .int (i ^ j.toNat)) (tC (.int 10)) (tC (.int 11)))))
          (tTest (tOp (rI0 fun i j => .bl (decide (j < i))) (tOp (rIxT K) (tVar 1) (tC (.int 1))) (tOp (rI CPow fun i j => .int (i ^ j.toNat)) (tC (.int 10)) (tC (.int 11)))))) (tVar 1)
          (tTup (tCons (tOp (rI CMul fun i j => .int (i * j)) (tVar 2) (tOp (rIxT K) (tVar 1) (tC (.int 0)))) (tCons (tOp (rI CMul fun i j => .int (i * j)) (tVar 2) (tOp (rIxT K) (tVar 1) (tC (.int 1)))) tNil)))))
        { nx := fun _ H' => Q .non H', rt := Q } (L2.start ["_law_cup_here", "_law_pair_here", "_law_by"] [.ref c, .ref b]) H1 := by
      intro H1 e1 hc1
      refine ⟨_, rfl, c, 3, rfl, hc1, by decide, by decide, fun H2 t e2 hc2 ht => ?_⟩
      have e12 := e1.trans e2
      have hb2 := nbc e12
      refine ⟨_, _, rfl, rfl, ?_⟩
      have p11 : (10 : Int) ^ (11 : Int).toNat = 100000000000 := by decide
      refine ⟨_, rfl, b, _, 0, _, rfl, rfl, SqT.of hb2, g0, 10, 11, rfl, rfl, ⟨by decide, by decide, by decide⟩, _, _, rfl, rfl, _, rfl, ?_⟩
      refine ite2 (fun _ => ?_) (fun k1 => ?_)
      · exact ⟨_, rfl, q H2 _ x e12 hc2 (.tup hb2) hx.ok lx⟩
      refine ⟨_, rfl, b, _, 1, _, rfl, rfl, SqT.of hb2, g1, 10, 11, rfl, rfl, ⟨by decide, by decide, by decide⟩, _, _, rfl, rfl, _, rfl, ?_⟩
      refine ite2 (fun _ => ?_) (fun k2 => ?_)
      · exact ⟨_, rfl, q H2 _ x e12 hc2 (.tup hb2) hx.ok lx⟩
      have b1 : x.1 ≤ 100000000000 := by
        have : ¬ (10 : Int) ^ (11 : Int).toNat < (x.1 : Int) := fun z => k1 (decide_eq_true z)
        rw [p11] at this
        omega
      have b2 : x.2 ≤ 100000000000 := by
        have : ¬ (10 : Int) ^ (11 : Int).toNat < (x.2 : Int) := fun z => k2 (decide_eq_true z)
        rw [p11] at this
        omega
      have m : ∀ j : Int, CMul ((1 : Int) + (t : Int)) j := fun j => .inl ⟨by omega, by omega⟩
      refine ⟨_, rfl, _, rfl, b, _, 0, _, rfl, rfl, SqT.of hb2, g0, _, _, rfl, rfl, m _, ?_⟩
      refine ⟨_, rfl, _, rfl, b, _, 1, _, rfl, rfl, SqT.of hb2, g1, _, _, rfl, rfl, m _, (by show 2 ≤ sizeLine; decide), fun p hp => ?_⟩
      have t3 : 1 + t ≤ 3 := by omega
      have c1 : (1 + t) * x.1 ≤ 3 * 100000000000 := Nat.mul_le_mul t3 b1
      have c2 : (1 + t) * x.2 ≤ 3 * 100000000000 := Nat.mul_le_mul t3 b2
      have c3 : 1 ≤ (1 + t) * x.2 := Nat.mul_pos (by omega) (by omega)
      refine q _ (.ref p) (sc (1 + t) x) (ext_new e12 hp) (hc2.same (same_new hp)) (.tup ?_) ⟨.inl c3, show (1 + t) * x.1 ≤ _ by omega, show (1 + t) * x.2 ≤ _ by omega⟩ ?_
      · rw [upd_same]
        rfl
      · rw [low_sc (by omega), lx]
    refine ⟨_, rfl, b, _, 1, _, rfl, rfl, SqT.of hb, g1, rfl, _, rfl, ?_⟩
    refine ite2 (fun k1 => ?_) (fun _ => ?_)
    · have x21 : x.2 = 1 := by have := V.int.inj (of_decide_eq_true k1); omega
      refine ⟨_, rfl, c, 2, rfl, hc, by decide, by decide, fun H1 t e1 hc1 ht => ?_⟩
      refine ⟨rfl, _, rfl, ?_⟩
      refine ite2 (fun _ => ?_) (fun _ => ?_)
      · refine ⟨_, rfl, b, _, 0, _, rfl, rfl, SqT.of (nbc e1), g0, ?_⟩
        have ex : x = (x.1, 1) := Prod.ext rfl x21
        refine q H1 _ x e1 hc1 ?_ hx.ok lx
        rw [ex]
        exact .int x.1
      · exact last H1 e1 hc1
    · exact last H (Ext.refl c H) hc

/-! ### _law_by_numbers -/
theorem sc52 : FnScope ["_law_numbers_here", "_law_pair_here", "_law_a", "_law_b", "_law_c", "_law_d", "_law_left", "_law_right_here", "_law_under", "_law_over"] ["_law_numbers_here", "_law_pair_here"] (defScope (top 52)) :=
  ⟨rfl, rfl, rfl, by decide +kernel, rfl, by decide +kernel, by decide +kernel⟩
def spByN : Sp := fun vs H Q _ => ∃ (n b a1 a2 a3 a4 : Addr) (A1 A2 A3 A4 x : Nat × Nat), vs = [.ref n, .ref b] ∧ H n = some (.tup [.ref a1, .ref a2, .ref a3, .ref a4]) ∧ H a1 = some (.tup (pr A1)) ∧ H a2 = some (.tup (pr A2)) ∧ H a3 = some (.tup (pr A3)) ∧ H a4 = some (.tup (pr A4)) ∧
  H b = some (.tup (pr x)) ∧ Le 1000000 A1 ∧ Le 1000000 A2 ∧ Le 1000000 A3 ∧ Le 1000000 A4 ∧ Le 1000000000000 x ∧ NZ (byNum A1 A2 A3 A4 x) ∧ ∀ H' p, Same H H' → H' p = some (.tup (pr (low (byNum A1 A2 A3 A4 x)))) → Q (.ref p) H'
theorem byNum_le {a b c d : Nat × Nat} {x : Nat × Nat} (ha : Le 1000000 a) (hb : Le 1000000 b) (hc : Le 1000000 c) (hd : Le 1000000 d) (hx : Le 1000000000000 x) : (byNum a b c d x).1 < 2 ^ 900 ∧ (byNum a b c d x).2 < 2 ^ 900 := by
  have one : ∀ {p q r u v y z s t : Nat}, p ≤ 1000000 → q ≤ 1000000 → r ≤ 1000000000000 → u ≤ 1000000 → v ≤ 1000000 → y ≤ 1000000000000 → s ≤ 1000000 → t ≤ 1000000 → (p * q * r + u * v * y) * s * t < 2 ^ 900 := by
    intro p q r u v y z s t h1 h2 h3 h4 h5 h6 h7 h8
    have m1 := Nat.mul_le_mul (Nat.mul_le_mul h1 h2) h3
    have m2 := Nat.mul_le_mul (Nat.mul_le_mul h4 h5) h6
    have m3 := Nat.mul_le_mul (Nat.mul_le_mul (Nat.add_le_add m1 m2) h7) h8
    exact Nat.lt_of_le_of_lt m3 (by decide +kernel)
  exact ⟨one (z := 0) ha.1 hb.2 hx.1 hb.1 ha.2 hx.2 hc.2 hd.2, one (z := 0) hc.1 hd.2 hx.1 hd.1 hc.2 hx.2 ha.2 hb.2⟩
theorem c_byn (D : Df K mg "_law_by_numbers" (top 52)) (c1 : Ca P w K mg base 1 "_law_pair" spLow) : Ca P w K mg base 2 "_law_by_numbers" spByN := by
  refine ca_mk D sc52 (fun _ _ _ _ _ _ us hl => match us, hl with | [_, _], _ => rfl) (fun vs H Q E h => ?_) (fun f cdv A fr s H vs Q E hr h => ?_)
  · obtain ⟨n, b, a1, a2, a3, a4, A1, A2, A3, A4, x, rfl, _⟩ := h
    rfl
  · obtain ⟨n, b, a1, a2, a3, a4, A1, A2, A3, A4, x, rfl, hn, h1, h2, h3, h4, hb, l1, l2, l3, l4, lx, hz, q⟩ := h
    refine ⟨_, pss_cons (ps_asg (pv 0) (pg_tup rfl (pgs_cons (pg_name (i := 2) sc52.nd rfl (.inl rfl)) (pgs_cons (pg_name (i := 3) sc52.nd rfl (.inl rfl)) (pgs_cons (pg_name (i := 4) sc52.nd rfl (.inl rfl)) (pgs_cons (pg_name (i := 5) sc52.nd rfl (.inl rfl)) pgs_nil))))))
      (pss_cons (ps_par (i := 6) (j := 7) (by rfl) sc52.nd rfl rfl (by decide) rfl rfl (pa_cons (pe_op op_mul (pe_op op_mul (pe_ix ix_tup (pv 2) pe_int (fun _ _ => rfl)) (pe_ix ix_tup (pv 3) pe_int (fun _ _ => rfl))) (pe_ix ix_tup (pv 1) pe_int (fun _ _ => rfl)))
          (pa_cons (pe_op op_mul (pe_op op_mul (pe_ix ix_tup (pv 3) pe_int (fun _ _ => rfl)) (pe_ix ix_tup (pv 2) pe_int (fun _ _ => rfl))) (pe_ix ix_tup (pv 1) pe_int (fun _ _ => rfl))) pa_nil)) (by rfl))
      (pss_cons (ps_par (i := 8) (j := 9) (by rfl) sc52.nd rfl rfl (by decide) rfl rfl (pa_cons (pe_op op_mul (pe_op op_mul (pe_ix ix_tup (pv 4) pe_int (fun _ _ => rfl)) (pe_ix ix_tup (pv 5) pe_int (fun _ _ => rfl))) (pe_ix ix_tup (pv 1) pe_int (fun _ _ => rfl)))
          (pa_cons (pe_op op_mul (pe_op op_mul (pe_ix ix_tup (pv 5) pe_int (fun _ _ => rfl)) (pe_ix ix_tup (pv 4) pe_int (fun _ _ => rfl))) (pe_ix ix_tup (pv 1) pe_int (fun _ _ => rfl))) pa_nil)) (by rfl))
      (pss_one (ps_ret (pe_ca c1 hr (pa_cons (pe_op op_mul (pe_op op_mul (pe_op op_add (pv 6) (pv 7)) (pe_ix ix_tup (pv 4) pe_int (fun _ _ => rfl))) (pe_ix ix_tup (pv 5) pe_int (fun _ _ => rfl)))
        (pa_cons (pe_op op_mul (pe_op op_mul (pe_op op_add (pv 8) (pv 9)) (pe_ix ix_tup (pv 2) pe_int (fun _ _ => rfl))) (pe_ix ix_tup (pv 3) pe_int (fun _ _ => rfl))) pa_nil))))))), ?_⟩
    have g0 : ∀ z : Nat × Nat, atI (pr z) 0 = some (nI z.1) := fun z => atI_nat (j := 0) rfl
    have g1 : ∀ z : Nat × Nat, atI (pr z) 1 = some (nI z.2) := fun z => atI_nat (j := 1) rfl
    have m6 : ∀ {z : Nat} (i : Int), z ≤ 1000000 → CMul i (z : Int) := fun i h => mulR h (by decide)
    have m12 : ∀ {z : Nat} (i : Int), z ≤ 1000000000000 → CMul i (z : Int) := fun i h => mulR h (by decide)
    refine ⟨_, rfl, n, _, rfl, SqT.of hn, rfl, _, _, rfl, _, _, rfl, _, _, rfl, _, _, rfl, rfl, ?_⟩
    refine ⟨_, rfl, a1, _, 0, _, rfl, rfl, SqT.of h1, g0 _, _, rfl, a2, _, 1, _, rfl, rfl, SqT.of h2, g1 _, _, _, rfl, rfl, m6 _ l2.2, _, rfl, b, _, 0, _, rfl, rfl, SqT.of hb, g0 _, _, _, rfl, rfl, m12 _ lx.1, ?_⟩
    refine ⟨_, rfl, a2, _, 0, _, rfl, rfl, SqT.of h2, g0 _, _, rfl, a1, _, 1, _, rfl, rfl, SqT.of h1, g1 _, _, _, rfl, rfl, m6 _ l1.2, _, rfl, b, _, 1, _, rfl, rfl, SqT.of hb, g1 _, _, _, rfl, rfl, m12 _ lx.2, _, _, rfl, ?_⟩
    refine ⟨_, rfl, a3, _, 0, _, rfl, rfl, SqT.of h3, g0 _, _, rfl, a4, _, 1, _, rfl, rfl, SqT.of h4, g1 _, _, _, rfl, rfl, m6 _ l4.2, _, rfl, b, _, 0, _, rfl, rfl, SqT.of hb, g0 _, _, _, rfl, rfl, m12 _ lx.1, ?_⟩
    refine ⟨_, rfl, a4, _, 0, _, rfl, rfl, SqT.of h4, g0 _, _, rfl, a3, _, 1, _, rfl, rfl, SqT.of h3, g1 _, _, _, rfl, rfl, m6 _ l3.2, _, rfl, b, _, 1, _, rfl, rfl, SqT.of hb, g1 _, _, _, rfl, rfl, m12 _ lx.2, _, _, rfl, ?_⟩
    refine ⟨_, rfl, _, rfl, _, _, rfl, rfl, _, rfl, a3, _, 1, _, rfl, rfl, SqT.of h3, g1 _, _, _, rfl, rfl, m6 _ l3.2, _, rfl, a4, _, 1, _, rfl, rfl, SqT.of h4, g1 _, _, _, rfl, rfl, m6 _ l4.2, ?_⟩
    refine ⟨_, rfl, _, rfl, _, _, rfl, rfl, _, rfl, a1, _, 1, _, rfl, rfl, SqT.of h1, g1 _, _, _, rfl, rfl, m6 _ l1.2, _, rfl, a2, _, 1, _, rfl, rfl, SqT.of h2, g1 _, _, _, rfl, rfl, m6 _ l2.2, ?_⟩
    have bb := byNum_le l1 l2 l3 l4 lx
    exact ⟨byNum A1 A2 A3 A4 x, rfl, hz, bb.1, bb.2, fun p hp => q _ p (same_new hp) upd_same⟩
end
end K12
namespace K12
open PySem PySem.Spec PyProof.Rows L2 TL
/-! ### pairs as data -/
def prD (z : Nat × Nat) : PyData := .tuple [.int (z.1 : Int), .int (z.2 : Int)]
theorem prD_dp {K : PySem.W.Frag} {H : Hp} {a : Addr} {z : Nat × Nat} (h : H a = some (.tup (pr z))) : Dp K H (.ref a) (prD z) :=
  .tup (SqT.of h) (.cons (.int _) (.cons (.int _) .nil))
theorem prD_dp2 {K : PySem.W.Frag} {H : Hp} {d a b : Addr} {y z : Nat × Nat} (hd : H d = some (.lst [.ref a, .ref b])) (h : H a = some (.tup (pr y))) (h2 : H b = some (.tup (pr z))) : Dp K H (.ref d) (.list [prD y, prD z]) :=
  .lst (SqL.of hd) (.cons (prD_dp h) (.cons (prD_dp h2) .nil))
theorem int_len {n : Nat} (h : n < 10 ^ 30) : (PyData.shown (.int (n : Int))).length ≤ 100 := by
  have e : PyData.shown (.int (n : Int)) = nT n := rfl
  rw [e, len_tl, nT_tl]
  have := numL_len (n := n) (k := 30) (by decide) h
  omega
theorem int_log {n : Nat} (h : n < 10 ^ 30) : ((n : Int)).natAbs.log2 < 1920 := by
  rw [Int.natAbs_natCast]
  by_cases h0 : n = 0
  · rw [h0]; decide
  · exact Nat.lt_of_lt_of_le ((Nat.log2_lt h0).mpr (Nat.lt_trans h (show 10 ^ 30 < 2 ^ 100 by decide +kernel))) (by decide)
def Big (z : Nat × Nat) : Prop := z.1 < 10 ^ 30 ∧ z.2 < 10 ^ 30
theorem prD_leaves {z : Nat × Nat} (h : Big z) : (prD z).leavesShort 100 = true := by
  unfold prD
  rw [PyData.leavesShort, PyData.leavesShortAll, PyData.leavesShortAll, PyData.leavesShortAll, PyData.leavesShort, PyData.leavesShort, decide_eq_true (int_len h.1), decide_eq_true (int_len h.2)]
  rfl
theorem prD_showable {z : Nat × Nat} (h : Big z) : (prD z).showable = true := by
  unfold prD
  rw [PyData.showable, PyData.showableAll, PyData.showableAll, PyData.showableAll, PyData.showable, PyData.showable, decide_eq_true (int_log h.1), decide_eq_true (int_log h.2)]
  rfl
theorem int_w {n : Nat} (h : n < 10 ^ 30) : (if n = 0 then 0 else n.log2 + 1) ≤ 100 := by
  split
  · decide
  · have z := (Nat.log2_lt (by assumption)).mpr (Nat.lt_trans h (show 10 ^ 30 < 2 ^ 100 by decide +kernel))
    omega
theorem prD_shown {z : Nat × Nat} (h : Big z) : (prD z).shown.length ≤ sizeLine := by
  refine Nat.le_trans (PyData.shown_le 100 (by decide) (prD z) (prD_leaves h)) ?_
  have e : (prD z).weight ≤ 1000 := by
    unfold prD
    simp [PyData.weight, PyData.weightAll]
    have h1 := int_w h.1
    have h2 := int_w h.2
    omega
  exact Nat.le_trans (Nat.add_le_add_right (Nat.mul_le_mul_left _ e) _) (by decide)
theorem prD2_shown {y z : Nat × Nat} (h : Big y) (h2 : Big z) : (PyData.list [prD y, prD z]).shown.length ≤ sizeLine := by
  have hl : (PyData.list [prD y, prD z]).leavesShort 100 = true := by
    rw [PyData.leavesShort, PyData.leavesShortAll, PyData.leavesShortAll, PyData.leavesShortAll, prD_leaves h, prD_leaves h2]
    rfl
  refine Nat.le_trans (PyData.shown_le 100 (by decide) _ hl) ?_
  have e : (PyData.list [prD y, prD z]).weight ≤ 1000 := by
    unfold prD
    simp [PyData.weight, PyData.weightAll]
    have h3 := int_w h.1
    have h4 := int_w h.2
    have h5 := int_w h2.1
    have h6 := int_w h2.2
    omega
  exact Nat.le_trans (Nat.add_le_add_right (Nat.mul_le_mul_left _ e) _) (by decide)
theorem prD2_showable {y z : Nat × Nat} (h : Big y) (h2 : Big z) : (PyData.list [prD y, prD z]).showable = true := by
  rw [PyData.showable, PyData.showableAll, PyData.showableAll, PyData.showableAll, prD_showable h, prD_showable h2]
  rfl
theorem prD_rest (y z : Nat × Nat) : (prD z).hasDict = false ∧ (prD z).depth ≤ 8 ∧ (PyData.list [prD y, prD z]).hasDict = false ∧ (PyData.list [prD y, prD z]).depth ≤ 8 := by
  unfold prD
  simp [PyData.hasDict, PyData.hasDictAll, PyData.depth, PyData.depthAll]
/-- what repr asks of a pair, of a list of two -/
theorem repr_pr {K : PySem.W.Frag} {H : Hp} {a : Addr} {z : Nat × Nat} {Q : VK} (h : H a = some (.tup (pr z))) (hz : Big z) (q : Q (.str (prD z).shown) H) :
    ∃ (b : Addr) (d : PyData), [V.ref a] = [.ref b] ∧ Dp K H (.ref b) d ∧ d.showable = true ∧ d.hasDict = false ∧ d.depth ≤ 8 ∧ d.shown.length ≤ sizeLine ∧ Q (.str d.shown) H :=
  ⟨a, prD z, rfl, prD_dp h, prD_showable hz, (prD_rest z z).1, (prD_rest z z).2.1, prD_shown hz, q⟩
theorem repr_pr2 {K : PySem.W.Frag} {H : Hp} {c a b : Addr} {y z : Nat × Nat} {Q : VK} (hc : H c = some (.lst [.ref a, .ref b])) (ha : H a = some (.tup (pr y))) (hb : H b = some (.tup (pr z))) (hy : Big y) (hz : Big z) (q : Q (.str (PyData.list [prD y, prD z]).shown) H) :
    ∃ (e : Addr) (d : PyData), [V.ref c] = [.ref e] ∧ Dp K H (.ref e) d ∧ d.showable = true ∧ d.hasDict = false ∧ d.depth ≤ 8 ∧ d.shown.length ≤ sizeLine ∧ Q (.str d.shown) H :=
  ⟨c, _, rfl, prD_dp2 hc ha hb, prD2_showable hy hz, (prD_rest y z).2.2.1, (prD_rest y z).2.2.2, prD2_shown hy hz, q⟩

/-! ### sizes -/
theorem front4 {l : List Pc} {x : Nat × Nat} (hl : RowOk l) (l4 : l.length ≤ 4) (hx : Le 1000000000000 x) : Le 100000000000000000 (front l x) := by
  have z := (front_le (by decide) hl hx).mono (n := 13 ^ 4 * 1000000000000) (Nat.mul_le_mul_right _ (Nat.pow_le_pow_right (by decide) l4))
  exact z.mono (by decide)
theorem front44 {l : List Pc} {x : Nat × Nat} (hl : RowOk l) (l4 : l.length ≤ 4) (hx : Le 100000000000000000 x) : Le 10000000000000000000000 (front l x) := by
  have z := (front_le (by decide) hl hx).mono (n := 13 ^ 4 * 100000000000000000) (Nat.mul_le_mul_right _ (Nat.pow_le_pow_right (by decide) l4))
  exact z.mono (by decide)
theorem front_nz {l : List Pc} {x : Nat × Nat} (hl : RowOk l) (hx : NZ x) : NZ (front l x) := low_pos (raw_pos hl hx)
theorem Le.big {z : Nat × Nat} (h : Le 10000000000000000000000 z) : Big z :=
  ⟨Nat.lt_of_le_of_lt h.1 (by decide +kernel), Nat.lt_of_le_of_lt h.2 (by decide +kernel)⟩
theorem chain_e6 {l : List Pc} (hl : RowOk l) (h4 : l.length ≤ 4) : ∀ n ∈ chN (chain l), Le 1000000 (low (n, scale l)) := by
  have z := (chain_le hl).mono (n := 13 ^ 4) (Nat.pow_le_pow_right (by decide) h4)
  have e : 13 ^ 4 ≤ 1000000 := by decide +kernel
  have y : scale l ≤ 12 ^ l.length * 1 := (scale_le hl Nat.one_pos).2
  have y2 : 12 ^ l.length ≤ 12 ^ 4 := Nat.pow_le_pow_right (by decide) h4
  have e2 : 12 ^ 4 ≤ 1000000 := by decide +kernel
  intro n hn
  refine low_le ⟨Nat.le_trans ?_ e, show scale l ≤ 1000000 by omega⟩
  rcases List.mem_cons.mp hn with rfl | hn
  · exact z.a
  rcases List.mem_cons.mp hn with rfl | hn
  · exact z.b
  rcases List.mem_cons.mp hn with rfl | hn
  · exact z.c
  rw [List.mem_singleton.mp hn]
  exact z.d

/-! ### what stands beside the cup -/
section
variable {K : PySem.W.Frag} {C c : Addr} {H H' : Hp}
theorem Cup.ne {b : Addr} {o : HO} (hc : Cup c H) (hb : H b = some o) (h : ∀ xs, o ≠ .lst xs) : b ≠ c := by
  obtain ⟨x, y, hc⟩ := hc
  exact ne_of hb hc (h _)
theorem PatAt.ext {x : Addr} {l : List Pc} (hc : Cup c H) (e : Ext c H H') (h : PatAt K C H x l) : PatAt K C H' x l := by
  obtain ⟨dx, r, q, ps, h1, h2, h3, h4⟩ := h
  refine ⟨dx, r, q, ps, e _ _ (hc.ne h1 (by intro xs z; cases z)) h1, e _ _ (hc.ne h2 (by intro xs z; cases z)) h2, pcs_ext hc e h3, ?_⟩
  rcases h4 with (h4 | ⟨o, h4⟩) | h4
  · exact .inl (.inl (e _ _ (hc.ne h4 (by intro xs z; cases z)) h4))
  · exact .inl (.inr ⟨o, e _ _ (hc.ne h4 (by intro xs z; cases z)) h4⟩)
  · exact .inr h4
/-- a row the law drew -/
def RowAt (c : Addr) (H : Hp) (r : Addr) (l : List Pc) : Prop := r ≠ c ∧ ∃ rs, H r = some (.lst rs) ∧ Paired (PcAt H) rs l
theorem RowAt.ext {r : Addr} {l : List Pc} (hc : Cup c H) (e : Ext c H H') (h : RowAt c H r l) : RowAt c H' r l := by
  obtain ⟨n, rs, h1, h2⟩ := h
  exact ⟨n, rs, e _ _ n h1, pcs_ext hc e h2⟩
/-- what was shown before, if any -/
def Ah (l : List Pc) (H : Hp) (v : V) : Prop := v = .non ∨ ∃ (t a b : Addr) (x : Nat × Nat), v = .ref t ∧ H t = some (.tup [.ref a, .ref b]) ∧ H a = some (.tup (pr x)) ∧ H b = some (.tup (pr (front l x))) ∧ End x
theorem Ah.ext {l : List Pc} {v : V} (hc : Cup c H) (e : Ext c H H') (h : Ah l H v) : Ah l H' v := by
  rcases h with h | ⟨t, a, b, x, h1, h2, h3, h4, h5⟩
  · exact .inl h
  · exact .inr ⟨t, a, b, x, h1, e _ _ (hc.ne h2 (by intro xs z; cases z)) h2, e _ _ (hc.ne h3 (by intro xs z; cases z)) h3, e _ _ (hc.ne h4 (by intro xs z; cases z)) h4, h5⟩
theorem tup_ext {a : Addr} {xs : List V} (hc : Cup c H) (e : Ext c H H') (h : H a = some (.tup xs)) : H' a = some (.tup xs) := e _ _ (hc.ne h (by intro ys z; cases z)) h
end
/-- the class's methods, as the calls find them -/
structure PO (K : PySem.W.Frag) (C gc ga pn gn : Addr) : Prop where
  co : StX.CallO K C gc
  sf : PySem.W.selfFirst K C = true
  ad : PySem.W.findIn K (.ref C) "__add__" = some (some (.ref ga))
  af : PySem.W.isFn K (.ref ga) = true
  nu : L2.PropOf K C "numbers" pn gn
end K12
namespace K12
open PySem PySem.Spec PyProof.Rows L2 TL
theorem Cup.fresh {c r : Addr} {H : Hp} (hc : Cup c H) (h : H r = none) : r ≠ c := fun z => by
  obtain ⟨u, v, hc⟩ := hc
  rw [z, hc] at h
  cases h
/-- all that one turn of the law keeps -/
structure Inn (K : PySem.W.Frag) (C c r b x y p d : Addr) (l m : List Pc) (z : Nat × Nat) (ah : V) (H : Hp) : Prop where
  cup : Cup c H
  row : RowAt c H r l
  back : RowAt c H b m
  mine : PatAt K C H x l
  mate : PatAt K C H y m
  ah : Ah l H ah
  pp : H p = some (.tup (pr z))
  dd : H d = some (.tup (pr (front l z)))
theorem Inn.ext {K : PySem.W.Frag} {C c r b x y p d : Addr} {l m : List Pc} {z : Nat × Nat} {ah : V} {H H' : Hp} (h : Inn K C c r b x y p d l m z ah H) (e : Ext c H H') (hc : Cup c H') : Inn K C c r b x y p d l m z ah H' :=
  ⟨hc, h.row.ext h.cup e, h.back.ext h.cup e, h.mine.ext h.cup e, h.mate.ext h.cup e, h.ah.ext h.cup e, tup_ext h.cup e h.pp, tup_ext h.cup e h.dd⟩
theorem Inn.same {K : PySem.W.Frag} {C c r b x y p d : Addr} {l m : List Pc} {z : Nat × Nat} {ah : V} {H H' : Hp} (h : Inn K C c r b x y p d l m z ah H) (s : Same H H') : Inn K C c r b x y p d l m z ah H' :=
  h.ext (Same.ext s) (h.cup.same s)
theorem PatAt.insC {X : Cx} {K : PySem.W.Frag} {C : Addr} {H : Hp} {x : Addr} {l : List Pc} (h : PatAt K C H x l) : StX.InsC X H x C := by
  obtain ⟨dx, r, q, ps, h1, _⟩ := h
  exact .inr ⟨_, _, h1⟩
theorem PatAt.ins {K : PySem.W.Frag} {C : Addr} {H : Hp} {x : Addr} {l : List Pc} (h : PatAt K C H x l) : ∃ dx fs, H x = some (.ins C dx fs) := by
  obtain ⟨dx, r, q, ps, h1, _⟩ := h
  exact ⟨_, _, h1⟩
theorem ne_self {v : V} : V.bl (!decide (v = v)) = V.bl false := by
  rw [decide_eq_true rfl]
  rfl
section
variable {P : Program} {w : World} {K : PySem.W.Frag} {mg : Str → Option Value} {base : Heap}
/-- a def that may be called by its name where no repr is under way -/
structure CaG (P : Program) (w : World) (K : PySem.W.Frag) (mg : Str → Option Value) (base : Heap) (k : Nat) (x : Str) (sp : Sp) : Prop where
  ex : ∃ f : Addr, FnG P w K mg base k f sp ∧ mg x = some (.ref f) ∧ PySem.W.keepIn K (.ref f) = true
theorem sc53 : FnScope ["_law_cup_here", "_law_turn", "_law_row_here", "_law_back", "_law_mine", "_law_mate", "_law_ahead", "_law_again", "_law_end_here", "_law_due"] ["_law_cup_here"] (defScope (top 53)) := ⟨rfl, rfl, rfl, by decide +kernel, rfl, by decide +kernel, by decide +kernel⟩
def spRight : Sp := fun vs H Q _ => ∃ c : Addr, vs = [.ref c] ∧ Cup c H ∧ ∀ H', Ext c H H' → Q (.bl true) H'
theorem c_right {C R gc ga pn gn : Addr} (D : Df K mg "_law_right" (top 53)) (T : Tx K mg) (F : PF K mg C R) (O : PO K C gc ga pn gn) (c1 : Ca P w K mg base 3 "_law_row" spLRow) (c2 : Ca P w K mg base 9 "_law_read" (spLRead K C)) (c3 : Ca P w K mg base 2 "_law_end" spEnd)
    (c4 : Ca P w K mg base 2 "_law_front" spFront) (c5 : Ca P w K mg base 2 "_law_told" spTold) (c6 : Ca P w K mg base 2 "_law_by_numbers" spByN) (c7 : Ca P w K mg base 1 "_law_below" spBelow)
    (GC : CaK P w K mg base 6 gc (spCall K C)) (GA : CaM P w K mg base 8 ga ["self", "other"] (spAdd K C)) (GN : CaM P w K mg base 3 gn ["self"] (spNumbers K C)) : CaG P w K mg base 10 "_law_right" spRight := by
  obtain ⟨f, fd, Fu, hm⟩ := D.ex
  obtain ⟨fc, FC, bC, bK⟩ := GC.ex
  obtain ⟨fa, FA, bA⟩ := GA.ex
  obtain ⟨fn, FN, bN⟩ := GN.ex
  refine ⟨f, fnG_of Fu sc53 (fun vs H Q E h => ?_) (fun _ _ _ _ _ _ us hl => match us, hl with | [_], _ => rfl) (fun cdv A fr s H vs Q hg hr h => ?_), hm, Fu.kp⟩
  · obtain ⟨c, rfl, _⟩ := h
    rfl
  · obtain ⟨c, rfl, hc, q⟩ := h
    have hu : (A.deeper (envOfC "_law_right" (defScope (top 53)) s.heap.objs.size f cdv)).units + 64 < cLine := by have := hr.un; omega
    have g2 : (A.deeper (envOfC "_law_right" (defScope (top 53)) s.heap.objs.size f cdv)).guards = some [] := hg
    refine ⟨_, pss_cons (ps_for PassesOwn.never rfl (pi_range1 rfl T.range (pa_cons pe_int pa_nil)) (pg_name (i := 1) sc53.nd rfl (.inl rfl))
      (pss_cons (ps_par (i := 2) (j := 3) (by rfl) sc53.nd rfl rfl (by decide) rfl rfl (pa_cons (pe_ca c1 hr (pa_cons (pv 0) (pa_cons pe_int pa_nil))) (pa_cons (pe_ca c1 hr (pa_cons (pv 0) (pa_cons pe_int pa_nil))) pa_nil)) (by rfl))
      (pss_cons (ps_par (i := 4) (j := 5) (by rfl) sc53.nd rfl rfl (by decide) rfl rfl (pa_cons (pe_ca c2 hr (pa_cons (pv 2) pa_nil)) (pa_cons (pe_ca c2 hr (pa_cons (pv 3) pa_nil)) pa_nil)) (by rfl))
      (pss_cons (ps_set (i := 6) sc53.nd rfl (.inl rfl) pe_non)
      (pss_one (ps_for PassesOwn.never rfl (pi_range1 rfl T.range (pa_cons pe_int pa_nil)) (pg_name (i := 7) sc53.nd rfl (.inl rfl))
        (pss_cons (ps_set (i := 8) sc53.nd rfl (.inl rfl) (pe_ca c3 hr (pa_cons (pv 0) pa_nil)))
        (pss_cons (ps_set (i := 9) sc53.nd rfl (.inl rfl) (pe_ca c4 hr (pa_cons (pv 2) (pa_cons (pv 8) pa_nil))))
        (pss_cons (ps_if (pt_cmpR op_ne (pe_callB (call_reprD g2 hu) (by rfl) T.repr (by decide +kernel) (pa_cons (pe_lst (pa_cons (StX.pe_callO (pv 4) O.co (FC.raw bC .nil) (hr.mono (by decide)) pass0 (pa_cons (pe_ca c5 hr (pa_cons (pv 0) (pa_cons (pv 8) pa_nil))) pa_nil)) (pa_cons (pe_callOK (pv 4) O.co FC (hr.mono (by decide)) bK (pv 8)) pa_nil))) pa_nil))
            (pe_callB (call_reprD g2 hu) (by rfl) T.repr (by decide +kernel) (pa_cons (pe_lst (pa_cons (pv 9) (pa_cons (pv 9) pa_nil))) pa_nil)) (nomark _)) (pss_one ps_never) pss_nil)
        (pss_cons (ps_if (pt_cmpR op_ne (pe_callB (call_reprD g2 hu) (by rfl) T.repr (by decide +kernel) (pa_cons (pe_ca c6 hr (pa_cons (L2.pe_prop (pv 4) F.isC.cl O.nu FN (hr.mono (by decide)) bN .nil pass0 (by rfl)) (pa_cons (pv 8) pa_nil))) pa_nil))
            (pe_callB (call_reprD g2 hu) (by rfl) T.repr (by decide +kernel) (pa_cons (pv 9) pa_nil)) (nomark _)) (pss_one ps_never) pss_nil)
        (pss_cons (ps_if (pt_cmpR op_ne (pe_callB (call_reprD g2 hu) (by rfl) T.repr (by decide +kernel) (pa_cons (StX.pe_callO (pe_op (op_addOwn O.sf O.ad O.af FA (hr.mono (by decide)) bA) (pv 4) (pv 5)) O.co (FC.raw bC .nil) (hr.mono (by decide)) pass0 (pa_cons (pv 8) pa_nil)) pa_nil))
            (pe_callB (call_reprD g2 hu) (by rfl) T.repr (by decide +kernel) (pa_cons (pe_ca c4 hr (pa_cons (pv 2) (pa_cons (pe_ca c4 hr (pa_cons (pv 3) (pa_cons (pv 8) pa_nil))) pa_nil))) pa_nil)) (nomark _)) (pss_one ps_never) pss_nil)
        (pss_cons (ps_if (PW.pt (pw_and (pt_cmpR op_notN (pv 6) pe_non (nomark _)) (pw_and1 (pt_cmpR op_ne (pe_ca c7 hr (pa_cons (pe_ix ix_tup (pv 6) pe_int (fun _ _ => rfl)) (pa_cons (pv 8) pa_nil))) (pe_ca c7 hr (pa_cons (pe_ix ix_tup (pv 6) pe_int (fun _ _ => rfl)) (pa_cons (pv 9) pa_nil))) (nomark _))))) (pss_one ps_never) pss_nil)
        (pss_one (ps_set (i := 6) sc53.nd rfl (.inl rfl) (pe_tup (pa_cons (pv 8) (pa_cons (pv 9) pa_nil)))))))))))))))))
      (pss_one (ps_ret pe_bl)), ?_⟩
    have ne0 : ∀ {z : V} {Q : VK} {H : Hp}, scal z z = true → Q (.bl false) H → rNe z z H Q := fun {z Q H} hs q => ⟨hs, by rw [decide_eq_true rfl]; exact q⟩
    refine ⟨4, rfl, by decide, by decide, ?_⟩
    refine for_range (lo := 0) (fun i σ H' => ∃ y1 y2 y3 y4 y5 y6 y7 y8 y9 : Option V, σ = [some (.ref c), y1, y2, y3, y4, y5, y6, y7, y8, y9] ∧ Ext c H H' ∧ Cup c H')
      ⟨none, none, none, none, none, none, none, none, none, rfl, Ext.refl c H, hc⟩ ?_ ?_
    · rintro i σ H0 hi ⟨y1, y2, y3, y4, y5, y6, y7, y8, y9, rfl, e0, hc0⟩
      -- the two rows
      refine ⟨_, rfl, c, rfl, hc0, fun H1 r rs l e1 hc1 n1 hr1 hP1 hl l1 l4 => ?_⟩
      have A1 : RowAt c H1 r l := ⟨hc0.fresh n1, rs, hr1, hP1⟩
      refine ⟨_, rfl, c, rfl, hc1, fun H2 b bs m e2 hc2 n2 hb2 hP2 hm' m1 m4 => ?_⟩
      have A2 : RowAt c H2 b m := ⟨hc1.fresh n2, bs, hb2, hP2⟩
      have A1b := A1.ext hc1 e2
      obtain ⟨nrc, rs2, hr2, hP12⟩ := A1b
      refine ⟨_, _, rfl, ?_⟩
      -- the two patterns
      refine ⟨_, rfl, r, rs2, l, rfl, hr2, hP12, hl, l1, by omega, fun H3 x s3 hx3 => ?_⟩
      refine ⟨_, rfl, b, bs, m, rfl, s3 _ _ hb2, pcs_same s3 hP2, hm', m1, by omega, fun H4 y s4 hy4 => ?_⟩
      refine ⟨_, _, rfl, ?_⟩
      have s34 := s3.trans s4
      have e34 : Ext c H2 H4 := Same.ext s34
      have A1c : RowAt c H4 r l := RowAt.ext hc2 e34 ⟨nrc, rs2, hr2, hP12⟩
      have A2c : RowAt c H4 b m := RowAt.ext hc2 e34 A2
      have hc4 : Cup c H4 := hc2.same s34
      have hx4 := hx3.same s4
      have e4 : Ext c H H4 := ((e0.trans e1).trans e2).trans e34
      refine ⟨6, rfl, by decide, by decide, ?_⟩
      refine for_range (lo := 0) (fun j σ H' => ∃ (ah : V) (y7 y8 y9 : Option V), σ = [some (.ref c), some (.int ((0 : Int) + (i : Nat))), some (.ref r), some (.ref b), some (.ref x), some (.ref y), some ah, y7, y8, y9] ∧ Ext c H H' ∧ Cup c H' ∧ RowAt c H' r l ∧ RowAt c H' b m ∧ PatAt K C H' x l ∧ PatAt K C H' y m ∧ Ah l H' ah)
        ⟨.non, y7, y8, y9, rfl, e4, hc4, A1c, A2c, hx4, hy4, .inl rfl⟩ ?_ ?_
      · rintro j σ H5 hj ⟨ah, y7, y8, y9, rfl, e5, hc5, B1, B2, hx5, hy5, hah⟩
        -- the load, what the row shows
        refine ⟨_, rfl, c, rfl, hc5, fun H6 p z e6 hc6 hp6 hz => ?_⟩
        have B1c := B1.ext hc5 e6
        obtain ⟨_, rs6, hr6, hP6⟩ := B1c
        have hz18 : Le 1000000000000000000 z := hz.2.mono (by decide)
        refine ⟨_, rfl, _, rfl, r, p, rs6, l, z, rfl, hr6, hP6, hl, by omega, hp6, hz.nz, hz18, fun H7 d s7 hd7 => ?_⟩
        have e67 := e6.trans (Same.ext (c := c) s7)
        have I7 : Inn K C c r b x y p d l m z ah H7 := ⟨hc6.same s7, B1.ext hc5 e67, B2.ext hc5 e67, hx5.ext hc5 e67, hy5.ext hc5 e67, hah.ext hc5 e67, s7 _ _ hp6, hd7⟩
        have e7 := e5.trans e67
        have bigd : Big (front l z) := (front4 hl l4 hz.2).mono (by decide) |>.big
        -- shown by the pattern
        refine ⟨_, rfl, x, rfl, _, rfl, _, rfl, c, p, z, rfl, I7.cup, I7.pp, hz, fun H8 v u e8 hc8 hv hu' hlow => ?_⟩
        have I8 := I7.ext e8 hc8
        refine ⟨I8.mine.insC, x, v, l, u, rfl, I8.mine, hl, by omega, hv, hu', fun H9 p1 s9 hp1 => ?_⟩
        have I9 := I8.same s9
        rw [hlow, shown_eq hl hz.nz] at hp1
        refine ⟨_, rfl, x, rfl, _, rfl, I9.mine.insC, x, .ref p, l, z, rfl, I9.mine, hl, by omega, .tup I9.pp, hz.ok, fun H10 p2 s10 hp2 => ?_⟩
        rw [low_of hz.1, shown_eq hl hz.nz] at hp2
        have I10 := I9.same s10
        have hp1b := s10 _ _ hp1
        refine ⟨(by show 2 ≤ sizeLine; decide), fun d1 hd1 => ?_⟩
        have s11 := same_new (o := .lst [.ref p1, .ref p2]) hd1
        refine ⟨d1, _, rfl, prD_dp2 upd_same (s11 _ _ hp1b) (s11 _ _ hp2), prD2_showable bigd bigd, (prD_rest _ _).2.2.1, (prD_rest _ _).2.2.2, prD2_shown bigd bigd, ?_⟩
        have I11 := I10.same s11
        refine ⟨_, rfl, _, rfl, (by show 2 ≤ sizeLine; decide), fun d2 hd2 => ?_⟩
        have s12 := same_new (o := .lst [.ref d, .ref d]) hd2
        refine ⟨d2, _, rfl, prD_dp2 upd_same (s12 _ _ I11.dd) (s12 _ _ I11.dd), prD2_showable bigd bigd, (prD_rest _ _).2.2.1, (prD_rest _ _).2.2.2, prD2_shown bigd bigd, ?_⟩
        have I12 := I11.same s12
        refine ⟨rfl, false, ne_self, ?_⟩
        have e12 := (e7.trans e8).trans (Same.ext (c := c) (((s9.trans s10).trans s11).trans s12))
        generalize upd _ d2 _ = H12 at I12 e12 ⊢
        have bigr := (prD_rest (front l z) (front l z))
        -- shown by the four numbers
        obtain ⟨dx, fs, hins⟩ := I12.mine.ins
        refine ⟨_, rfl, x, dx, fs, rfl, hins, x, l, rfl, I12.mine, hl, by omega, fun H13 n ns s13 hn hPn => ?_⟩
        have I13 := I12.same s13
        have z6 := chain_e6 hl l4
        have zs := scale_pos hl
        cases hPn with
        | cons q1 hPn =>
        cases hPn with
        | cons q2 hPn =>
        cases hPn with
        | cons q3 hPn =>
        cases hPn with
        | cons q4 hPn =>
        cases hPn
        obtain ⟨a1, rfl, ha1⟩ := q1
        obtain ⟨a2, rfl, ha2⟩ := q2
        obtain ⟨a3, rfl, ha3⟩ := q3
        obtain ⟨a4, rfl, ha4⟩ := q4
        refine ⟨_, rfl, n, p, a1, a2, a3, a4, _, _, _, _, z, rfl, hn, ha1, ha2, ha3, ha4, I13.pp, z6 _ (by simp [chN]), z6 _ (by simp [chN]), z6 _ (by simp [chN]), z6 _ (by simp [chN]), hz.2, byNum_pos zs hl hz.nz, fun H14 q0 s14 hq0 => ?_⟩
        rw [by_numbers zs hl hz.nz] at hq0
        have I14 := I13.same s14
        refine ⟨q0, _, rfl, prD_dp hq0, prD_showable bigd, bigr.1, bigr.2.1, prD_shown bigd, ?_⟩
        refine ⟨_, rfl, d, _, rfl, prD_dp I14.dd, prD_showable bigd, bigr.1, bigr.2.1, prD_shown bigd, ?_⟩
        refine ⟨rfl, false, ne_self, ?_⟩
        have e14 := e12.trans (Same.ext (c := c) (s13.trans s14))
        -- the two together
        obtain ⟨dx2, fs2, hins2⟩ := I14.mine.ins
        obtain ⟨dx3, fs3, hins3⟩ := I14.mate.ins
        have fz := front4 hm' m4 hz.2
        have bigf : Big (front l (front m z)) := (front44 hl l4 fz).big
        have bigs := (prD_rest (front l (front m z)) (front l (front m z)))
        refine ⟨_, rfl, _, rfl, x, y, dx2, dx3, fs2, fs3, rfl, rfl, hins2, hins3, x, y, l, m, rfl, I14.mine, I14.mate, hl, hm', l1, m1, by omega, fun H15 u2 s15 hu2 => ?_⟩
        have I15 := I14.same s15
        refine ⟨u2, rfl, _, rfl, hu2.insC, u2, .ref p, l ++ m, z, rfl, hu2, fun k hk => ?_, ?_, .tup I15.pp, hz.ok, fun H16 q5 s16 hq5 => ?_⟩
        · rcases List.mem_append.mp hk with hk | hk
          · exact hl k hk
          · exact hm' k hk
        · rw [List.length_append]
          omega
        rw [low_of hz.1, shown_two hl hm' hz.nz] at hq5
        have I16 := I15.same s16
        refine ⟨q5, _, rfl, prD_dp hq5, prD_showable bigf, bigs.1, bigs.2.1, prD_shown bigf, ?_⟩
        obtain ⟨_, bs16, hb16, hPb16⟩ := I16.back
        refine ⟨_, rfl, _, rfl, _, rfl, b, p, bs16, m, z, rfl, hb16, hPb16, hm', by omega, I16.pp, hz.nz, hz18, fun H17 q6 s17 hq6 => ?_⟩
        have I17 := I16.same s17
        obtain ⟨_, rs17, hr17, hPr17⟩ := I17.row
        refine ⟨r, q6, rs17, l, front m z, rfl, hr17, hPr17, hl, by omega, hq6, front_nz hm' hz.nz, fz.mono (by decide), fun H18 q7 s18 hq7 => ?_⟩
        have I18 := I17.same s18
        refine ⟨q7, _, rfl, prD_dp hq7, prD_showable bigf, bigs.1, bigs.2.1, prD_shown bigf, ?_⟩
        refine ⟨rfl, false, ne_self, ?_⟩
        have e18 := e14.trans (Same.ext (c := c) (((s15.trans s16).trans s17).trans s18))
        -- the end of the turn
        have fin : ∀ D : Ends, D.nx = (fun σ H' => ∃ (ah : V) (y7 y8 y9 : Option V), σ = [some (.ref c), some (.int ((0 : Int) + (i : Nat))), some (.ref r), some (.ref b), some (.ref x), some (.ref y), some ah, y7, y8, y9] ∧ Ext c H H' ∧ Cup c H' ∧ RowAt c H' r l ∧ RowAt c H' b m ∧ PatAt K C H' x l ∧ PatAt K C H' y m ∧ Ah l H' ah) →
            tAsg (tTup (tCons (tVar 8) (tCons (tVar 9) tNil))) (gName 6) D [some (.ref c), some (.int ((0 : Int) + (i : Nat))), some (.ref r), some (.ref b), some (.ref x), some (.ref y), some ah, some (.int ((0 : Int) + (j : Nat))), some (.ref p), some (.ref d)] H18 := by
          intro D eD
          refine ⟨_, rfl, _, rfl, (by show 2 ≤ sizeLine; decide), fun t ht => ?_⟩
          have I19 := I18.same (same_new (o := .tup [.ref p, .ref d]) ht)
          show D.nx _ _
          rw [eD]
          exact ⟨.ref t, _, _, _, rfl, e18.trans (Same.ext (same_new ht)), I19.cup, I19.row, I19.back, I19.mine, I19.mate, .inr ⟨t, p, d, z, rfl, upd_same, I19.pp, I19.dd, hz⟩⟩
        rcases I18.ah with rfl | ⟨t0, a0, b0, x0, rfl, ht0, ha0, hb0, hx0⟩
        · refine ⟨_, rfl, rfl, false, ne_self, ?_⟩
          exact fin _ rfl
        · refine ⟨_, rfl, rfl, true, congrArg V.bl (by simp), ?_⟩
          have g0 : atI [V.ref a0, V.ref b0] 0 = some (.ref a0) := atI_nat (j := 0) rfl
          have g1 : atI [V.ref a0, V.ref b0] 1 = some (.ref b0) := atI_nat (j := 1) rfl
          refine ⟨_, rfl, t0, _, 0, _, rfl, rfl, SqT.of ht0, g0, _, rfl, a0, p, x0, z, rfl, ha0, I18.pp, hz18, hx0.2.mono (by decide), ?_⟩
          refine ⟨_, rfl, t0, _, 1, _, rfl, rfl, SqT.of ht0, g1, _, rfl, b0, d, front l x0, front l z, rfl, hb0, I18.dd, (front4 hl l4 hz.2).mono (by decide), (front4 hl l4 hx0.2).mono (by decide), ?_⟩
          refine ⟨rfl, false, ?_, ?_⟩
          · rw [decide_eq_decide.mpr (below_front hl hx0.nz hz.nz)]
            exact ne_self
          · exact fin _ rfl
      · rintro σ H5 ⟨ah, y7, y8, y9, rfl, e5, hc5, _⟩
        exact ⟨_, _, _, _, _, _, _, _, _, rfl, e5, hc5⟩
    · rintro σ H5 ⟨y1, y2, y3, y4, y5, y6, y7, y8, y9, rfl, e5, hc5⟩
      exact q H5 e5
end
end K12
namespace K12
open PySem PySem.Spec PyProof.Rows L2 TL
theorem same_seqL {K : PySem.W.Frag} {H H' : Hp} {a : Addr} {xs : List V} (e : Same H H') (h : SqL K H a xs) : SqL K H' a xs := by
  rcases h with (h | ⟨o, h⟩) | h
  · exact .inl (.inl (e _ _ h))
  · exact .inl (.inr ⟨o, e _ _ h⟩)
  · exact .inr h
theorem ext_same {c : Addr} {H H1 H2 : Hp} (s : Same H H1) (n : H c = none) (e : Ext c H1 H2) : Same H H2 := fun b o h => e b o (ne_of_none h n) (s b o h)
/-- the fixed rows -/
def lad : List Pc := [(true, 1), (false, 1)]
theorem lad_ok : RowOk lad := fun p hp => by
  rcases List.mem_cons.mp hp with rfl | hp
  · exact ⟨by decide, by decide⟩
  · rw [List.mem_singleton.mp hp]
    exact ⟨by decide, by decide⟩
theorem one_ok (r : Bool) (n : Nat) (h1 : 1 ≤ n) (h2 : n ≤ 12) : RowOk [(r, n)] := fun p hp => by
  rw [List.mem_singleton.mp hp]
  exact ⟨h1, h2⟩
theorem res_is {H : Hp} {p : Addr} {x z : Nat × Nat} (h : H p = some (.tup (pr x))) (e : x = z) : H p = some (.tup (pr z)) := by
  rw [← e]
  exact h
theorem spots (L : Nat) : ∃ n : Nat, n ≤ 6 ∧ (if (if (6 : Int) < (L : Int) then (6 : Int) else (L : Int)) > 2 then (if (6 : Int) < (L : Int) then (6 : Int) else (L : Int)) else 2) = (n : Int) := by
  by_cases h6 : (6 : Int) < (L : Int)
  · exact ⟨6, by decide, by rw [if_pos h6]; rfl⟩
  · rw [if_neg h6]
    by_cases h2 : (L : Int) > 2
    · exact ⟨L, by omega, if_pos h2⟩
    · exact ⟨2, by decide, if_neg h2⟩
section
variable {P : Program} {w : World} {K : PySem.W.Frag} {mg : Str → Option Value} {base : Heap}
theorem sc54 : FnScope ["_law_script", "_law_mine", "_law_rail", "_law_rung", "_law_spot"] ["_law_script"] (defScope (top 54)) := ⟨rfl, rfl, rfl, by decide +kernel, rfl, by decide +kernel, by decide +kernel⟩
def spLaw (K : PySem.W.Frag) : Sp := fun vs H Q _ => ∃ (a : Addr) (ns : List Int), vs = [.ref a] ∧ SqL K H a (ns.map V.int) ∧ ∀ H', Same H H' → Q (.bl true) H'
theorem g_law {C R fC gc gt ga pn gn f : Addr} {fd : FuncData} (Fu : Fun K "law" "law" (top 54) f fd) (T : Tx K mg) (F : PF K mg C R) (O : PO K C gc ga pn gn) (MC : Mk K C fC) (GI : FnR P w K mg base CX0 5 fC (spPatNew K C R)) (GC : CaK P w K mg base 6 gc (spCall K C))
    (MT : Meth K C "turned" gt) (GT : CaM P w K mg base 8 gt ["self"] (spTurned K C)) (c1 : Ca P w K mg base 1 "_law_cup" (spCup K)) (c2 : CaG P w K mg base 10 "_law_right" spRight) : FnG P w K mg base 11 f (spLaw K) := by
  obtain ⟨fc, FC, bC, bK⟩ := GC.ex
  obtain ⟨ft, FT, bT⟩ := GT.ex
  obtain ⟨fr2, FR, mR, kR⟩ := c2.ex
  refine fnG_of Fu sc54 (fun vs H Q E h => ?_) (fun _ _ _ _ _ _ us hl => match us, hl with | [_], _ => rfl) (fun cdv A fr s H vs Q hg hr h => ?_)
  · obtain ⟨a, ns, rfl, _⟩ := h
    rfl
  · obtain ⟨a, ns, rfl, hS, q⟩ := h
    have hu : (A.deeper (envOfC "law" (defScope (top 54)) s.heap.objs.size f cdv)).units + 64 < cLine := by have := hr.un; omega
    have g2 : (A.deeper (envOfC "law" (defScope (top 54)) s.heap.objs.size f cdv)).guards = some [] := hg
    refine ⟨_, C8.pss_cut (ps_set (i := 1) sc54.nd rfl (.inl rfl) (StX.pe_makeR MC GI (hr.mono (by decide)) rfl F.mC pass0 (pa_cons (pe_tup (pa_cons pe_str (pa_cons pe_int pa_nil))) (pa_cons (pe_tup (pa_cons pe_str (pa_cons pe_int pa_nil))) pa_nil))))
      (C8.pss_cut (ps_if (pt_cmpR op_ne (pe_callB (call_reprD g2 hu) (by rfl) T.repr (by decide +kernel) (pa_cons (pe_lst
            (pa_cons (StX.pe_callO (pv 1) O.co (FC.raw bC .nil) (hr.mono (by decide)) pass0 (pa_cons (pe_tup (pa_cons pe_int (pa_cons pe_int pa_nil))) pa_nil))
            (pa_cons (StX.pe_callO (pv 1) O.co (FC.raw bC .nil) (hr.mono (by decide)) pass0 (pa_cons pe_int pa_nil))
            (pa_cons (StX.pe_callO (pv 1) O.co (FC.raw bC .nil) (hr.mono (by decide)) pass0 (pa_cons (pe_tup (pa_cons pe_int (pa_cons pe_int pa_nil))) pa_nil))
            (pa_cons (StX.pe_callO (pe_meth0 (pv 1) F.isC.cl MT FT (hr.mono (by decide)) bT .nil pass0) O.co (FC.raw bC .nil) (hr.mono (by decide)) pass0 (pa_cons pe_int pa_nil)) pa_nil))))) pa_nil)) pe_str (nomark _)) (pss_one ps_never) pss_nil)
      (C8.pss_cut (ps_par (i := 2) (j := 3) (by rfl) sc54.nd rfl rfl (by decide) rfl rfl (pa_cons (StX.pe_makeR MC GI (hr.mono (by decide)) rfl F.mC pass0 (pa_cons (pe_tup (pa_cons pe_str (pa_cons pe_int pa_nil))) pa_nil))
          (pa_cons (StX.pe_makeR MC GI (hr.mono (by decide)) rfl F.mC pass0 (pa_cons (pe_tup (pa_cons pe_str (pa_cons pe_int pa_nil))) pa_nil)) pa_nil)) (by rfl))
      (C8.pss_cut (ps_if (pt_cmpR op_ne (pe_callB (call_reprD g2 hu) (by rfl) T.repr (by decide +kernel) (pa_cons (pe_lst
            (pa_cons (StX.pe_callO (pv 2) O.co (FC.raw bC .nil) (hr.mono (by decide)) pass0 (pa_cons (pe_tup (pa_cons pe_int (pa_cons pe_int pa_nil))) pa_nil))
            (pa_cons (StX.pe_callO (pv 3) O.co (FC.raw bC .nil) (hr.mono (by decide)) pass0 (pa_cons (pe_tup (pa_cons pe_int (pa_cons pe_int pa_nil))) pa_nil))
            (pa_cons (StX.pe_callO (pv 3) O.co (FC.raw bC .nil) (hr.mono (by decide)) pass0 (pa_cons pe_int pa_nil)) pa_nil)))) pa_nil)) pe_str (nomark _)) (pss_one ps_never) pss_nil)
      (pss_one (ps_ret (pe_callB (cr_all rfl) (by rfl) T.all (by decide +kernel) (pa_cons (pe_lc (own := [("_law_spot", 4)]) (g := gName 4) (tt := tYes) rfl sc54.nd
          (pi_range1 rfl T.range (pa_cons (pe_callB (call_max2 rfl) (by rfl) T.max (by decide +kernel) (pa_cons pe_int (pa_cons (pe_callB (call_min2 rfl) (by rfl) T.min (by decide +kernel) (pa_cons (pe_callB call_len_seq (by rfl) T.len boot_len (pa_cons (pv 0) pa_nil)) (pa_cons pe_int pa_nil))) pa_nil))) pa_nil))
          (blkOk_by (N := ["_law_script", "_law_mine", "_law_rail", "_law_rung", "_law_spot"]) (sc := defScope (top 54)) (by decide +kernel))
          (fun _ _ _ _ _ => pg_name (i := 4) sc54.nd rfl (Or.inl rfl)) (fun _ _ _ _ _ => pts_nil)
          (fun _ _ _ _ _ => pe_callG FR hg hr rfl mR kR (pa_cons (pe_ca c1 hr (pa_cons (pv 0) (pa_cons (pv 4) pa_nil))) pa_nil))) pa_nil))))))), ?_⟩
    -- the ladder of two
    refine ⟨fun σ' H' => ∃ x : Addr, σ' = [some (.ref a), some (.ref x), none, none, none] ∧ Same H H' ∧ PatAt K C H' x lad, ?_, ?_⟩
    · refine ⟨(by show 2 ≤ sizeLine; decide), fun p1 h1 => ?_⟩
      refine ⟨(by show 2 ≤ sizeLine; decide), fun p2 h2 => ?_⟩
      intro x dx nx nd ne
      have s1 := same_new (o := .tup [.str "rail", .int 1]) h1
      have s2 := same_new (o := .tup [.str "rung", .int 1]) h2
      have s3 := same_set (o := .ins C dx []) (same_new (o := .own x) nd) nx
      refine ⟨x, dx, _, lad, rfl, upd_same, (by show 2 ≤ sizeLine; decide), lad_ok, .inr ⟨.cons ⟨p1, rfl, s3 _ _ (s2 _ _ upd_same)⟩ (.cons ⟨p2, rfl, s3 _ _ upd_same⟩ .nil), by decide, by decide⟩, fun H' e hP => ⟨rfl, ?_⟩⟩
      exact ⟨x, rfl, (s1.trans s2).trans (same_made nx nd e), hP⟩
    rintro σ' H1 ⟨x, rfl, s1, hx⟩
    refine ⟨fun σ' H' => ∃ y : Option V, σ' = [some (.ref a), y, none, none, none] ∧ Same H H', ?_, ?_⟩
    · refine ⟨_, rfl, x, rfl, (by show 2 ≤ sizeLine; decide), fun p2 h2 => ?_⟩
      have s2 := same_new (o := .tup [.int 1, .int 0]) h2
      have x2 := hx.same s2
      refine ⟨x2.insC, x, .ref p2, lad, (1, 0), rfl, x2, lad_ok, by decide, .tup upd_same, ⟨.inr rfl, by decide, by decide⟩, fun H3 p3 s3 h3 => ?_⟩
      have h3 := res_is (z := (2, 1)) h3 (by decide +kernel)
      have x3 := x2.same s3
      refine ⟨_, rfl, x, rfl, x3.insC, x, .int 0, lad, (0, 1), rfl, x3, lad_ok, by decide, .int 0, ⟨.inl (by decide), by decide, by decide⟩, fun H4 p4 s4 h4 => ?_⟩
      have h4 := res_is (z := (1, 1)) h4 (by decide +kernel)
      have x4 := x3.same s4
      refine ⟨_, rfl, x, rfl, (by show 2 ≤ sizeLine; decide), fun p5 h5 => ?_⟩
      have s5 := same_new (o := .tup [.int 1, .int 2]) h5
      have x5 := x4.same s5
      refine ⟨x5.insC, x, .ref p5, lad, (1, 2), rfl, x5, lad_ok, by decide, .tup upd_same, ⟨.inl (by decide), by decide, by decide⟩, fun H6 p6 s6 h6 => ?_⟩
      have h6 := res_is (z := (4, 3)) h6 (by decide +kernel)
      have x6 := x5.same s6
      obtain ⟨dx, r, cc, ps, hins, hrest⟩ := id x6
      refine ⟨_, rfl, x, dx, _, rfl, hins, rfl, x, (true, 1), (false, 1), rfl, x6, lad_ok, fun H7 p7 s7 h7 => ?_⟩
      refine ⟨p7, rfl, h7.insC, p7, .int 0, [(false, 1), (true, 1)], (0, 1), rfl, h7, ?_, by decide, .int 0, ⟨.inl (by decide), by decide, by decide⟩, fun H8 p8 s8 h8 => ?_⟩
      · intro k hk
        rcases List.mem_cons.mp hk with rfl | hk
        · exact ⟨by decide, by decide⟩
        · rw [List.mem_singleton.mp hk]
          exact ⟨by decide, by decide⟩
      have h8 := res_is (z := (1, 2)) h8 (by decide +kernel)
      refine ⟨(by show 4 ≤ sizeLine; decide), fun d hd => ?_⟩
      have s9 := same_new (o := .lst [.ref p3, .ref p4, .ref p6, .ref p8]) hd
      have k3 := s9 _ _ (s8 _ _ (s7 _ _ (s6 _ _ (s5 _ _ (s4 _ _ h3)))))
      have k4 := s9 _ _ (s8 _ _ (s7 _ _ (s6 _ _ (s5 _ _ h4))))
      have k6 := s9 _ _ (s8 _ _ (s7 _ _ h6))
      have k8 := s9 _ _ h8
      refine ⟨d, .list [prD (2, 1), prD (1, 1), prD (4, 3), prD (1, 2)], rfl, .lst (SqL.of upd_same) (.cons (prD_dp k3) (.cons (prD_dp k4) (.cons (prD_dp k6) (.cons (prD_dp k8) .nil)))), by decide +kernel, by decide +kernel, by decide +kernel, by decide +kernel, ?_⟩
      refine ⟨rfl, false, ?_, ?_⟩
      · rw [show (PyData.list [prD (2, 1), prD (1, 1), prD (4, 3), prD (1, 2)]).shown = "[(2, 1), (1, 1), (4, 3), (1, 2)]" by decide +kernel]
        exact ne_self
      · exact ⟨_, rfl, (((((((s1.trans s2).trans s3).trans s4).trans s5).trans s6).trans s7).trans s8).trans s9⟩
    rintro σ' H2 ⟨y1, rfl, s2⟩
    refine ⟨fun σ' H' => ∃ y z : Addr, σ' = [some (.ref a), y1, some (.ref y), some (.ref z), none] ∧ Same H H' ∧ PatAt K C H' y [(true, 7)] ∧ PatAt K C H' z [(false, 7)], ?_, ?_⟩
    · refine ⟨(by show 2 ≤ sizeLine; decide), fun p1 h1 => ?_⟩
      intro y dy ny nd ne
      have s3 := same_new (o := .tup [.str "rail", .int 7]) h1
      have s4 := same_set (o := .ins C dy []) (same_new (o := .own y) nd) ny
      refine ⟨y, dy, _, [(true, 7)], rfl, upd_same, (by show 1 ≤ sizeLine; decide), one_ok _ _ (by decide) (by decide), .inr ⟨.cons ⟨p1, rfl, s4 _ _ upd_same⟩ .nil, by decide, by decide⟩, fun H3 e3 hy => ⟨rfl, ?_⟩⟩
      have s5 := (s2.trans s3).trans (same_made ny nd e3)
      refine ⟨(by show 2 ≤ sizeLine; decide), fun p2 h2 => ?_⟩
      intro z dz nz nd2 ne2
      have s6 := same_new (o := .tup [.str "rung", .int 7]) h2
      have s7 := same_set (o := .ins C dz []) (same_new (o := .own z) nd2) nz
      refine ⟨z, dz, _, [(false, 7)], rfl, upd_same, (by show 1 ≤ sizeLine; decide), one_ok _ _ (by decide) (by decide), .inr ⟨.cons ⟨p2, rfl, s7 _ _ upd_same⟩ .nil, by decide, by decide⟩, fun H4 e4 hz => ⟨rfl, ?_⟩⟩
      have s8 := s6.trans (same_made nz nd2 e4)
      exact ⟨_, _, rfl, y, z, rfl, s5.trans s8, hy.same s8, hz⟩
    rintro σ' H3 ⟨y, z, rfl, s3, hy, hz⟩
    refine ⟨fun σ' H' => ∃ y2 y3 : Option V, σ' = [some (.ref a), y1, y2, y3, none] ∧ Same H H', ?_, ?_⟩
    · refine ⟨_, rfl, y, rfl, (by show 2 ≤ sizeLine; decide), fun p4 h4 => ?_⟩
      have s4 := same_new (o := .tup [.int 1, .int 0]) h4
      have y4 := hy.same s4
      refine ⟨y4.insC, y, .ref p4, _, (1, 0), rfl, y4, one_ok _ _ (by decide) (by decide), by decide, .tup upd_same, ⟨.inr rfl, by decide, by decide⟩, fun H5 p5 s5 h5 => ?_⟩
      have h5 := res_is (z := (1, 0)) h5 (by decide +kernel)
      have z5 := (hz.same s4).same s5
      refine ⟨_, rfl, z, rfl, (by show 2 ≤ sizeLine; decide), fun p6 h6 => ?_⟩
      have s6 := same_new (o := .tup [.int 1, .int 0]) h6
      have z6 := z5.same s6
      refine ⟨z6.insC, z, .ref p6, _, (1, 0), rfl, z6, one_ok _ _ (by decide) (by decide), by decide, .tup upd_same, ⟨.inr rfl, by decide, by decide⟩, fun H7 p7 s7 h7 => ?_⟩
      have h7 := res_is (z := (7, 1)) h7 (by decide +kernel)
      have z7 := z6.same s7
      refine ⟨_, rfl, z, rfl, z7.insC, z, .int 0, _, (0, 1), rfl, z7, one_ok _ _ (by decide) (by decide), by decide, .int 0, ⟨.inl (by decide), by decide, by decide⟩, fun H8 p8 s8 h8 => ?_⟩
      have h8 := res_is (z := (0, 1)) h8 (by decide +kernel)
      refine ⟨(by show 3 ≤ sizeLine; decide), fun d hd => ?_⟩
      have s9 := same_new (o := .lst [.ref p5, .ref p7, .ref p8]) hd
      have k5 := s9 _ _ (s8 _ _ (s7 _ _ (s6 _ _ h5)))
      have k7 := s9 _ _ (s8 _ _ h7)
      have k8 := s9 _ _ h8
      refine ⟨d, .list [prD (1, 0), prD (7, 1), prD (0, 1)], rfl, .lst (SqL.of upd_same) (.cons (prD_dp k5) (.cons (prD_dp k7) (.cons (prD_dp k8) .nil))), by decide +kernel, by decide +kernel, by decide +kernel, by decide +kernel, ?_⟩
      refine ⟨rfl, false, ?_, ?_⟩
      · rw [show (PyData.list [prD (1, 0), prD (7, 1), prD (0, 1)]).shown = "[(1, 0), (7, 1), (0, 1)]" by decide +kernel]
        exact ne_self
      · exact ⟨_, _, rfl, (((((s3.trans s4).trans s5).trans s6).trans s7).trans s8).trans s9⟩
    rintro σ' H4 ⟨y2, y3, rfl, s4⟩
    obtain ⟨n, n6, en⟩ := spots (ns.map V.int).length
    refine ⟨_, rfl, a, _, rfl, .inl (same_seqL s4 hS), _, _, rfl, _, _, rfl, ?_⟩
    refine ⟨(n : Int), congrArg (fun z => [V.int z]) en, by omega, by omega, fun d hd => ?_⟩
    have hd0 : H d = none := s4.free hd
    refine lc_range (lo := 0) (fun i H' => Same H H' ∧ H' d = some (.lst ((List.replicate i true).map V.bl))) ⟨s4.trans (same_new hd), upd_same⟩ ?_ ?_
    · rintro i H5 hi ⟨s5, hd5⟩
      have hi6 : i < 6 := by
        have : i < ((n : Nat) : Int).toNat := hi
        omega
      refine ⟨rfl, ?_⟩
      have ei : ((0 : Int) + (i : Nat)) = ((i : Nat) : Int) := by omega
      refine ⟨_, rfl, _, rfl, a, ns, i, congrArg (fun z => [V.ref a, V.int z]) ei, same_seqL s5 hS, by omega, fun H6 c s6 nc hc => ?_⟩
      refine ⟨c, rfl, hc, fun H7 e7 => ?_⟩
      have s7 := ext_same s6 nc e7
      have hd7 := s7 _ _ hd5
      refine ⟨_, hd7, ?_, same_set (s5.trans s7) hd0, ?_⟩
      · rw [List.length_map, List.length_replicate]
        exact Nat.lt_trans hi6 (by decide)
      · rw [upd_same, List.replicate_succ', List.map_append]
        rfl
    · rintro H5 ⟨s5, hd5⟩
      refine ⟨d, _, rfl, SqL.of hd5, ?_⟩
      refine blE (c := true) ?_ (q H5 s5)
      simp
end
end K12
namespace K12
open PySem PySem.Spec PyProof.Rows L2 TL
/-! ### the law's call, where nothing is under way -/
/-- the script's place in the heap: told apart, unless the module wrote it -/
def scr (K : PySem.W.Frag) (a : Addr) (o : Obj) (xs : List V) : Hp := fun b => match K.lookup a with
  | some _ => none
  | none => if b = a then some (.frz o (.lst xs)) else none
theorem scr_or (K : PySem.W.Frag) (a : Addr) (o : Obj) (xs : List V) (b : Addr) : scr K a o xs b = none ∨ (b = a ∧ K.lookup a = none ∧ scr K a o xs b = some (.frz o (.lst xs))) := by
  unfold scr
  cases K.lookup a with
  | some z => exact .inl rfl
  | none =>
    by_cases h : b = a
    · exact .inr ⟨h, rfl, if_pos h⟩
    · exact .inl (if_neg h)
theorem call_alone {P : Program} {w : World} {K : PySem.W.Frag} {mg mb : Str → Option Value} {k : Nat} {f a : Addr} {sp : Sp} {s : Shared} {us : List Value} {ns : List Int} (X : K.In s.heap) (G : s.heap.Ns mainGlobals mg) (B : s.heap.Ns builtinsNs mb)
    (BB : ∀ x : Str, x ≠ "__name__" → mb x = bootBuiltins x) (L : s.heap.NoLimit) (N : s.gens = #[]) (ha : s.heap.get? a = some { cls := .type "list", data := .seq us.toArray }) (hi : IntsAre us ns) (hz : ns.length ≤ sizeLine) (hr : Room k callerA)
    (F : ∀ base : Heap, K.In base → base.Ns mainGlobals mg → FnG P w K mg base k f sp) (ask : ∀ H : Hp, SqL K H a (ns.map V.int) → sp [.ref a] H (fun v _ => v = .bl true) E0) :
    codeAny (model P w) callerA (.call (.ref f) ⟨[.ref a], []⟩) (fun r s' => r = .ok (.ret (.bool true)) ∧ OldK s.heap s'.heap ∧ s'.os = s.os ∧ AllBare s'.gens) s := by
  have rv := vals_ints hi
  have seen := scr_or K a { cls := .type "list", data := .seq us.toArray } (ns.map V.int)
  generalize hH : scr K a { cls := .type "list", data := .seq us.toArray } (ns.map V.int) = H at seen
  have ok : HOk P w H s.heap := fun b u hb => by
    rcases seen b with z | ⟨rfl, _, z⟩
    · rw [z] at hb
      cases hb
    · rw [z] at hb
      cases hb
      exact ⟨ha, by rw [List.length_map]; exact hz, us, _, rv, ha⟩
  have isS : SqL K H a (ns.map V.int) := by
    cases e : K.lookup a with
    | none =>
      refine .inl (.inr ⟨{ cls := .type "list", data := .seq us.toArray }, ?_⟩)
      rw [← hH]
      unfold scr
      rw [e]
      exact if_pos rfl
    | some o =>
      have e2 := X a o e
      rw [ha] at e2
      cases e2
      refine .inr ⟨_, us.toArray, _, e, rfl, rfl, rfl, ?_, by simpa using rv⟩
      rw [List.size_toArray, hi.length]
      exact hz
  have far : ∀ {b : Addr} {o : Obj}, s.heap.get? b = some o → (b = a → K.lookup a = none → False) → (hidT s.heap H).get? b = some o := fun {b o} e d => hidT_get e (by
    rcases seen b with z | ⟨z1, z2, _⟩
    · exact z
    · exact (d z1 z2).elim)
  have spaces : ∀ {b : Addr} {m : Str → Option Value}, s.heap.Ns b m → (hidT s.heap H).Ns b m := fun {b m} n => by
    obtain ⟨o, es, ep, e, hd, rest⟩ := n
    refine ⟨o, es, ep, far e (fun z _ => ?_), hd, rest⟩
    rw [z, ha] at e
    cases e
    have hd' : Data.seq us.toArray _ = Data.dict es ep := hd
    cases hd'
  have XB : K.In (hidT s.heap H) := fun b o e => far (X b o e) fun z1 z2 => by
    rw [z1, z2] at e
    cases e
  have lim : (hidT s.heap H).NoLimit := by
    obtain ⟨m, h1, h2⟩ := L
    exact ⟨m, spaces h1, h2⟩
  have E : Env0 P w K mg (hidT s.heap H) callerA [] s H :=
    { frames := rfl, mod := ⟨XB, spaces G, ⟨mb, spaces B, BB⟩, lim⟩, bs := fun _ _ e => of_hidT e, bsz := Nat.le_of_eq (hidT_size _ _), funs := trivial, frf := (fun b hb => nomatch (show b ∈ ([] : List Addr) from hb)), hok := ok, bare := .of_eq N }
  refine codeAny_mono ((F _ XB (spaces G)).run callerA [] s H [.ref a] [.ref a] _ rfl hr E (.cons rfl .nil) (ask H isS)) fun r s' h => ?_
  match r, h with
  | .error e, h => exact h.elim
  | .ok (.ret u), h =>
    obtain ⟨v, H', os, bare, un, ok', rl, q⟩ := h
    obtain rfl : v = .bl true := q
    obtain rfl : u = Value.bool true := rl
    refine ⟨rfl, OldK.of_keep fun b o e => ?_, os, bare⟩
    rcases seen b with z | ⟨rfl, _, z⟩
    · exact un.keep b o e z (fun hb => nomatch (show b ∈ ([] : List Addr) from hb)) (fun hb => nomatch hb)
    · have st := ok' _ _ (un.frzs _ _ _ z)
      rw [ha] at e
      cases e
      exact st.1
/-- the end: what stands behind the head -/
theorem walk_alone {l : PySem.W.OpenLaw} {k : Nat} {q : Program} {loose : List Str} {XP : (Str → Option Value) → Heap → Prop} {YP : World → Heap → Prop} {d : DefRec} {K : Params → PySem.W.Frag} {sp : PySem.W.Frag → Sp} (hn : l.most = some 63) (hdf : d.params.defaults = []) (hr : Room k callerA)
    (hY : ∀ (w : World) (h : Heap), YP w h → (K w.params).In h)
    (F : ∀ (w : World) (mg : Str → Option Value) (fa : Addr) (h : Heap), (K w.params).In h → h.Ns mainGlobals mg → mg d.name = some (.ref fa) → ∀ base : Heap, (K w.params).In base → base.Ns mainGlobals mg → FnG l.prog w (K w.params) mg base k fa (sp (K w.params)))
    (ask : ∀ (K : PySem.W.Frag) (H : Hp) (a : Addr) (ns : List Int), SqL K H a (ns.map V.int) → sp K [.ref a] H (fun v _ => v = .bl true) E0) : PySem.W.WalkO q loose XP YP l.row.toRowW d [] (fun f vs => PySem.call f vs) := by
  refine Att.attach_call hn hdf fun w s₀ s₁ mg mb fa o pm cd doc a vs ns G Y ho hd hcd hmg hobj hints hlen hg => ?_
  have X := hY w _ Y
  exact call_alone X G.T.g G.T.b G.T.builtins G.T.nolimit hg hobj hints (Nat.le_trans hlen (by decide)) hr (F w mg fa _ X G.T.g hmg) (fun H hS => ask _ H a ns hS)

/-! ### what the top has written -/
section
variable {K : PySem.W.Frag} {h : Heap} {mg : Str → Option Value}
theorem df_mk {x : Str} {st : Stmt} {f : Addr} {oc : Value} {od an : Option Addr} {osl : Array (Option Value)} {kV doc pm cdv ct : Value} (X : K.In h) (G : h.Ns mainGlobals mg) (a : PySem.W.nsIn K mainGlobals x = some (some (.ref f)))
    (l : K.lookup f = some ⟨oc, od, .func (PySem.W.fnOf x x (defArgs st) (defBody st) (defScope st) .none kV doc pm an cdv ct), osl⟩) (c : PySem.W.codeIn K cdv x = true) (k : PySem.W.keepIn K (.ref f) = true) : Df K mg x st :=
  ⟨f, _, fun_mk l c k, PySem.W.mg_of X G a⟩
theorem mt_mk {x qual : Str} {st : Stmt} {f : Addr} {oc : Value} {od an : Option Addr} {osl : Array (Option Value)} {kV doc pm cdv ct : Value}
    (l : K.lookup f = some ⟨oc, od, .func (PySem.W.fnOf x qual (defArgs st) (defBody st) (defScope st) .none kV doc pm an cdv ct), osl⟩) (c : PySem.W.codeIn K cdv qual = true) (k : PySem.W.keepIn K (.ref f) = true) : Mt K x qual st f :=
  ⟨_, fun_mk l c k⟩
theorem kI_mk {x : Str} {i : Int} {t : Nat} (X : K.In h) (G : h.Ns mainGlobals mg) (a : PySem.W.nsIn K mainGlobals x = some (some (.int i t))) : ∃ t, mg x = some (.int i t) := ⟨t, PySem.W.mg_of X G a⟩
theorem kS_mk {x z : Str} {t : Nat} (X : K.In h) (G : h.Ns mainGlobals mg) (a : PySem.W.nsIn K mainGlobals x = some (some (.str z t))) : ∃ t, mg x = some (.str z t) := ⟨t, PySem.W.mg_of X G a⟩
theorem kT_mk {x : Str} {b : Addr} {n : Nat} {us : Array Value} {osl : Array (Option Value)} {xs : List V} (X : K.In h) (G : h.Ns mainGlobals mg) (a : PySem.W.nsIn K mainGlobals x = some (some (.ref b))) (l : K.lookup b = some ⟨.type "tuple", none, .seq us n, osl⟩) (r : Vals xs us.toList) (z : us.size ≤ sizeLine) :
    ∃ b, mg x = some (.ref b) ∧ ∀ H, SqT K H b xs := ⟨b, PySem.W.mg_of X G a, fun H => .inr ⟨_, us, n, l, rfl, rfl, z, r⟩⟩
theorem isC_mk {C : Addr} (pg : PySem.W.plainGet K C Str.empty = true) (hd : PySem.W.hasDictIn K C = true) (po : PySem.W.plainOver K C = true) (sa : PySem.W.findIn K (.ref C) "__setattr__" = some (some (.builtin "object.__setattr__")))
    (ha : PySem.W.findIn K (.ref C) "__class__" = some (some (.builtin "object.__class__"))) (hn : PySem.W.specialIn K (.builtin "object.__class__") "__get__" = some (some (.builtin "getset_descriptor.__get__"))) (htk : PySem.W.takesIn K (.builtin "object.__class__") = some true)
    (hm : PySem.W.mroIn K C (.type "object") = some true) : C8.InsC K C := ⟨⟨pg, hd, po, sa⟩, ha, hn, htk, hm, if_pos (beq_self_eq_true _)⟩
theorem prop_mk {C p g : Addr} {f : Str} {rest : List Value} (a : PySem.W.findIn K (.ref C) f = some (some (.ref p))) (b : PySem.W.specialIn K (.ref p) "__get__" = some (some (.builtin "property.__get__"))) (c : PySem.W.takesIn K (.ref p) = some true)
    (d : PySem.W.recIn K p "property" = some (.ref g :: rest)) : L2.PropOf K C f p g := ⟨a, b, c, rest, d⟩
theorem stat_mk {C p g : Addr} {mc : Value} {m : Str} {rest : List Value} (a : PySem.W.findCls K (.ref C) mc m = some (.get (.builtin "staticmethod.__get__") (.ref p) .none (.ref C))) (b : PySem.W.recIn K p "staticmethod" = some (.ref g :: rest)) (c : PySem.W.keepIn K (.ref g) = true) :
    CStat K C mc m p g := ⟨a, ⟨rest, b⟩, c⟩
theorem tR_mk {R : Addr} (c : PySem.W.isClsIn K R = true) (t : PySem.W.typeIn K (.ref R) = some (.type "type")) (s : PySem.W.subIn K (.type "tuple") (.ref R) = some false) : PySem.W.kitOne K (.type "tuple") (.ref R) = some false := by
  have c' : (PySem.W.clsIn K R).isSome = true := c
  show (if ((Value.type "tuple" == Value.ref R) = true) then some true else PySem.W.kitCls K (.type "tuple") (.ref R)) = some false
  rw [if_neg (fun z => by cases eq_of_beq z)]
  show (if ((PySem.W.clsIn K R).isSome && PySem.W.typeIn K (.ref R) == some (.type "type")) = true then PySem.W.subIn K (.type "tuple") (.ref R) else none) = some false
  rw [c', t, if_pos (by simp), s]
end

/-- the joint: the law's def keeps its promise -/
theorem law_all {P : Program} {w : World} {K : PySem.W.Frag} {mg : Str → Option Value} {C R fC fR gr pr gc ga pn gn gt fa : Addr} {mc : Value} (hfa : mg "law" = some (.ref fa)) (T : Tx K mg) (F : PF K mg C R) (O : PO K C gc ga pn gn) (MC : Mk K C fC) (MR : Mk K R fR) (MT : Meth K C "turned" gt) (rd : ClX.CRead K C mc) (st : CStat K C mc "read" pr gr)
    (D15 : Df K mg "is_integer" (top 15))
    (D16 : Df K mg "is_between" (top 16))
    (D17 : Df K mg "is_fraction" (top 17))
    (D18 : Df K mg "is_number" (top 18))
    (D19 : Df K mg "is_resistance" (top 19))
    (D20 : Df K mg "common" (top 20))
    (D21 : Df K mg "lowest" (top 21))
    (D22 : Df K mg "pair_of" (top 22))
    (D23 : Df K mg "check_resistance" (top 23))
    (D24 : Df K mg "integer_in" (top 24))
    (D27 : Df K mg "joined" (top 27))
    (D28 : Df K mg "chain_of" (top 28))
    (D29 : Df K mg "led" (top 29))
    (D30 : Df K mg "shown" (top 30))
    (D34 : Df K mg "is_piece" (top 34))
    (D35 : Df K mg "check_pieces" (top 35))
    (D36 : Df K mg "piece_in" (top 36))
    (D37 : Df K mg "pattern_in" (top 37))
    (D38 : Df K mg "pattern_of" (top 38))
    (D41 : Df K mg "_law_cup" (top 41))
    (D42 : Df K mg "_law_sip" (top 42))
    (D43 : Df K mg "_law_pick" (top 43))
    (D44 : Df K mg "_law_pair" (top 44))
    (D45 : Df K mg "_law_below" (top 45))
    (D46 : Df K mg "_law_front" (top 46))
    (D47 : Df K mg "_law_row" (top 47))
    (D48 : Df K mg "_law_words" (top 48))
    (D49 : Df K mg "_law_end" (top 49))
    (D50 : Df K mg "_law_told" (top 50))
    (D51 : Df K mg "_law_read" (top 51))
    (D52 : Df K mg "_law_by_numbers" (top 52))
    (D53 : Df K mg "_law_right" (top 53))
    (D54 : Df K mg "law" (top 54))
    (I0 : Mt K "__init__" "Row.__init__" (inClass (top 33) 0) fR) (P0 : Mt K "__init__" "Pattern.__init__" (inPat 0) fC) (P1 : Mt K "read" "Pattern.read" (inPat 1) gr) (P3 : Mt K "numbers" "Pattern.numbers" (inPat 3) gn) (P4 : Mt K "__call__" "Pattern.__call__" (inPat 4) gc)
    (P5 : Mt K "__add__" "Pattern.__add__" (inPat 5) ga) (P6 : Mt K "turned" "Pattern.turned" (inPat 6) gt) : ∀ base : Heap, FnG P w K mg base 11 fa (spLaw K) := by
  intro base
  have c15 : Ca P w K mg base 1 "is_integer" spIsInt := c_isint D15 T
  have c16 := c_between D16 c15
  have c17 := c_isfrac D17 T c15
  have c18 := c_isnum D18 T c15 c17
  have c19 := c_isres D19 T c18
  have c23 := c_checkres D23 c19
  have c20 : Ca P w K mg base 1 "common" spCommon := c_common D20 T
  have c21 := c_lowest D21 c20
  have c22 := c_pairof D22 T c21
  have c27 : Ca P w K mg base 1 "joined" (spJoined K) := c_joined D27
  have c28 := c_chainof D28 T c27
  have c29 : Ca P w K mg base 1 "led" (spLed K) := c_led D29
  have c30 := c_shown D30 c29 c21
  have c24 : Ca P w K mg base 1 "integer_in" spIntIn := c_intin D24 T
  have c36 := c_piecein D36 T c24 c16
  have c34 := c_ispiece D34 T c16
  have c35 := c_checkpieces D35 T c34
  have gR : CaM P w K mg base 1 fR ["self", "told"] (spRow R) := c_row I0 F
  have gC := c_patinit P0 T F c35 c28
  have c38 := c_patof D38 F MC MR gC gR
  have c37 := c_patin D37 T F MC MR gC gR c36
  have p1 := c_read P1 T c37
  have p3 := c_numbers P3 T F c21
  have p4 := c_call P4 F c23 c30 c22
  have p5 := c_add P5 T F c38
  have p6 := c_turned P6 F c38
  have c42 : Ca P w K mg base 1 "_law_sip" spSip := c_sip D42 T
  have c41 : Ca P w K mg base 1 "_law_cup" (spCup K) := c_cup D41 T
  have c43 := c_pick D43 T c42
  have c44 : Ca P w K mg base 1 "_law_pair" spLow := c_pair D44 T
  have c45 : Ca P w K mg base 1 "_law_below" spBelow := c_below D45
  have c46 := c_front D46 T c44
  have c47 := c_lrow D47 T c42 c43
  have c48 : Ca P w K mg base 1 "_law_words" spWords := c_words D48 T
  have c51 := c_lread D51 F c48 rd st p1
  have c49 := c_end D49 T c42 c44
  have c50 := c_told D50 T c42
  have c52 := c_byn D52 c44
  have c53 := c_right D53 T F O c47 c51 c49 c46 c50 c52 c45 p4 p5 p3
  obtain ⟨f, fd, Fu, hm⟩ := D54.ex
  have e := hfa.symm.trans hm
  cases e
  exact g_law Fu T F O MC gC p4 MT p6 c41 c53
end K12
set_option maxHeartbeats 0
open PySem PySem.W PyProof.Rows in
theorem PySem.Challenge.cw_rungladders_k12_whole_patterns_show_by_t_holds : PySem.Challenge.rw_rungladders_k12_whole_patterns_show_by_t.Holds := by
  w_on; o_law; k_head; (case hw => w_witness2)
  k_fill
  refine K12.walk_alone (l := PySem.Challenge.rw_rungladders_k12_whole_patterns_show_by_t) (k := 11) (sp := K12.spLaw) rfl rfl ⟨rfl, by decide, by decide⟩ (fun w h Y => PySem.W.kIn_of Y) ?F (fun K H a ns hS => ⟨a, ns, rfl, hS, fun _ _ => rfl⟩)
  case F =>
    intro w mg fa h KX G hmg base _ _
    refine' K12.law_all hmg ?T ?F ?O ?MC ?MR ?MT ?rd ?st ?D15 ?D16 ?D17 ?D18 ?D19 ?D20 ?D21 ?D22 ?D23 ?D24 ?D27 ?D28 ?D29 ?D30 ?D34 ?D35 ?D36 ?D37 ?D38 ?D41 ?D42 ?D43 ?D44 ?D45 ?D46 ?D47 ?D48 ?D49 ?D50 ?D51 ?D52 ?D53 ?D54 ?I0 ?P0 ?P1 ?P3 ?P4 ?P5 ?P6 base
    (case F =>
      refine' K12.PF.mk (PySem.W.mg_of KX G ?mC) (PySem.W.mg_of KX G ?mR) (K12.isC_mk ?a1 ?a2 ?a3 ?a4 ?a5 ?a6 ?a7 ?a8) (K12.isC_mk ?b1 ?b2 ?b3 ?b4 ?b5 ?b6 ?b7 ?b8) (K12.tR_mk ?t1 ?t2 ?t3) ?n1 ?n2 ?n3 ?n4
      (case mC => k_is)
      (case mR => k_is)
      (case a1 => k_is)
      (case a2 => k_is)
      (case a3 => k_is)
      (case a4 => k_is)
      (case a5 => k_is)
      (case a6 => k_is)
      (case a7 => k_is)
      (case a8 => k_is)
      (case b1 => k_is)
      (case b2 => k_is)
      (case b3 => k_is)
      (case b4 => k_is)
      (case b5 => k_is)
      (case b6 => k_is)
      (case b7 => k_is)
      (case b8 => k_is)
      (case t1 => k_is)
      (case t2 => k_is)
      (case t3 => k_is)
      (case n1 => (unfold L2.NoAttr; k_is))
      (case n2 => (unfold L2.NoAttr; k_is))
      (case n3 => (unfold L2.NoAttr; k_is))
      (case n4 => (unfold L2.NoAttr; k_is)))
    (case MC =>
      refine' L2.Mk.mk ?m1 ?m2 ?m3 ?m4
      (case m1 => k_is)
      (case m2 => k_is)
      (case m3 => k_is)
      (case m4 => k_is))
    (case MR =>
      refine' L2.Mk.mk ?m1 ?m2 ?m3 ?m4
      (case m1 => k_is)
      (case m2 => k_is)
      (case m3 => k_is)
      (case m4 => k_is))
    (case MT =>
      refine' L2.Meth.mk ?m1 ?m2 ?m3
      (case m1 => k_is)
      (case m2 => k_is)
      (case m3 => k_is))
    (case O =>
      refine' K12.PO.mk (StX.CallO.mk ?o1 ?o2 ?o3) ?o4 ?o5 ?o6 (K12.prop_mk ?o7 ?o8 ?o9 ?o10)
      (case o1 => k_is)
      (case o2 => k_is)
      (case o3 => k_is)
      (case o4 => k_is)
      (case o5 => k_is)
      (case o6 => k_is)
      (case o7 => k_is)
      (case o8 => k_is)
      (case o9 => k_is)
      (case o10 => k_is))
    (case rd =>
      refine' ClX.CRead.mk (mc := .type "type") ?r1 ?r2
      (case r1 => k_is)
      (case r2 => k_is))
    (case st =>
      refine' K12.stat_mk ?s1 ?s2 ?s3
      (case s1 => k_is)
      (case s2 => k_is)
      (case s3 => k_is))
    (case T =>
      refine' K12.Tx.mk (PySem.W.mg_none_of KX G ?z0) (PySem.W.mg_none_of KX G ?z1) (PySem.W.mg_none_of KX G ?z2) (PySem.W.mg_none_of KX G ?z3) (PySem.W.mg_none_of KX G ?z4) (PySem.W.mg_none_of KX G ?z5) (PySem.W.mg_none_of KX G ?z6) (PySem.W.mg_none_of KX G ?z7) (PySem.W.mg_none_of KX G ?z8) (PySem.W.mg_none_of KX G ?z9) (PySem.W.mg_none_of KX G ?z10) (PySem.W.mg_none_of KX G ?z11) (PySem.W.mg_none_of KX G ?z12) (PySem.W.mg_none_of KX G ?z13) (PySem.W.mg_none_of KX G ?z14) (K12.kI_mk KX G ?k1) (K12.kI_mk KX G ?k2) (K12.kI_mk KX G ?k3) (K12.kI_mk KX G ?k4) (K12.kS_mk KX G ?k5) (K12.kI_mk KX G ?k6) (K12.kT_mk KX G ?q1 ?q2 ?q3 ?q4) (K12.kT_mk KX G ?q5 ?q6 ?q7 ?q8) (K12.kT_mk KX G ?q9 ?q10 ?q11 ?q12)
      (case z0 => k_is)
      (case z1 => k_is)
      (case z2 => k_is)
      (case z3 => k_is)
      (case z4 => k_is)
      (case z5 => k_is)
      (case z6 => k_is)
      (case z7 => k_is)
      (case z8 => k_is)
      (case z9 => k_is)
      (case z10 => k_is)
      (case z11 => k_is)
      (case z12 => k_is)
      (case z13 => k_is)
      (case z14 => k_is)
      (case k1 => k_is)
      (case k2 => k_is)
      (case k3 => k_is)
      (case k4 => k_is)
      (case k5 => k_is)
      (case k6 => k_is)
      (case q1 => k_is)
      (case q2 => k_is)
      (case q3 => exact .cons ⟨_, rfl⟩ (.cons ⟨_, rfl⟩ .nil))
      (case q4 => exact (by decide))
      (case q5 => k_is)
      (case q6 => k_is)
      (case q7 => exact .cons ⟨_, rfl⟩ (.cons ⟨_, rfl⟩ (.cons ⟨_, rfl⟩ (.cons ⟨_, rfl⟩ .nil))))
      (case q8 => exact (by decide))
      (case q9 => k_is)
      (case q10 => k_is)
      (case q11 => exact .cons ⟨_, rfl⟩ (.cons ⟨_, rfl⟩ .nil))
      (case q12 => exact (by decide)))
    (case D15 =>
      refine' K12.df_mk KX G ?a ?l ?c ?k
      (case a => k_is)
      (case l => k_is)
      (case c => k_is)
      (case k => k_is))
    (case D16 =>
      refine' K12.df_mk KX G ?a ?l ?c ?k
      (case a => k_is)
      (case l => k_is)
      (case c => k_is)
      (case k => k_is))
    (case D17 =>
      refine' K12.df_mk KX G ?a ?l ?c ?k
      (case a => k_is)
      (case l => k_is)
      (case c => k_is)
      (case k => k_is))
    (case D18 =>
      refine' K12.df_mk KX G ?a ?l ?c ?k
      (case a => k_is)
      (case l => k_is)
      (case c => k_is)
      (case k => k_is))
    (case D19 =>
      refine' K12.df_mk KX G ?a ?l ?c ?k
      (case a => k_is)
      (case l => k_is)
      (case c => k_is)
      (case k => k_is))
    (case D20 =>
      refine' K12.df_mk KX G ?a ?l ?c ?k
      (case a => k_is)
      (case l => k_is)
      (case c => k_is)
      (case k => k_is))
    (case D21 =>
      refine' K12.df_mk KX G ?a ?l ?c ?k
      (case a => k_is)
      (case l => k_is)
      (case c => k_is)
      (case k => k_is))
    (case D22 =>
      refine' K12.df_mk KX G ?a ?l ?c ?k
      (case a => k_is)
      (case l => k_is)
      (case c => k_is)
      (case k => k_is))
    (case D23 =>
      refine' K12.df_mk KX G ?a ?l ?c ?k
      (case a => k_is)
      (case l => k_is)
      (case c => k_is)
      (case k => k_is))
    (case D24 =>
      refine' K12.df_mk KX G ?a ?l ?c ?k
      (case a => k_is)
      (case l => k_is)
      (case c => k_is)
      (case k => k_is))
    (case D27 =>
      refine' K12.df_mk KX G ?a ?l ?c ?k
      (case a => k_is)
      (case l => k_is)
      (case c => k_is)
      (case k => k_is))
    (case D28 =>
      refine' K12.df_mk KX G ?a ?l ?c ?k
      (case a => k_is)
      (case l => k_is)
      (case c => k_is)
      (case k => k_is))
    (case D29 =>
      refine' K12.df_mk KX G ?a ?l ?c ?k
      (case a => k_is)
      (case l => k_is)
      (case c => k_is)
      (case k => k_is))
    (case D30 =>
      refine' K12.df_mk KX G ?a ?l ?c ?k
      (case a => k_is)
      (case l => k_is)
      (case c => k_is)
      (case k => k_is))
    (case D34 =>
      refine' K12.df_mk KX G ?a ?l ?c ?k
      (case a => k_is)
      (case l => k_is)
      (case c => k_is)
      (case k => k_is))
    (case D35 =>
      refine' K12.df_mk KX G ?a ?l ?c ?k
      (case a => k_is)
      (case l => k_is)
      (case c => k_is)
      (case k => k_is))
    (case D36 =>
      refine' K12.df_mk KX G ?a ?l ?c ?k
      (case a => k_is)
      (case l => k_is)
      (case c => k_is)
      (case k => k_is))
    (case D37 =>
      refine' K12.df_mk KX G ?a ?l ?c ?k
      (case a => k_is)
      (case l => k_is)
      (case c => k_is)
      (case k => k_is))
    (case D38 =>
      refine' K12.df_mk KX G ?a ?l ?c ?k
      (case a => k_is)
      (case l => k_is)
      (case c => k_is)
      (case k => k_is))
    (case D41 =>
      refine' K12.df_mk KX G ?a ?l ?c ?k
      (case a => k_is)
      (case l => k_is)
      (case c => k_is)
      (case k => k_is))
    (case D42 =>
      refine' K12.df_mk KX G ?a ?l ?c ?k
      (case a => k_is)
      (case l => k_is)
      (case c => k_is)
      (case k => k_is))
    (case D43 =>
      refine' K12.df_mk KX G ?a ?l ?c ?k
      (case a => k_is)
      (case l => k_is)
      (case c => k_is)
      (case k => k_is))
    (case D44 =>
      refine' K12.df_mk KX G ?a ?l ?c ?k
      (case a => k_is)
      (case l => k_is)
      (case c => k_is)
      (case k => k_is))
    (case D45 =>
      refine' K12.df_mk KX G ?a ?l ?c ?k
      (case a => k_is)
      (case l => k_is)
      (case c => k_is)
      (case k => k_is))
    (case D46 =>
      refine' K12.df_mk KX G ?a ?l ?c ?k
      (case a => k_is)
      (case l => k_is)
      (case c => k_is)
      (case k => k_is))
    (case D47 =>
      refine' K12.df_mk KX G ?a ?l ?c ?k
      (case a => k_is)
      (case l => k_is)
      (case c => k_is)
      (case k => k_is))
    (case D48 =>
      refine' K12.df_mk KX G ?a ?l ?c ?k
      (case a => k_is)
      (case l => k_is)
      (case c => k_is)
      (case k => k_is))
    (case D49 =>
      refine' K12.df_mk KX G ?a ?l ?c ?k
      (case a => k_is)
      (case l => k_is)
      (case c => k_is)
      (case k => k_is))
    (case D50 =>
      refine' K12.df_mk KX G ?a ?l ?c ?k
      (case a => k_is)
      (case l => k_is)
      (case c => k_is)
      (case k => k_is))
    (case D51 =>
      refine' K12.df_mk KX G ?a ?l ?c ?k
      (case a => k_is)
      (case l => k_is)
      (case c => k_is)
      (case k => k_is))
    (case D52 =>
      refine' K12.df_mk KX G ?a ?l ?c ?k
      (case a => k_is)
      (case l => k_is)
      (case c => k_is)
      (case k => k_is))
    (case D53 =>
      refine' K12.df_mk KX G ?a ?l ?c ?k
      (case a => k_is)
      (case l => k_is)
      (case c => k_is)
      (case k => k_is))
    (case D54 =>
      refine' K12.df_mk KX G ?a ?l ?c ?k
      (case a => k_is)
      (case l => k_is)
      (case c => k_is)
      (case k => k_is))
    (case I0 =>
      refine' K12.mt_mk ?l ?c ?k
      (case l => k_is)
      (case c => k_is)
      (case k => k_is))
    (case P0 =>
      refine' K12.mt_mk ?l ?c ?k
      (case l => k_is)
      (case c => k_is)
      (case k => k_is))
    (case P1 =>
      refine' K12.mt_mk ?l ?c ?k
      (case l => k_is)
      (case c => k_is)
      (case k => k_is))
    (case P3 =>
      refine' K12.mt_mk ?l ?c ?k
      (case l => k_is)
      (case c => k_is)
      (case k => k_is))
    (case P4 =>
      refine' K12.mt_mk ?l ?c ?k
      (case l => k_is)
      (case c => k_is)
      (case k => k_is))
    (case P5 =>
      refine' K12.mt_mk ?l ?c ?k
      (case l => k_is)
      (case c => k_is)
      (case k => k_is))
    (case P6 =>
      refine' K12.mt_mk ?l ?c ?k
      (case l => k_is)
      (case c => k_is)
      (case k => k_is))
