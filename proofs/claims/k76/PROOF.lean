import PyProof.Rows.All
import Wide.All
import OpenK.AllK
import Wide.FinOn
import HandS.ForMost
import HandS.Exc
import HandS.TryMany
import HandS.Flow
import HandS.Deep
import HandS.Zip
import HandS.Walk
import HandS.IsInst
import HandS.Gcd
import HandS.TupAny
import HandS.TryOnly
import KE.GoesMore
import KE.GoesEnum
import PySem.Challenge.RW_saidbetween_k76_whole_least_chances_of_m
import PyProof.ReprLen
set_option Elab.async false
set_option maxRecDepth 100000
/-! The mathematics of k76, in plain Lean: speeches, shares, sums, the first least cell. -/
namespace K76

/-- a speech -/
inductive T where
  | e (n : Int)
  | n (r : Bool) (lot : List Int) (a b : T)

def T.go : T → Int → Int → Int
  | .e k, _, _ => k
  | .n r lot a b, i, j => if (if r then i else j) ∈ lot then a.go i j else b.go i j
def T.dep : T → Nat
  | .e _ => 0
  | .n _ _ a b => max a.dep b.dep + 1
def T.size : T → Nat
  | .e _ => 1
  | .n _ _ a b => 1 + a.size + b.size
theorem T.size_pos : ∀ t : T, 1 ≤ t.size
  | .e _ => Nat.le_refl _
  | .n _ _ a b => by show 1 ≤ 1 + a.size + b.size; omega
theorem T.size_dep : ∀ t : T, t.size + 1 ≤ 2 ^ (t.dep + 1)
  | .e _ => by show 1 + 1 ≤ 2 ^ 1; decide
  | .n _ _ a b => by
    have ha := T.size_dep a
    have hb := T.size_dep b
    have h1 : 2 ^ (a.dep + 1) ≤ 2 ^ (max a.dep b.dep + 1) := Nat.pow_le_pow_right (by decide) (by omega)
    have h2 : 2 ^ (b.dep + 1) ≤ 2 ^ (max a.dep b.dep + 1) := Nat.pow_le_pow_right (by decide) (by omega)
    show 1 + a.size + b.size + 1 ≤ 2 ^ (max a.dep b.dep + 1 + 1)
    rw [Nat.pow_succ 2 (max a.dep b.dep + 1)]
    omega
def LotOk (sz : Nat) (lot : List Int) : Prop := (∀ x ∈ lot, 0 ≤ x ∧ x < (sz : Int)) ∧ lot.Pairwise (· < ·) ∧ lot.length ≤ 4
def T.ok (R C : Nat) : T → Prop
  | .e k => 0 ≤ k ∧ k ≤ 9
  | .n r lot a b => LotOk (if r then R else C) lot ∧ a.ok R C ∧ b.ok R C

/-! ### shares -/
def g (a b : Int) : Int := ((Nat.gcd a.natAbs b.natAbs : Nat) : Int)
def red (a b : Int) : Int × Int := (a / g a b, b / g a b)
theorem g_pos {a b : Int} (h : 0 < b) : 0 < g a b := by
  have : 0 < Nat.gcd a.natAbs b.natAbs := Nat.gcd_pos_of_pos_right _ (by omega)
  unfold g; omega
theorem g_eq (a b : Int) : g a b = ((Int.gcd a b : Nat) : Int) := rfl
theorem g_dvd_left (a b : Int) : g a b ∣ a := by rw [g_eq]; exact Int.gcd_dvd_left ..
theorem g_dvd_right (a b : Int) : g a b ∣ b := by rw [g_eq]; exact Int.gcd_dvd_right ..
theorem g_le {a b : Int} (h : 0 < b) : g a b ≤ b := Int.le_of_dvd h (g_dvd_right a b)
theorem g_mul {k a b : Int} (h : 0 < k) : g (k * a) (k * b) = k * g a b := by
  rw [g_eq, g_eq, Int.gcd_mul_left, Int.natCast_mul]
  congr 1
  omega
theorem red_mul {k a b : Int} (h : 0 < k) : red (k * a) (k * b) = red a b := by
  unfold red
  rw [g_mul h, Int.mul_ediv_mul_of_pos _ _ h, Int.mul_ediv_mul_of_pos _ _ h]
theorem red_left {a b : Int} : g a b * (red a b).1 = a := Int.mul_ediv_cancel' (g_dvd_left a b)
theorem red_right {a b : Int} : g a b * (red a b).2 = b := Int.mul_ediv_cancel' (g_dvd_right a b)
theorem red_pos {a b : Int} (h : 0 < b) : 0 < (red a b).2 := by
  have h1 := g_pos (a := a) h
  have h2 := red_right (a := a) (b := b)
  refine Int.pos_of_mul_pos_right (a := g a b) ?_ (by omega)
  omega
theorem red_nonneg {a b : Int} (ha : 0 ≤ a) (h : 0 < b) : 0 ≤ (red a b).1 := Int.ediv_nonneg ha (Int.le_of_lt (g_pos h))
theorem red_gt {a b : Int} (ha : 0 < a) (h : 0 < b) : 0 < (red a b).1 := by
  have h1 := g_pos (a := a) h
  have h2 := red_left (a := a) (b := b)
  refine Int.pos_of_mul_pos_right (a := g a b) ?_ (by omega)
  omega
theorem red_le1 {a b : Int} (ha : 0 ≤ a) : (red a b).1 ≤ a := Int.ediv_le_self _ ha
theorem red_le2 {a b : Int} (h : 0 < b) : (red a b).2 ≤ b := Int.ediv_le_self _ (Int.le_of_lt h)
theorem red_coprime {a b : Int} (h : 0 < b) : g (red a b).1 (red a b).2 = 1 := by
  have h1 := g_pos (a := a) h
  have h2 : g (g a b * (red a b).1) (g a b * (red a b).2) = g a b * g (red a b).1 (red a b).2 := g_mul h1
  rw [red_left, red_right] at h2
  have h3 : g a b * g (red a b).1 (red a b).2 = g a b * 1 := by omega
  exact Int.eq_of_mul_eq_mul_left (by omega) h3
theorem red_zero {b : Int} (h : 0 < b) : red 0 b = (0, 1) := by
  have : g 0 b = b := by unfold g; simp; omega
  unfold red
  rw [this, Int.zero_ediv, Int.ediv_self (by omega)]
theorem red_self {b : Int} (h : 0 < b) : red b b = (1, 1) := by
  have : g b b = b := by unfold g; simp; omega
  unfold red
  rw [this, Int.ediv_self (by omega)]
theorem red_one (a : Int) : red a 1 = (a, 1) := by
  have : g a 1 = 1 := by unfold g; simp
  unfold red
  rw [this, Int.ediv_one]
  rfl
def plusF (p q : Int × Int) : Int × Int := red (p.1 * q.2 + q.1 * p.2) (p.2 * q.2)
def lessF (p q : Int × Int) : Bool := decide (p.1 * q.2 < q.1 * p.2)
theorem plus_red {x w S : Int} (h : 0 < S) : plusF (red x S) (red w S) = red (x + w) S := by
  have a1 := g_pos (a := x) h
  have a2 := g_pos (a := w) h
  have b1 := red_left (a := x) (b := S)
  have b2 := red_right (a := x) (b := S)
  have c1 := red_left (a := w) (b := S)
  have c2 := red_right (a := w) (b := S)
  have k : 0 < g x S * g w S := Int.mul_pos a1 a2
  have e1 : g x S * g w S * ((red x S).1 * (red w S).2 + (red w S).1 * (red x S).2) = S * (x + w) := by
    have q1 : g x S * g w S * ((red x S).1 * (red w S).2) = (g x S * (red x S).1) * (g w S * (red w S).2) := by ac_rfl
    have q2 : g x S * g w S * ((red w S).1 * (red x S).2) = (g w S * (red w S).1) * (g x S * (red x S).2) := by ac_rfl
    rw [Int.mul_add, q1, q2, b1, b2, c1, c2, Int.mul_add, Int.mul_comm x S, Int.mul_comm w S]
  have e2 : g x S * g w S * ((red x S).2 * (red w S).2) = S * S := by
    have q1 : g x S * g w S * ((red x S).2 * (red w S).2) = (g x S * (red x S).2) * (g w S * (red w S).2) := by ac_rfl
    rw [q1, b2, c2]
  have r := red_mul (k := g x S * g w S) (a := (red x S).1 * (red w S).2 + (red w S).1 * (red x S).2) (b := (red x S).2 * (red w S).2) k
  rw [e1, e2, red_mul h] at r
  exact r.symm
theorem less_red {x w S : Int} (h : 0 < S) : lessF (red x S) (red w S) = decide (x < w) := by
  have a1 := g_pos (a := x) h
  have a2 := g_pos (a := w) h
  have b1 := red_left (a := x) (b := S)
  have b2 := red_right (a := x) (b := S)
  have c1 := red_left (a := w) (b := S)
  have c2 := red_right (a := w) (b := S)
  have k : 0 < g x S * g w S := Int.mul_pos a1 a2
  have q1 : g x S * g w S * ((red x S).1 * (red w S).2) = S * x := by
    have q : g x S * g w S * ((red x S).1 * (red w S).2) = (g x S * (red x S).1) * (g w S * (red w S).2) := by ac_rfl
    rw [q, b1, c2, Int.mul_comm]
  have q2 : g x S * g w S * ((red w S).1 * (red x S).2) = S * w := by
    have q : g x S * g w S * ((red w S).1 * (red x S).2) = (g w S * (red w S).1) * (g x S * (red x S).2) := by ac_rfl
    rw [q, c1, b2, Int.mul_comm]
  unfold lessF
  congr 1
  apply propext
  constructor
  · intro hl
    have := Int.mul_lt_mul_of_pos_left hl k
    rw [q1, q2] at this
    exact Int.lt_of_mul_lt_mul_left this (Int.le_of_lt h)
  · intro hl
    have := Int.mul_lt_mul_of_pos_left hl h
    rw [← q1, ← q2] at this
    exact Int.lt_of_mul_lt_mul_left this (Int.le_of_lt k)
theorem sum_red {S : Int} (h : 0 < S) : ∀ (ws : List Int) (x : Int), (ws.map (red · S)).foldl plusF (red x S) = red (x + ws.sum) S
  | [], x => by simp
  | w :: ws, x => by
    show (ws.map (red · S)).foldl plusF (plusF (red x S) (red w S)) = _
    rw [plus_red h, sum_red h ws, List.sum_cons, Int.add_assoc]

/-! ### the law's divisor -/
def euc : Nat → Int → Int → Int
  | 0, a, _ => a
  | k + 1, a, b => if b = 0 then a else euc k b (a.fmod b)
theorem g_step {a b : Int} (ha : 0 ≤ a) (hb : 0 < b) : g b (a.fmod b) = g a b := by
  rw [Int.fmod_eq_emod_of_nonneg _ (Int.le_of_lt hb)]
  have e : (a % b).natAbs = a.natAbs % b.natAbs := by
    have := Int.emod_nonneg a (by omega : b ≠ 0)
    have h2 : ((a % b).natAbs : Int) = ((a.natAbs % b.natAbs : Nat) : Int) := by
      rw [Int.natCast_emod, Int.natAbs_of_nonneg this, Int.natAbs_of_nonneg ha, Int.natAbs_of_nonneg (Int.le_of_lt hb)]
    exact Int.ofNat.inj h2
  unfold g
  rw [e, Nat.gcd_comm, ← Nat.gcd_rec, Nat.gcd_comm]
theorem g_zero {a : Int} (ha : 0 ≤ a) : g a 0 = a := by
  unfold g
  simp
  omega

/-! ### cells, sums, the first least one -/
/-- the weight of those that come to item at a row and a column -/
def wsum (f : T → Bool) : List (Int × T) → Int
  | [] => 0
  | (w, t) :: r => (if f t then w else 0) + wsum f r
def right (m : List (Int × T)) (i j item : Int) : Int := wsum (fun t => decide (t.go i j = item)) m
theorem wsum_filter (f : T → Bool) : ∀ m : List (Int × T), wsum f m = ((m.filter fun p => f p.2).map (·.1)).sum
  | [] => rfl
  | (w, t) :: r => by
    unfold wsum
    rw [wsum_filter f r]
    cases h : f t <;> simp [h]
theorem wsum_append (f : T → Bool) : ∀ m m' : List (Int × T), wsum f (m ++ m') = wsum f m + wsum f m'
  | [], m' => by show wsum f m' = 0 + wsum f m'; omega
  | (w, t) :: r, m' => by
    show (if f t then w else 0) + wsum f (r ++ m') = (if f t then w else 0) + wsum f r + wsum f m'
    rw [wsum_append f r m']; omega
theorem wsum_mul (f : T → Bool) (k : Int) : ∀ m : List (Int × T), wsum f (m.map fun p => (p.1 * k, p.2)) = wsum f m * k
  | [] => by show 0 = 0 * k; omega
  | (w, t) :: r => by
    show (if f t then w * k else 0) + wsum f (r.map _) = ((if f t then w else 0) + wsum f r) * k
    rw [wsum_mul f k r, Int.add_mul]
    split <;> omega
theorem wsum_nonneg (f : T → Bool) : ∀ m : List (Int × T), (∀ p ∈ m, 0 ≤ p.1) → 0 ≤ wsum f m
  | [], _ => by show (0 : Int) ≤ 0; omega
  | (w, t) :: r, h => by
    have h1 := wsum_nonneg f r fun p hp => h p (List.mem_cons_of_mem _ hp)
    have h2 := h (w, t) List.mem_cons_self
    show 0 ≤ (if f t then w else 0) + wsum f r
    simp only at h2
    split <;> omega
theorem wsum_le (f : T → Bool) : ∀ m : List (Int × T), (∀ p ∈ m, 0 ≤ p.1) → wsum f m ≤ (m.map (·.1)).sum
  | [], _ => by show (0 : Int) ≤ 0; omega
  | (w, t) :: r, h => by
    have h1 := wsum_le f r fun p hp => h p (List.mem_cons_of_mem _ hp)
    have h2 := h (w, t) List.mem_cons_self
    show (if f t then w else 0) + wsum f r ≤ _
    rw [List.map_cons, List.sum_cons]
    simp only at h2 ⊢
    split <;> omega

abbrev Cell := Nat × Nat
/-- one cell more -/
def stepB (f : Cell → Int) : Option (Int × Cell) → Cell → Option (Int × Cell)
  | none, c => some (f c, c)
  | some (x, c0), c => if f c < x then some (f c, c) else some (x, c0)
def best (f : Cell → Int) (cs : List Cell) : Option (Int × Cell) := cs.foldl (stepB f) none
theorem best_snoc (f : Cell → Int) (cs : List Cell) (c : Cell) : best f (cs ++ [c]) = stepB f (best f cs) c := by
  unfold best
  rw [List.foldl_append]
  rfl
theorem best_spec (f : Cell → Int) : ∀ cs : List Cell, (cs = [] ∧ best f cs = none) ∨ ∃ x c, best f cs = some (x, c) ∧ c ∈ cs ∧ x = f c ∧ ∀ c' ∈ cs, x ≤ f c' := by
  intro cs
  induction h : cs.length generalizing cs with
  | zero => exact .inl ⟨List.length_eq_zero_iff.mp h, by rw [List.length_eq_zero_iff.mp h]; rfl⟩
  | succ k ih =>
    have hne : cs ≠ [] := by intro z; rw [z] at h; simp at h
    have e : cs = cs.dropLast ++ [cs.getLast hne] := (List.dropLast_concat_getLast hne).symm
    have hl : cs.dropLast.length = k := by rw [List.length_dropLast]; omega
    generalize cs.getLast hne = c at e
    generalize cs.dropLast = ds at e hl
    subst e
    right
    rw [best_snoc]
    rcases ih ds hl with ⟨rfl, q⟩ | ⟨x, c0, q, hm, hx, hle⟩
    · rw [q]
      refine ⟨f c, c, rfl, by simp, rfl, fun c' hc' => ?_⟩
      have : c' = c := by simpa using hc'
      rw [this]; omega
    · rw [q]
      by_cases hlt : f c < x
      · refine ⟨f c, c, by show (if f c < x then _ else _) = _; rw [if_pos hlt], by simp, rfl, fun c' hc' => ?_⟩
        rcases List.mem_append.mp hc' with z | z
        · have := hle c' z; omega
        · have : c' = c := by simpa using z
          rw [this]; omega
      · refine ⟨x, c0, by show (if f c < x then _ else _) = _; rw [if_neg hlt], List.mem_append_left _ hm, hx, fun c' hc' => ?_⟩
        rcases List.mem_append.mp hc' with z | z
        · exact hle c' z
        · have : c' = c := by simpa using z
          rw [this]; omega
/-- the cells of so many rows and columns -/
def rowCells (C i : Nat) : List Cell := (List.range C).map fun j => (i, j)
def cells : Nat → Nat → List Cell
  | 0, _ => []
  | R + 1, C => cells R C ++ rowCells C R
theorem rowCells_length (C i : Nat) : (rowCells C i).length = C := by simp [rowCells]
theorem rowCells_succ (C i : Nat) : rowCells (C + 1) i = rowCells C i ++ [(i, C)] := by simp [rowCells, List.range_succ]
theorem cells_mem {R C : Nat} {c : Cell} : c ∈ cells R C ↔ c.1 < R ∧ c.2 < C := by
  induction R with
  | zero => simp [cells]
  | succ R ih =>
    obtain ⟨i, j⟩ := c
    unfold cells
    rw [List.mem_append, ih]
    simp only [rowCells, List.mem_map, List.mem_range, Prod.mk.injEq]
    constructor
    · rintro (⟨a, b⟩ | ⟨k, hk, rfl, rfl⟩)
      · exact ⟨by omega, b⟩
      · exact ⟨by omega, hk⟩
    · rintro ⟨a, b⟩
      by_cases z : i < R
      · exact .inl ⟨z, b⟩
      · exact .inr ⟨j, b, by omega, rfl⟩
theorem cells_length (R C : Nat) : (cells R C).length = R * C := by
  induction R with
  | zero => simp [cells]
  | succ R ih => unfold cells; rw [List.length_append, ih, rowCells_length, Nat.succ_mul]
theorem cells_ne {R C : Nat} (hR : 0 < R) (hC : 0 < C) : cells R C ≠ [] := by
  intro e
  have : ((0, 0) : Cell) ∈ cells R C := cells_mem.mpr ⟨hR, hC⟩
  rw [e] at this
  cases this
theorem best_some (f : Cell → Int) {R C : Nat} (hR : 0 < R) (hC : 0 < C) : ∃ x c, best f (cells R C) = some (x, c) ∧ c.1 < R ∧ c.2 < C ∧ x = f c ∧ ∀ c' : Cell, c'.1 < R → c'.2 < C → x ≤ f c' := by
  rcases best_spec f (cells R C) with ⟨e, _⟩ | ⟨x, c, e, hm, hx, hle⟩
  · exact absurd e (cells_ne hR hC)
  · obtain ⟨h1, h2⟩ := cells_mem.mp hm
    exact ⟨x, c, e, h1, h2, hx, fun c' a b => hle c' (cells_mem.mpr ⟨a, b⟩)⟩
/-- two mixes put together by halves -/
theorem best_join {f1 f2 f3 : Cell → Int} {S1 S2 : Int} (h1 : 0 ≤ S1) (h2 : 0 ≤ S2) (hf : ∀ c, f3 c = f1 c * S2 + f2 c * S1) {R C : Nat} (hR : 0 < R) (hC : 0 < C)
    {x1 x2 x3 : Int} {c1 c2 c3 : Cell} (e1 : best f1 (cells R C) = some (x1, c1)) (e2 : best f2 (cells R C) = some (x2, c2)) (e3 : best f3 (cells R C) = some (x3, c3)) :
    x1 * S2 + x2 * S1 ≤ x3 := by
  obtain ⟨y1, d1, q1, _, _, _, l1⟩ := best_some f1 hR hC
  obtain ⟨y2, d2, q2, _, _, _, l2⟩ := best_some f2 hR hC
  obtain ⟨y3, d3, q3, a3, b3, z3, _⟩ := best_some f3 hR hC
  rw [e1] at q1; cases q1
  rw [e2] at q2; cases q2
  rw [e3] at q3; cases q3
  rw [z3, hf]
  have m1 := Int.mul_le_mul_of_nonneg_right (l1 c3 a3 b3) h2
  have m2 := Int.mul_le_mul_of_nonneg_right (l2 c3 a3 b3) h1
  omega
end K76
set_option Elab.async false
set_option linter.all false
set_option maxRecDepth 100000
set_option maxHeartbeats 4000000
/-! Own rules beside the hand layer: repr of data, f(k = v, ..) by keywords alone, enumerate of a tuple, zip of tuples in a comprehension, x in a tuple of data, defs below which nothing guards. -/
namespace K76
open PySem PySem.Spec PyProof.Rows L2

/-! ### repr(x), x data of any depth -/
def rRepr (K : PySem.W.Frag) : List V → Hp → VK → Prop := fun xs H Q => ∃ (p : Addr) (d : PyData), xs = [.ref p] ∧ Dp K H (.ref p) d ∧ d.showable = true ∧ d.hasDict = false ∧ d.depth ≤ 60 ∧ d.shown.length ≤ sizeLine ∧ Q (.str d.shown) H
theorem call_repr {X : Cx} (hg : X.A.guards = some []) (hu : X.A.units + 64 < cLine) : CallR X (.builtin "repr") (rRepr X.K) := by
  intro pins s σ H xs us Q I r h
  obtain ⟨p, d, rfl, hd, h1, h2, h3, h4, q⟩ := h
  obtain ⟨u, rfl, ru⟩ := vals1 r
  obtain rfl : u = Value.ref p := ru
  obtain ⟨as, rd⟩ := Dp.reads I d _ _ hd rfl
  exact repr_of_reads' rd h1 (PyData.noDict_hsm h2) hg (by omega) (fun _ _ e => e) (fun h' u tk hk => ⟨.str _, H, I.kept hk, ⟨_, rfl⟩, q⟩) h4

/-! ### f(k = v, ..), no positional argument -/
section
variable {X : Cx} {CX : CXT} {k : Nat} {f : Addr} {fd : FuncData} {ps ks : List Str} {sp : Sp} {E : XK} {x : Str} {p pos : Pos} {kws : List Keyword} {tk : TA} {gg : List Value → List Value → List Value} {gV : List V → List V → List V}
theorem pe_callKw (G : FnOk X.prog X.w X.K X.mg X.base CX k f fd ps sp) (room : Room k X.A) (gl : Gl X x) (at_ : X.mg x = some (.ref f)) (kept : PySem.W.keepIn X.K (.ref f) = true) (bd : KBinds X.K fd ps ks gg gV) (passes : Passes CX X E) (vals : PK X kws tk)
    (hall : (backToKw pos (keywordEach kws X.env)).all (·.1.isSome) = true := by rfl) (hks : (backToKw pos (keywordEach kws X.env)).filterMap (·.1) = ks := by rfl) (hdb : (x == ("__debug__" : Str)) = false := by decide)
    (hpl : ((backTo pos (starEach [] X.env)).any (·.1) || (backToKw pos (keywordEach kws X.env)).any (·.1.isNone)) = false := by rfl) :
    PE X (.Call (.Name x p) [] kws pos) (tCallK sp gV E tNil tk) := by
  constructor
  intro pins s σ H Q I want
  refine wpAny_Call_Name_kw (ld_glob I gl at_ ?_ hdb)
  refine PySem.W.callWith_KW0 (h₀ := X.base) I.ok.mod.kin kept hall ?_ hpl
  refine thn (vals.run pos pins s σ H _ I want) fun ws s2 ⟨zs, H2, J, rz, q2⟩ => ⟨J.kIn, ?_⟩
  rw [hks]
  exact run_fnk (us := []) (vs := []) G room bd passes J .nil rz q2
end

/-! ### for i, x in enumerate(t), t a tuple -/
theorem meets_enumerate_tup (t : Addr) (items : Array Value) :
    Meets (Builtin.«enumerate.__new__» ⟨[.type "enumerate", .ref t], []⟩) (fun _ R s => s.heap.IsTuple t items ∧
      R (.ok (.ret (.ref (s.heap.push { cls := .type "tuple_iterator", data := .fields #[.ref t, .int 0 0] }).objs.size)))
        { s with heap := (s.heap.push { cls := .type "tuple_iterator", data := .fields #[.ref t, .int 0 0] }).push { cls := .type "enumerate", data := .fields #[.none, .bool false, .ref s.heap.objs.size, rawInt 0, .none, .none] } }) := by
  refine .of_wp fun prog w A R s both => ?_
  obtain ⟨hT, want⟩ := both
  obtain ⟨hp, g0, d0, tk0, os0⟩ := s
  have hsub := sub_enumerate
  have q1 : ∀ {A' : Around} {E : Value → Shared → Prop} {Q : Value → Shared → Prop}, Q (.ref hp.objs.size) ⟨hp.push { cls := .type "tuple_iterator", data := .fields #[.ref t, .int 0 0] }, g0, d0, tk0, os0⟩ → wpAny (model prog w) A' (pyIter (.ref t)) Q E ⟨hp, g0, d0, tk0, os0⟩ :=
    fun q => wpAny_pyIter_tuple hT q
  wp_walk using q1
  refine wpAny_stack_any fun st => wpAny_pure ?_
  split
  · rename_i c _ _ _ _ _
    cases (c == Value.type "enumerate")
    all_goals (wp_walk using q1; exact ⟨_, rfl, want⟩)
  · wp_walk using q1
    exact ⟨_, rfl, want⟩
theorem call_enumerate_tup {prog : Program} {w : World} {A : Around} {E : Value → Shared → Prop} {s : Shared} {t : Addr} {items : Array Value} {Q : Value → Shared → Prop} (hT : s.heap.IsTuple t items)
    (h : ∀ h', IsEnum h' (s.heap.objs.size + 1) s.heap.objs.size 0 .none → h'.IsTupleIter s.heap.objs.size t 0 →
      (∀ b o, s.heap.get? b = some o → h'.get? b = some o) → Q (.ref (s.heap.objs.size + 1)) { s with heap := h' }) :
    wpAny (model prog w) A (call (.type "enumerate") [.ref t]) Q E s := by
  refine callType_new F.called_enumerate (by decide) (F.typeCall_enumerate_1 _) (F.newCall_enumerate_1 _) (fun obj => F.args_object_init_2 obj _) F.entry_enumerate_new (meets_enumerate_tup t items) ⟨hT, ?_⟩
  have hz : (s.heap.push { cls := .type "tuple_iterator", data := .fields #[.ref t, .int 0 0] }).objs.size = s.heap.objs.size + 1 := Heap.size_push ..
  show _ ∧ _
  rw [hz]
  have he : IsEnum ((s.heap.push { cls := .type "tuple_iterator", data := .fields #[.ref t, .int 0 0] }).push { cls := .type "enumerate", data := .fields #[.none, .bool false, .ref s.heap.objs.size, rawInt 0, .none, .none] }) (s.heap.objs.size + 1) s.heap.objs.size 0 .none := by
    have z := Heap.get?_push_size (s.heap.push { cls := .type "tuple_iterator", data := .fields #[.ref t, .int 0 0] }) (o := { cls := .type "enumerate", data := .fields #[.none, .bool false, .ref s.heap.objs.size, rawInt 0, .none, .none] }) rfl
    rw [hz] at z
    exact z
  exact ⟨⟨_, he, rfl⟩, h _ he ⟨_, Heap.get?_push_of_some _ (Heap.get?_push_size _ rfl), rfl, rfl⟩ fun b o x => Heap.get?_push_of_some _ (Heap.get?_push_of_some _ x)⟩
/-- the tuple at a as it stands, each item in a new pair -/
def IteT (K : PySem.W.Frag) (a : Addr) : It where
  go := fun i H => ∃ (xs : List V) (x : V), SqT K H a xs ∧ xs[i]? = some x
  yld := fun i H v H' => ∃ T x, v = .ref T ∧ H T = none ∧ H' = upd H T (.tup [.int (i : Nat), x]) ∧ ∀ xs, SqT K H a xs → xs[i]? = some x
  stop := fun i H => ∃ xs : List V, SqT K H a xs ∧ xs.length ≤ i
theorem turn_enumT {P : Program} {w : World} {K : PySem.W.Frag} {elts : List Expr} {kk : Nat} {tpos : Pos} (a e it : Addr) :
    Turn P w K (.Tuple elts kk tpos) (IteT K a) [e, it] e (fun i h => (∃ old, IsEnum h e it ((i : Nat) : Int) old) ∧ h.IsTupleIter it a i ∧ e ≠ it) where
  mem := by simp
  obj := fun i h st b hb => by
    obtain ⟨⟨old, he⟩, ⟨o, ho, hc, hd⟩, _⟩ := st
    have two : b = e ∨ b = it := by simpa using hb
    rcases two with z | z
    · rw [z]; exact ⟨_, he, fun v q => nomatch q⟩
    · rw [z]
      refine ⟨o, ho, fun v q => ?_⟩
      rw [hd] at q
      cases q
  keep := fun i h h' st k => by
    obtain ⟨⟨old, he⟩, hi, hne⟩ := st
    exact ⟨⟨old, k e (by simp) _ he⟩, hi.at fun o q => k it (by simp) o q, hne⟩
  item := by
    intro X hP hw hK hc i pins s σ H E I hf st hgo
    subst hP hw hK
    obtain ⟨⟨old, he⟩, hit, hne⟩ := st
    obtain ⟨xs, x, hq, hx⟩ := hgo
    obtain ⟨its, rv, p, hz⟩ := I.tuple hq
    obtain ⟨u, hu, ru⟩ := rv.get hx
    have hel : e < s.heap.objs.size := Heap.lt_size he
    have hil : it < s.heap.objs.size := by
      obtain ⟨_, q, _⟩ := hit
      exact Heap.lt_size q
    obtain ⟨oa, hoa, hca, na, hda⟩ := id p
    have hae : e ≠ a := fun q => by
      rw [← q, he] at hoa
      cases hoa
      injection hca with z
      exact absurd z (by decide)
    have hai : a ≠ it := fun q => by
      obtain ⟨oi, hoi, hci, _⟩ := id hit
      rw [q, hoi] at hoa
      cases hoa
      rw [hci] at hca
      injection hca with z
      exact absurd z (by decide)
    have D := Draws.tuple (prog := X.prog) (w := X.w) (A := X.A.in1) (I.ok.hd hc) it a hai its.toArray
    have hlt : i < its.toArray.size := by
      have q := (List.getElem?_eq_some_iff.mp hu).1
      simpa using q
    refine wpAny_pyNext_enum_itemD D he ⟨hit, p⟩ hlt hne (by simp [hne, hae]) fun x' h' tk hP' ho hst hT hsz hk => ?_
    have ex : x' = u := by
      have q : its.toArray[i]? = some x' := hP'
      have q2 : its.toArray[i]? = some u := by simpa using hu
      rw [q2] at q
      exact (Option.some.inj q).symm
    subst ex
    refine ⟨_, rfl, wpAny_letOwnedTupleGo_enum (s := { s with heap := h', toks := tk + 1 }) ho fun h'' he' sb => ?_⟩
    have hT2 : h''.get? s.heap.objs.size = some { cls := .type "tuple", data := .seq #[.int i tk, x'] } := (sb.2 _ (Nat.ne_of_gt hel)).trans hT
    have fresh : H s.heap.objs.size = none := I.hok.fresh (Nat.le_refl _)
    have new : ObjOk X.prog X.w (upd H s.heap.objs.size (.tup [.int (i : Nat), x])) h'' s.heap.objs.size (.tup [.int (i : Nat), x]) :=
      ⟨by show 2 ≤ sizeLine; decide, [.int i tk, x'], .cons ⟨_, rfl⟩ (.cons ru .nil), ⟨_, hT2, rfl, _, rfl⟩⟩
    have J : Inv X pins σ (upd H s.heap.objs.size (.tup [.int (i : Nat), x])) { s with heap := h'', toks := tk + 1 } :=
      I.turnedNew (ch := [e, it]) (fun b ob hb q => (sb.2 b (fun z => hb (by simp [z]))).trans (hk b ob (fun z => hb (by simp [z])) (fun z => hb (by simp [z])) q)) hf (Nat.le_refl _) new
    refine ⟨.ref s.heap.objs.size, _, J, rfl, ⟨_, x, rfl, fresh, rfl, fun ys hy => by rw [I.tuple_inj hy hq]; exact hx⟩, ⟨⟨x', ?_⟩, hst.1.at fun o q => (sb.2 it (Ne.symm hne)).trans q, hne⟩, fun b hb => ?_⟩
    · have e1 : ((i + 1 : Nat) : Int) = (i : Int) + 1 := by omega
      rw [e1]
      exact he'
    · have hb' : b < s.heap.objs.size := by
        have two : b = e ∨ b = it := by simpa using hb
        rcases two with z | z
        · rw [z]; exact hel
        · rw [z]; exact hil
      rw [upd_ne (Nat.ne_of_lt hb')]
      exact (hf b hb).1
  done := by
    intro X hP hw hK hc i pins s σ H E I hf st hgo
    subst hP hw hK
    obtain ⟨⟨old, he⟩, hit, hne⟩ := st
    obtain ⟨xs, hq, hx⟩ := hgo
    obtain ⟨its, rv, p, hz⟩ := I.tuple hq
    obtain ⟨f0, f1, f2, f3, f4, f5⟩ := hf it (by simp)
    have hl := rv.length
    obtain ⟨oa, hoa, hca, na, hda⟩ := id p
    have hai : a ≠ it := fun q => by
      obtain ⟨oi, hoi, hci, _⟩ := id hit
      rw [q, hoi] at hoa
      cases hoa
      rw [hci] at hca
      injection hca with z
      exact absurd z (by decide)
    have D := Draws.tuple (prog := X.prog) (w := X.w) (A := X.A.in1) (I.ok.hd hc) it a hai its.toArray
    have hi : i ≥ its.toArray.size := by simp; omega
    unfold pyNext
    have hTy : s.TypeIs (.ref e) "enumerate" := ⟨_, he, rfl⟩
    refine wpAny_bind (wpAny_attempt (wpAny_callSpecial?_slot (name := Str.ofString "__next__") hTy F.slot_enumerate_next (wpAny_call_entry F.slot_enumerate_next hTy F.entry_enumerate_next ?_ (F.args_enumerate_next_1 _))))
    show wpAny _ _ (field (.ref e) 2 >>= _) _ _ _
    refine wpAny_bind (wpAny_field he rfl (x := .ref it) rfl ?_)
    refine wpAny_bind (wpAny_nextOf_tuple_end (I.ok.hd hc) hit p (by simp; omega) fun h' x eb hx' => ?_)
    obtain ⟨o, ho, hcl⟩ := hx'
    refine wpAny_bind (wpAny_isInstance (T := "StopIteration") (b := true) ⟨o, ho, hcl⟩ isSubtype_stop ?_)
    exact wpAny_pure ⟨rfl, I.turned (t' := s.toks) (fun b o hb q => eb b o hb q) f0 f1 f3 f4 f5⟩
  self := fun A i s Q E st h => by
    obtain ⟨⟨_, he⟩, _⟩ := st
    exact wpAny_pyIter_enum he h
def iEnumT (K : PySem.W.Frag) (ta : TA) : TI := fun σ H R => ta σ H fun vs H1 => ∃ a xs, vs = [.ref a] ∧ SqT K H1 a xs ∧ R (IteT K a) H1
theorem pi_enumT {X : Cx} {e : Expr} {ta : TA} {p pos tpos : Pos} {elts : List Expr} {kk : Nat} (gl : Gl X "enumerate") (free : X.mg "enumerate" = none) (ha : PA X [e] ta) (one : starEach [e] X.env = [(false, eval e X.env)] := by rfl) :
    PI X (.Tuple elts kk tpos) (.Call (.Name "enumerate" p) [e] [] pos) (iEnumT X.K ta) := by
  constructor
  intro pins s σ H R I want
  refine Call_ (ld_blt I gl free boot_enumerate (PyProof.Rows.callWith_type1 (thn (ha.run pos pins s σ H _ I want) fun us s1 ⟨vs, H1, I1, r1, q1⟩ => ?_) one rfl))
  obtain ⟨a, xs, ex, hq, q⟩ := q1
  subst ex
  cases r1 with
  | cons r rr =>
    cases rr
    cases r
    obtain ⟨its, rv, p', hz⟩ := I1.tuple hq
    refine call_enumerate_tup (show s1.heap.IsTuple a its.toArray from p') fun h' he hit hk => wpAny_pyIter_enum he ?_
    have I2 : Inv X pins σ H1 { s1 with heap := h' } := I1.kept (t' := s1.toks) hk
    refine ⟨s1.heap.objs.size + 1, [s1.heap.objs.size + 1, s1.heap.objs.size], _, _, H1, rfl, I2, turn_enumT a (s1.heap.objs.size + 1) s1.heap.objs.size, ⟨⟨.none, he⟩, hit, Nat.succ_ne_self _⟩, fun b hb => ?_, q⟩
    have two : b = s1.heap.objs.size + 1 ∨ b = s1.heap.objs.size := by simpa using hb
    have hle : s1.heap.objs.size ≤ b := by
      rcases two with z | z
      · rw [z]; exact Nat.le_add_right _ _
      · rw [z]; exact Nat.le_refl _
    exact I1.fpOk hle (I1.hok.fresh hle)
theorem walk_enumT {K : PySem.W.Frag} {a : Addr} {xs : List V} : Walk (IteT K a) xs.length (fun H => SqT K H a xs) (YPair (fun i => some (.int (i : Nat))) (fun i => xs[i]?)) := by
  refine ⟨fun i H hi h => ⟨xs, xs[i], h, List.getElem?_eq_getElem hi⟩, fun H h => ⟨xs, h, Nat.le_refl _⟩, fun i H x H' hi h y => ?_⟩
  obtain ⟨T, z, rfl, hT, rfl, fz⟩ := y
  exact ⟨T, _, z, rfl, hT, rfl, rfl, fz xs h⟩
theorem walk_zipT {K : PySem.W.Frag} {a b : Addr} {xs ys : List V} {n : Nat} (hn : n = min xs.length ys.length) : Walk (RZ.ItzT K a b) n (fun H => SqT K H a xs ∧ SqT K H b ys) (YPair (fun i => xs[i]?) (fun i => ys[i]?)) := by
  refine ⟨fun i H hi h => ⟨xs, ys, xs[i]'(by omega), ys[i]'(by omega), h.1, h.2, List.getElem?_eq_getElem (by omega), List.getElem?_eq_getElem (by omega)⟩, fun H h => ⟨xs, ys, h.1, h.2, by omega⟩, fun i H x H' hi h y => ?_⟩
  obtain ⟨T, x1, y1, rfl, hT, rfl, f1, f2⟩ := y
  exact ⟨T, x1, y1, rfl, hT, rfl, f1 xs h.1, f2 ys h.2⟩
end K76
set_option Elab.async false
set_option linter.all false
set_option maxRecDepth 100000
set_option maxHeartbeats 4000000
namespace K76
open PySem PySem.Spec PyProof.Rows L2

/-! ### x in t, t a tuple of data -/
def rInT (K : PySem.W.Frag) : R2 := fun x y H Q => ∃ d ds, Dp K H x d ∧ Dp K H y (.tuple ds) ∧ SeqAt.shaped d = true ∧ SeqAt.shaped (.tuple ds) = true ∧ Q (.bl (ds.any fun z => PyData.eqv z d)) H
theorem op_inT {X : Cx} (hu : X.A.units + 65 < cLine) : OpR X (compareOp .In) (rInT X.K) := by
  rintro pins s σ H x y v u Q I rx ry ⟨d, ds, hd, he, sd, se, q⟩
  obtain ⟨as, r1⟩ := Dp.reads I d x v hd rx
  obtain ⟨bs, r2⟩ := Dp.reads I (.tuple ds) y u he ry
  have se' : PyData.canLayAll0 ds = true := SeqAt.canLay_of_shaped (d := .tuple ds) se
  exact SeqAt.in_tuple_reads r2 r1 se' (SeqAt.canLay_of_shaped sd) (room_in_shaped sd hu) ⟨.bl _, H, I, rfl, q⟩

/-! ### a def that is called where nothing guards (repr of a tuple asks) -/
structure FnG (P : Program) (w : World) (K : PySem.W.Frag) (mg : Str → Option Value) (base : Heap) (k : Nat) (f : Addr) (fd : FuncData) (ps : List Str) (sp : Sp) : Prop where
  len : ∀ vs H Q E, sp vs H Q E → vs.length = ps.length
  run : ∀ (A : Around) (outer : List Env) (s : Shared) (H : Hp) (args : Args) (us : List Value) (vs : List V) (Q : VK) (E : XK), A.guards = some [] → Room k A → Env0 P w K mg base A outer s H →
    BindsTo s fd args (ps.zip us) → Vals vs us → sp vs H Q E → codeAny (model P w) A (.call (.ref f) args) (CR CX0 outer P w H s Q E) s
section
variable {P : Program} {w : World} {K : PySem.W.Frag} {mg : Str → Option Value} {base : Heap}
theorem fng_ok {x qual : Str} {st : Stmt} {f : Addr} {fd : FuncData} {N ps : List Str} {k : Nat} {sp : Sp} (F : Fun K x qual st f fd) (S : FnScope N ps (defScope st)) (len : ∀ vs H Q E, sp vs H Q E → vs.length = ps.length)
    (hbody : ∀ (cdv : Value) (A : Around) (outer : List Env) (s : Shared) (H : Hp) (vs : List V) (Q : VK) (E : XK), (A.deeper (envOfC qual (defScope st) s.heap.objs.size f cdv)).guards = some [] → Room k (A.deeper (envOfC qual (defScope st) s.heap.objs.size f cdv)) → sp vs H Q E →
      ∃ t, PSs (cxOf CX0 P w K mg base N qual (defScope st) f cdv A outer s H E).nox (defBody st) t ∧ t { nx := fun _ H' => Q .non H', rt := Q } (start N vs) H) : FnG P w K mg base (k + 1) f fd ps sp := by
  obtain ⟨oc, od, kV, doc, pm, an, cdv, ct, osl, rfl, lk, hcd⟩ := F.ex
  constructor
  · exact len
  intro A outer s H args us vs Q E free room e0 bound r promised
  have nargs := len _ _ _ _ promised
  have inK : K.In s.heap := e0.mod.kin.keeps fun b o e => (e0.bs b o e).1
  have limits : s.heap.NoLimit := e0.mod.nolimit.keeps fun b o e => (e0.bs b o e).1
  have kinds : ∀ y ∈ ps.zip us, (defScope st).names.lookup y.1 = some .local ∨ ((defScope st).names.lookup y.1 = some .cell ∧ ((cellsFrom (s.heap.objs.size + 1) (defScope st).names []).lookup y.1).isSome = true) := by
    rintro ⟨n, v⟩ hy
    rcases S.par n (List.of_mem_zip hy).1 with q | q
    · exact .inl q
    · exact .inr ⟨q, PySem.W.cellsFrom_some _ _ _ (.inl q)⟩
  refine codeAny_call_function room.depth (inK _ _ lk) rfl S.co S.gen rfl (PySem.W.codeRec_of inK hcd) (bound _ _ _ _ ?_)
  refine wpAny_newFunctionEnv_cells S.kind kinds fun env he s1 entered => ?_
  subst he
  refine ⟨limits.keeps entered.toInCall.keep, codeAny_func ?_⟩
  obtain ⟨t, ht, reads⟩ := hbody cdv A outer s H vs Q E free (room.deeper _) promised
  have I := inv_start (CX := CX0) (E := E) S room.hd e0 nargs r entered
  refine wpAny_mono (ht.nox.run [] s1 (start N vs) H _ I reads) (fun fl s' ended => ?_) fun e s' bad => bad
  have close : ∀ {σ' : L2.St} {H' : Hp} {v : V} {u : Value}, Inv (cxOf CX0 P w K mg base N qual (defScope st) f cdv A outer s H E) [] σ' H' s' → RelV v u → Q v H' → CE outer P w H s Q u s' := by
    intro σ' H' v u J rv q
    exact ⟨v, H', J.os, J.bare, J.base, J.hok, rv, q⟩
  match fl, ended with
  | .ret u, ⟨v, σ', H', J, rv, q⟩ => exact close J rv q
  | .next, ⟨σ', H', J, q⟩ => exact close (v := V.non) (u := Value.none) J rfl q
  | .brk, ⟨_, _, _, q⟩ => exact False.elim q
  | .cont, ⟨_, _, _, q⟩ => exact False.elim q
end
section
variable {X : Cx} {k : Nat} {f : Addr} {fd : FuncData} {ps : List Str} {sp : Sp} {E : XK} {x : Str} {p pos : Pos} {e : Expr} {es : List Expr} {t : TA}
theorem pe_callG (G : FnG X.prog X.w X.K X.mg X.base k f fd ps sp) (free : X.A.guards = some []) (room : Room k X.A) (gl : Gl X x) (at_ : X.mg x = some (.ref f)) (kept : PySem.W.keepIn X.K (.ref f) = true) (bd : Binds X.K fd ps [])
    (ha : PA X (e :: es) t) (hdb : (x == ("__debug__" : Str)) = false := by decide) (he : starEach (e :: es) X.env = (false, eval e X.env) :: starEach es X.env := by rfl) (hpl : (backTo pos (starEach es X.env)).any (·.1) = false := by rfl) :
    PE X (.Call (.Name x p) (e :: es) [] pos) (tCall sp [] E t) := by
  constructor
  intro pins s σ H Q I want
  refine wpAny_Call_Name_kw (ld_glob I gl at_ ?_ hdb)
  refine PySem.W.callWith_K (h₀ := X.base) I.ok.mod.kin kept (thn (ha.run pos pins s σ H _ I want) fun us s1 ⟨vs, H1, J, r, q⟩ => ⟨J.kIn, ?_⟩) he hpl
  have q' : sp vs H1 Q E := by
    have z : sp (vs ++ []) H1 Q E := q
    rw [List.append_nil] at z
    exact z
  have hl : us.length = ps.length := by
    rw [← r.length]
    exact G.len _ _ _ _ q'
  have hb := bd s1 us J.kIn (by rw [List.append_nil]; exact hl)
  rw [List.append_nil] at hb
  show wpAny _ _ (call (.ref f) us) _ _ s1
  refine wpAny_call (codeAny_mono (G.run X.A X.stack s1 H1 ⟨us, []⟩ us vs Q E free room J.env0 hb r q') fun res s' hq => ?_)
  match res, hq with
  | .error e, hq => exact False.elim hq
  | .ok (.ret u), hq => exact J.after hq
  | .ok .next, hq => exact False.elim hq
  | .ok .brk, hq => exact False.elim hq
  | .ok .cont, hq => exact False.elim hq
end
/-- the law's call, at the heap behind the top -/
theorem law_callG {P : Program} {w : World} {K : PySem.W.Frag} {mg mb : Str → Option Value} {k : Nat} {fa a : Addr} {fd : FuncData} {x : Str} {sp : Sp} {s₁ : Shared} {vs : List Value} {ns : List Int}
    (inK : K.In s₁.heap) (glob : s₁.heap.Ns mainGlobals mg) (blt : s₁.heap.Ns builtinsNs mb) (boot : ∀ x : Str, x ≠ "__name__" → mb x = bootBuiltins x) (lim : s₁.heap.NoLimit) (nogen : s₁.gens = #[])
    (ha : s₁.heap.get? a = some { cls := .type "list", data := .seq vs.toArray }) (numbers : IntsAre vs ns) (short : ns.length ≤ sizeLine) (room : Room k callerA)
    (F : ∀ base : Heap, K.In base → base.Ns mainGlobals mg → FnG P w K mg base k fa fd [x] sp) (binds : ∀ (s : Shared) (u : Value), BindsTo s fd ⟨[u], []⟩ [(x, u)])
    (promise : ∀ H : Hp, SqL K H a (ns.map V.int) → sp [.ref a] H (fun v _ => v = .bl true) fun _ _ _ => False) :
    codeAny (model P w) callerA (.call (.ref fa) ⟨[.ref a], []⟩) (fun r s' => r = .ok (.ret (.bool true)) ∧ OldK s₁.heap s'.heap ∧ s'.os = s₁.os ∧ AllBare s'.gens) s₁ := by
  have rv := vals_ints numbers
  have nlen := numbers.length
  -- the script is tracked alone, locked; or nothing is, where it is the module's own
  suffices main : ∀ H : Hp, (∀ b u, H b = some u → b = a ∧ K.lookup a = none ∧ ∃ o xs, u = .frz o (.lst xs)) → SqL K H a (ns.map V.int) → HOk P w H s₁.heap → codeAny (model P w) callerA (.call (.ref fa) ⟨[.ref a], []⟩) (fun r s' => r = .ok (.ret (.bool true)) ∧ OldK s₁.heap s'.heap ∧ s'.os = s₁.os ∧ AllBare s'.gens) s₁ by
    cases look : K.lookup a with
    | some o =>
      have e := inK a o look
      rw [ha] at e
      cases e
      refine main (fun _ => none) (fun b u z => nomatch z) (.inr ⟨_, vs.toArray, _, look, rfl, rfl, rfl, ?_, by simpa using rv⟩) fun b u z => nomatch z
      rw [List.size_toArray, nlen]
      exact short
    | none =>
      have only : ∀ b u, (if b = a then some (HO.frz { cls := .type "list", data := .seq vs.toArray } (.lst (ns.map V.int))) else none) = some u → b = a ∧ u = HO.frz { cls := .type "list", data := .seq vs.toArray } (.lst (ns.map V.int)) := by
        intro b u z
        by_cases hb : b = a
        · rw [if_pos hb] at z
          exact ⟨hb, (Option.some.inj z).symm⟩
        · rw [if_neg hb] at z
          cases z
      refine main (fun b => if b = a then some (.frz { cls := .type "list", data := .seq vs.toArray } (.lst (ns.map V.int))) else none) (fun b u z => ?_) (.inl (.inr ⟨_, if_pos rfl⟩)) fun b u z => ?_
      · obtain ⟨h1, h2⟩ := only b u z
        exact ⟨h1, look, _, _, h2⟩
      · obtain ⟨h1, h2⟩ := only b u z
        subst h1 h2
        refine ⟨ha, ?_, vs, _, rv, ha⟩
        rw [List.length_map]
        exact short
  intro H tracked seq held
  have hidden : ∀ {b : Addr} {o : Obj}, s₁.heap.get? b = some o → H b = none → (hidT s₁.heap H).get? b = some o := fun e n => hidT_get e n
  have nodict : ∀ {b : Addr} {o : Obj} {es : Array DictEntry} {ep : Nat}, s₁.heap.get? b = some o → o.data = .dict es ep → H b = none := by
    intro b o es ep e d
    cases q : H b with
    | none => rfl
    | some u =>
      obtain ⟨h1, _⟩ := tracked b u q
      subst h1
      rw [ha] at e
      cases e
      cases d
  have spaces : ∀ {b : Addr} {m : Str → Option Value}, s₁.heap.Ns b m → (hidT s₁.heap H).Ns b m := by
    rintro b m ⟨o, es, ep, e, d, r⟩
    exact ⟨o, es, ep, hidden e (nodict e d), d, r⟩
  have kin : K.In (hidT s₁.heap H) := by
    intro b o e
    refine hidden (inK b o e) ?_
    cases q : H b with
    | none => rfl
    | some u =>
      obtain ⟨h1, h2, _⟩ := tracked b u q
      subst h1
      rw [h2] at e
      cases e
  obtain ⟨mc, l1, l2⟩ := lim
  have module_ : Mod K mg (hidT s₁.heap H) := ⟨kin, spaces glob, ⟨mb, spaces blt, boot⟩, ⟨mc, spaces l1, l2⟩⟩
  have e0 : Env0 P w K mg (hidT s₁.heap H) callerA [] s₁ H := by
    refine ⟨rfl, module_, fun b o e => of_hidT e, Nat.le_of_eq (hidT_size _ _), trivial, fun b hb => ?_, held, .of_eq nogen⟩
    cases (show b ∈ ([] : List Addr) from hb)
  refine codeAny_mono ((F _ kin (spaces glob)).run callerA [] s₁ H ⟨[.ref a], []⟩ [.ref a] [.ref a] _ _ rfl room e0 (binds s₁ (.ref a)) (.cons rfl .nil) (promise H seq)) fun r s' back => ?_
  match r, back with
  | .error e, back => exact False.elim back
  | .ok .next, back => exact False.elim back
  | .ok .brk, back => exact False.elim back
  | .ok .cont, back => exact False.elim back
  | .ok (.ret u), ⟨v, H', os, bare, un, held', rel, q⟩ =>
    have q' : v = .bl true := q
    subst q'
    obtain rfl : u = Value.bool true := rel
    refine ⟨rfl, OldK.of_keep fun b o e => ?_, os, bare⟩
    cases q : H b with
    | none => exact un.keep b o e q (by intro z; cases (show b ∈ ([] : List Addr) from z)) (by simp)
    | some u =>
      obtain ⟨_, _, ob, xs, rfl⟩ := tracked b u q
      have z2 := un.frzs b ob _ q
      obtain ⟨e1, _⟩ := held b _ q
      obtain ⟨e2, _⟩ := held' b _ z2
      rw [e] at e1
      cases e1
      exact e2
theorem walk_ofG {l : PySem.W.OpenLaw} {n k : Nat} {q : Program} {loose : List Str} {XP : (Str → Option Value) → Heap → Prop} {YP : World → Heap → Prop} {d : DefRec} {K : Params → PySem.W.Frag} {sp : PySem.W.Frag → Sp} {x : Str}
    (most : l.most = some n) (small : n ≤ sizeLine) (nodef : d.params.defaults = []) (room : Room k callerA) (hY : ∀ (w : World) (h : Heap), YP w h → (K w.params).In h)
    (F : ∀ (w : World) (mg : Str → Option Value) (fa : Addr) (h : Heap), (K w.params).In h → h.Ns mainGlobals mg → mg d.name = some (.ref fa) →
      ∃ fd : FuncData, (∀ (s : Shared) (u : Value), BindsTo s fd ⟨[u], []⟩ [(x, u)]) ∧ ∀ base : Heap, (K w.params).In base → base.Ns mainGlobals mg → FnG l.prog w (K w.params) mg base k fa fd [x] (sp (K w.params)))
    (promise : ∀ (K : PySem.W.Frag) (H : Hp) (a : Addr) (ns : List Int), ns.length ≤ n → SqL K H a (ns.map V.int) → sp K [.ref a] H (fun v _ => v = .bl true) fun _ _ _ => False) :
    PySem.W.WalkO q loose XP YP l.row.toRowW d [] (fun f vs => PySem.call f vs) := by
  refine Att.attach_call most nodef ?_
  intro w s₀ s₁ mg mb fa o pm cd doc a vs ns G Y ho hd hcd hmg hobj hints hlen hg
  obtain ⟨fd, hb, hF⟩ := F w mg fa _ (hY w _ Y) G.T.g hmg
  exact law_callG (hY w _ Y) G.T.g G.T.b G.T.builtins G.T.nolimit hg hobj hints (Nat.le_trans hlen small) room hF hb fun H hS => promise _ H a ns hlen hS
end K76
set_option Elab.async false
set_option linter.all false
set_option maxRecDepth 100000
set_option maxHeartbeats 4000000
namespace K76
open PySem PySem.Spec PyProof.Rows L2

abbrev top (i : Nat) : Stmt := PySem.Challenge.pw_saidbetween_k76_whole_least_chances_of_m.main.body.getD i (.Pass ⟨0, 0, 0, 0⟩)

/-! ### a def of the top, and what it keeps when it is called -/
structure Df (K : PySem.W.Frag) (mg : Str → Option Value) (x : Str) (st : Stmt) : Prop where
  ex : ∃ (f : Addr) (fd : FuncData), mg x = some (.ref f) ∧ Fun K x x st f fd
structure Cal (P : Program) (w : World) (K : PySem.W.Frag) (mg : Str → Option Value) (base : Heap) (x : Str) (k : Nat) (ps : List Str) (sp : Sp) : Prop where
  ex : ∃ (f : Addr) (fd : FuncData), mg x = some (.ref f) ∧ PySem.W.keepIn K (.ref f) = true ∧ Binds K fd ps [] ∧ FnOk P w K mg base CX0 k f fd ps sp
structure CalG (P : Program) (w : World) (K : PySem.W.Frag) (mg : Str → Option Value) (base : Heap) (x : Str) (k : Nat) (ps : List Str) (sp : Sp) : Prop where
  ex : ∃ (f : Addr) (fd : FuncData), mg x = some (.ref f) ∧ PySem.W.keepIn K (.ref f) = true ∧ Binds K fd ps [] ∧ FnG P w K mg base k f fd ps sp
section
variable {P : Program} {w : World} {K : PySem.W.Frag} {mg : Str → Option Value} {base : Heap} {x : Str} {st : Stmt} {N ps : List Str} {k : Nat} {sp : Sp}
theorem Cal.mono {j : Nat} (C : Cal P w K mg base x j ps sp) (h : j ≤ k) : Cal P w K mg base x k ps sp := by
  obtain ⟨f, fd, h1, h2, h3, h4⟩ := C.ex
  exact ⟨f, fd, h1, h2, h3, h4.mono h⟩
theorem cal_mk (D : Df K mg x st) (S : FnScope N ps (defScope st)) (len : ∀ vs H Q E, sp vs H Q E → vs.length = ps.length)
    (hb : ∀ (kV doc pm : Value) (an : Option Addr) (cdv ct : Value) (us : List Value), us.length = ps.length → bindArgs (PySem.W.fnOf x x (defArgs st) (defBody st) (defScope st) .none kV doc pm an cdv ct) ⟨us, []⟩ = pure (ps.zip us))
    (body : ∀ (f : Addr) (cdv : Value) (A : Around) (outer : List Env) (s : Shared) (H : Hp) (vs : List V) (Q : VK) (E : XK), Room k (A.deeper (envOfC x (defScope st) s.heap.objs.size f cdv)) → sp vs H Q E →
      ∃ t, PSs (cxOf CX0 P w K mg base N x (defScope st) f cdv A outer s H E).nox (defBody st) t ∧ t { nx := fun _ H' => Q .non H', rt := Q } (start N vs) H) : Cal P w K mg base x (k + 1) ps sp := by
  obtain ⟨f, fd, h1, F⟩ := D.ex
  exact ⟨f, fd, h1, F.kp, F.binds hb, F.ok S len (body f)⟩
/-- .. with the def itself told -/
structure CalF (P : Program) (w : World) (K : PySem.W.Frag) (mg : Str → Option Value) (base : Heap) (x : Str) (st : Stmt) (k : Nat) (ps : List Str) (sp : Sp) : Prop where
  ex : ∃ (f : Addr) (fd : FuncData), mg x = some (.ref f) ∧ Fun K x x st f fd ∧ FnOk P w K mg base CX0 k f fd ps sp
theorem calF_mk (D : Df K mg x st) (S : FnScope N ps (defScope st)) (len : ∀ vs H Q E, sp vs H Q E → vs.length = ps.length)
    (body : ∀ (f : Addr) (cdv : Value) (A : Around) (outer : List Env) (s : Shared) (H : Hp) (vs : List V) (Q : VK) (E : XK), Room k (A.deeper (envOfC x (defScope st) s.heap.objs.size f cdv)) → sp vs H Q E →
      ∃ t, PSs (cxOf CX0 P w K mg base N x (defScope st) f cdv A outer s H E).nox (defBody st) t ∧ t { nx := fun _ H' => Q .non H', rt := Q } (start N vs) H) : CalF P w K mg base x st (k + 1) ps sp := by
  obtain ⟨f, fd, h1, F⟩ := D.ex
  exact ⟨f, fd, h1, F, F.ok S len (body f)⟩
theorem CalF.cal (C : CalF P w K mg base x st k ps sp)
    (hb : ∀ (kV doc pm : Value) (an : Option Addr) (cdv ct : Value) (us : List Value), us.length = ps.length → bindArgs (PySem.W.fnOf x x (defArgs st) (defBody st) (defScope st) .none kV doc pm an cdv ct) ⟨us, []⟩ = pure (ps.zip us)) : Cal P w K mg base x k ps sp := by
  obtain ⟨f, fd, h1, F, ok⟩ := C.ex
  exact ⟨f, fd, h1, F.kp, F.binds hb, ok⟩
theorem calG_mk (D : Df K mg x st) (S : FnScope N ps (defScope st)) (len : ∀ vs H Q E, sp vs H Q E → vs.length = ps.length)
    (hb : ∀ (kV doc pm : Value) (an : Option Addr) (cdv ct : Value) (us : List Value), us.length = ps.length → bindArgs (PySem.W.fnOf x x (defArgs st) (defBody st) (defScope st) .none kV doc pm an cdv ct) ⟨us, []⟩ = pure (ps.zip us))
    (body : ∀ (f : Addr) (cdv : Value) (A : Around) (outer : List Env) (s : Shared) (H : Hp) (vs : List V) (Q : VK) (E : XK), (A.deeper (envOfC x (defScope st) s.heap.objs.size f cdv)).guards = some [] → Room k (A.deeper (envOfC x (defScope st) s.heap.objs.size f cdv)) → sp vs H Q E →
      ∃ t, PSs (cxOf CX0 P w K mg base N x (defScope st) f cdv A outer s H E).nox (defBody st) t ∧ t { nx := fun _ H' => Q .non H', rt := Q } (start N vs) H) : CalG P w K mg base x (k + 1) ps sp := by
  obtain ⟨f, fd, h1, F⟩ := D.ex
  exact ⟨f, fd, h1, F.kp, F.binds hb, fng_ok F S len (body f)⟩
end
section
variable {X : Cx} {k j : Nat} {ps : List Str} {sp : Sp} {x : Str} {p pos : Pos} {e : Expr} {es : List Expr} {t : TA}
theorem pe_cal (C : Cal X.prog X.w X.K X.mg X.base x j ps sp) (hr : Room k X.A) (hjk : j ≤ k) (hg : Gl X x) (ha : PA X (e :: es) t) (hdb : (x == ("__debug__" : Str)) = false := by decide)
    (he : starEach (e :: es) X.env = (false, eval e X.env) :: starEach es X.env := by rfl) (hpl : (backTo pos (starEach es X.env)).any (·.1) = false := by rfl) : PE X (.Call (.Name x p) (e :: es) [] pos) (tCall sp [] E0 t) := by
  obtain ⟨f, fd, h1, h2, h3, h4⟩ := C.ex
  exact pe_call h4 (hr.mono hjk) hg h1 h2 h3 .nil pass0 ha hdb he hpl
theorem pe_calG (C : CalG X.prog X.w X.K X.mg X.base x j ps sp) (free : X.A.guards = some []) (hr : Room k X.A) (hjk : j ≤ k) (hg : Gl X x) (ha : PA X (e :: es) t) (hdb : (x == ("__debug__" : Str)) = false := by decide)
    (he : starEach (e :: es) X.env = (false, eval e X.env) :: starEach es X.env := by rfl) (hpl : (backTo pos (starEach es X.env)).any (·.1) = false := by rfl) : PE X (.Call (.Name x p) (e :: es) [] pos) (tCall sp [] E0 t) := by
  obtain ⟨f, fd, h1, h2, h3, h4⟩ := C.ex
  exact pe_callG h4 free (hr.mono hjk) hg h1 h2 h3 ha hdb he hpl
end

/-! ### what the top has written beside the defs -/
structure Txt (K : PySem.W.Frag) (mg : Str → Option Value) : Prop where
  gcd : mg "gcd" = some (.builtin "math.gcd")
  none_ : ∃ a, mg "NONE" = some (.ref a) ∧ ∀ H : Hp, SqT K H a [.int 0, .int 1]
  whole : ∃ a, mg "WHOLE" = some (.ref a) ∧ ∀ H : Hp, SqT K H a [.int 1, .int 1]
  sideH : ∃ t, mg "MOST_SIDE_hands" = some (.int 6 t)
  integer : ∃ t, mg "MOST_INTEGER" = some (.int 9 t)
  depth : ∃ t, mg "MOST_DEPTH" = some (.int 60 t)
  parts : ∃ t, mg "MOST_PARTS" = some (.int 400 t)
  sideC : ∃ t, mg "MOST_SIDE_chances" = some (.int 4 t)
  bits : ∃ t, mg "MOST_BITS" = some (.int 2 t)
  pairs : ∃ t, mg "MOST_PAIRS" = some (.int 400 t)
  isi : mg "isinstance" = none
  len : mg "len" = none
  tuple : mg "tuple" = none
  int : mg "int" = none
  bool : mg "bool" = none
  str : mg "str" = none
  zip : mg "zip" = none
  enumerate : mg "enumerate" = none
  max : mg "max" = none
  range : mg "range" = none
  list : mg "list" = none
  sum : mg "sum" = none
  repr : mg "repr" = none

/-! ### heaps -/
theorem same_new {H : Hp} {p : Addr} (h : H p = none) (o : HO) : Same H (upd H p o) := fun b u q => by rw [upd_ne (ne_of_none q h)]; exact q
theorem _root_.L2.Same.sqt {K : PySem.W.Frag} {H H' : Hp} {a : Addr} {xs : List V} (e : Same H H') (h : SqT K H a xs) : SqT K H' a xs := by
  rcases h with (h | ⟨o, h⟩) | h
  · exact .inl (.inl (e _ _ h))
  · exact .inl (.inr ⟨o, e _ _ h⟩)
  · exact .inr h
/-- the tuples stay -/
def TK (K : PySem.W.Frag) (H H' : Hp) : Prop := ∀ a xs, SqT K H a xs → SqT K H' a xs
theorem _root_.L2.Same.tk {K : PySem.W.Frag} {H H' : Hp} (e : Same H H') : TK K H H' := fun _ _ h => L2.Same.sqt e h
theorem TK.refl {K : PySem.W.Frag} (H : Hp) : TK K H H := fun _ _ h => h
theorem TK.trans {K : PySem.W.Frag} {H H1 H2 : Hp} (a : TK K H H1) (b : TK K H1 H2) : TK K H H2 := fun c xs h => b c xs (a c xs h)
theorem sqt_new {K : PySem.W.Frag} {H : Hp} {p : Addr} {xs : List V} : SqT K (upd H p (.tup xs)) p xs := .inl (.inl upd_same)
/-- a share -/
def Fr (K : PySem.W.Frag) (H : Hp) (v : V) (f : Int × Int) : Prop := ∃ p, v = .ref p ∧ SqT K H p [.int f.1, .int f.2]
theorem Fr.tk {K : PySem.W.Frag} {H H' : Hp} {v : V} {f : Int × Int} (h : Fr K H v f) (e : TK K H H') : Fr K H' v f := by
  obtain ⟨p, h1, h2⟩ := h
  exact ⟨p, h1, e _ _ h2⟩
theorem Fr.same {K : PySem.W.Frag} {H H' : Hp} {v : V} {f : Int × Int} (h : Fr K H v f) (e : Same H H') : Fr K H' v f := h.tk (L2.Same.tk e)
/-- a speech -/
def word (r : Bool) : Str := if r then "row" else "column"
def TAt (K : PySem.W.Frag) (H : Hp) : V → T → Prop
  | v, .e k => v = .int k
  | v, .n r lot a b => ∃ (p q : Addr) (va vb : V), v = .ref p ∧ SqT K H p [.str (word r), .ref q, va, vb] ∧ SqT K H q (lot.map V.int) ∧ TAt K H va a ∧ TAt K H vb b
theorem TAt.tk {K : PySem.W.Frag} {H H' : Hp} (e : TK K H H') : ∀ {v : V} {t : T}, TAt K H v t → TAt K H' v t
  | _, .e _, h => h
  | _, .n _ _ _ _, ⟨p, q, va, vb, h1, h2, h3, h4, h5⟩ => ⟨p, q, va, vb, h1, e _ _ h2, e _ _ h3, TAt.tk e h4, TAt.tk e h5⟩
/-- items one by one -/
inductive All2 {α β : Type} (R : α → β → Prop) : List α → List β → Prop
  | nil : All2 R [] []
  | cons {a : α} {b : β} {l : List α} {m : List β} : R a b → All2 R l m → All2 R (a :: l) (b :: m)
section
variable {α β : Type} {R S : α → β → Prop}
theorem All2.len {l : List α} {m : List β} (h : All2 R l m) : l.length = m.length := by
  induction h with
  | nil => rfl
  | cons _ _ ih => simp [ih]
theorem All2.mono {l : List α} {m : List β} (h : All2 R l m) (f : ∀ a b, R a b → S a b) : All2 S l m := by
  induction h with
  | nil => exact .nil
  | cons r _ ih => exact .cons (f _ _ r) ih
theorem All2.get {l : List α} {m : List β} (h : All2 R l m) {i : Nat} {a : α} (e : l[i]? = some a) : ∃ b, m[i]? = some b ∧ R a b := by
  induction h generalizing i with
  | nil => simp at e
  | cons r _ ih =>
    cases i with
    | zero => simp at e; subst e; exact ⟨_, rfl, r⟩
    | succ i => simp at e; obtain ⟨b, h1, h2⟩ := ih e; exact ⟨b, by simpa using h1, h2⟩
theorem All2.getL {l : List α} {m : List β} (h : All2 R l m) {i : Nat} {b : β} (e : m[i]? = some b) : ∃ a, l[i]? = some a ∧ R a b := by
  induction h generalizing i with
  | nil => simp at e
  | cons r _ ih =>
    cases i with
    | zero => simp at e; subst e; exact ⟨_, rfl, r⟩
    | succ i => simp at e; obtain ⟨b, h1, h2⟩ := ih e; exact ⟨b, by simpa using h1, h2⟩
theorem All2.append {l l' : List α} {m m' : List β} (h : All2 R l m) (h' : All2 R l' m') : All2 R (l ++ l') (m ++ m') := by
  induction h with
  | nil => exact h'
  | cons r _ ih => exact .cons r ih
theorem All2.snoc {l : List α} {m : List β} {a : α} {b : β} (h : All2 R l m) (r : R a b) : All2 R (l ++ [a]) (m ++ [b]) := h.append (.cons r .nil)
end
theorem take_snoc {α : Type} : ∀ {l : List α} {i : Nat} {x : α}, l[i]? = some x → l.take (i + 1) = l.take i ++ [x]
  | [], i, x, h => by simp at h
  | a :: l, 0, x, h => by
    have e : a = x := by simpa using h
    subst e
    simp
  | a :: l, i + 1, x, h => by
    have ih := take_snoc (l := l) (i := i) (x := x) (by simpa using h)
    simp [ih]
/-! ### isinstance -/
theorem ty_tup {K : PySem.W.Frag} {H : Hp} {a : Addr} {xs : List V} (h : SqT K H a xs) : TyX K H (.ref a) (.type "tuple") := by
  rcases h with (h | ⟨o, h⟩) | ⟨o, its, n, h1, h2, _⟩
  · exact .base (.tup h)
  · exact .fTuple h
  · exact .kTuple h1 h2
theorem ty_int {K : PySem.W.Frag} {H : Hp} (i : Int) : TyX K H (.int i) (.type "int") := .base (.int i)
theorem ty_str {K : PySem.W.Frag} {H : Hp} (z : Str) : TyX K H (.str z) (.type "str") := .base (.str z)
theorem isi_go {K : PySem.W.Frag} {H : Hp} {x : V} {t n : String} {b : Bool} {Q : VK} (ty : TyX K H x (.type t)) (h : kitB t n = some b) (q : Q (.bl b) H) : rIsi K [x, .ty n] H Q :=
  ⟨x, .ty n, _, _, b, rfl, .ty n, ty, kit_ty h, q⟩
theorem k_tt : kitB "tuple" "tuple" = some true := by decide +kernel
theorem k_it : kitB "int" "tuple" = some false := by decide +kernel
theorem k_ii : kitB "int" "int" = some true := by decide +kernel
theorem k_ti : kitB "tuple" "int" = some false := by decide +kernel
theorem k_ib : kitB "int" "bool" = some false := by decide +kernel
theorem k_ss : kitB "str" "str" = some true := by decide +kernel
/-- isinstance(e, c), c a built-in class -/
theorem pe_isi {X : Cx} {e : Expr} {te : TE} {n : String} {y : Str} {p p2 pos : Pos} (he : PE X e te) (hi : X.mg "isinstance" = none) (gi : Gl X "isinstance") (gy : Gl X y) (hy : X.mg y = none) (hv : bootBuiltins y = some (.type n)) (hn : y ≠ "__name__" := by decide)
    (hdb : (y == ("__debug__" : Str)) = false := by decide)
    (hs1 : starEach (e :: [.Name y p2]) X.env = (false, eval e X.env) :: starEach [.Name y p2] X.env := by rfl) (hs2 : starEach [.Name y p2] X.env = (false, eval (.Name y p2) X.env) :: starEach [] X.env := by rfl)
    (hpl : (backTo pos (starEach [.Name y p2] X.env)).any (·.1) = false := by rfl) :
    PE X (.Call (.Name "isinstance" p) [e, .Name y p2] [] pos) (tCB (rIsi X.K) (tCons te (tCons (tC (.ty n)) tNil))) :=
  pe_callB (p := p) (pos := pos) call_isi gi hi (by decide +kernel) (pa_cons he (pa_cons (pe_bltn (v := .ty n) (pos := p2) gy hy hv rfl hn hdb) pa_nil hs2) hs1) (by decide) (by decide) hs1 hpl
/-! ### t[k], t a tuple in a slot, k written -/
theorem px {X : Cx} (i : Nat) {x : Str} {pos p2 p3 : Pos} {k : Int} {j} (hN : X.N[i]? = some x := by rfl) (hv : Vis X.env.scope x := by first | exact Or.inl rfl | exact Or.inr (Or.inl rfl) | exact Or.inr (Or.inr rfl))
    (hd : (x == ("__debug__" : Str)) = false := by decide) (hcd : (x == ("__classdict__" : Str)) = false := by decide) : PE X (.Subscript (.Name x pos) (.Constant (.int k) j p2) p3) (tOp (rIxT X.K) (tVar i) (tC (.int k))) :=
  pe_ix ix_tup (pe_var hN hv hd hcd) pe_int (fun _ _ => rfl)
theorem rx {K : PySem.W.Frag} {σ : L2.St} {H : Hp} {i : Nat} {p : Addr} {xs : List V} {k : Int} {v : V} {Q : VK} (h : σ[i]? = some (some (.ref p))) (hs : SqT K H p xs) (ha : atI xs k = some v) (q : Q v H) : tOp (rIxT K) (tVar i) (tC (.int k)) σ H Q :=
  ⟨_, h, p, xs, k, v, rfl, rfl, hs, ha, q⟩
theorem sqt_len {K : PySem.W.Frag} {H : Hp} {p : Addr} {xs : List V} {Q : VK} (h : SqT K H p xs) (q : Q (.int xs.length) H) : ∃ (a : Addr) (ys : List V), [V.ref p] = [V.ref a] ∧ (SqL K H a ys ∨ SqT K H a ys) ∧ Q (.int ys.length) H := ⟨p, xs, rfl, .inr h, q⟩
theorem sql_len {K : PySem.W.Frag} {H : Hp} {p : Addr} {xs : List V} {Q : VK} (h : SqL K H p xs) (q : Q (.int xs.length) H) : ∃ (a : Addr) (ys : List V), [V.ref p] = [V.ref a] ∧ (SqL K H a ys ∨ SqT K H a ys) ∧ Q (.int ys.length) H := ⟨p, xs, rfl, .inl h, q⟩
theorem itD {c r : Bool} {A B : Prop} (h : c = r) (q : if r = true then A else B) : if c = true then A else B := by rw [h]; exact q
theorem itT {c : Bool} {A B : Prop} (h : c = true) (q : A) : if c = true then A else B := by rw [h, if_pos rfl]; exact q
theorem itF {c : Bool} {A B : Prop} (h : c = false) (q : B) : if c = true then A else B := by rw [h, if_neg Bool.false_ne_true]; exact q
theorem word_row (r : Bool) : decide (V.str (word r) = V.str "row") = r := by cases r <;> decide +kernel
def T.node : T → Bool
  | .e _ => false
  | .n _ _ _ _ => true
/-- a grid -/
def RowAt (K : PySem.W.Frag) (H : Hp) (v : V) (row : List Int) : Prop := ∃ q, v = .ref q ∧ SqT K H q (row.map V.int)
def GAt (K : PySem.W.Frag) (H : Hp) (v : V) (gr : List (List Int)) : Prop := ∃ p rs, v = .ref p ∧ SqT K H p rs ∧ All2 (RowAt K H) rs gr
theorem RowAt.tk {K : PySem.W.Frag} {H H' : Hp} {v : V} {row : List Int} (h : RowAt K H v row) (e : TK K H H') : RowAt K H' v row := by
  obtain ⟨q, h1, h2⟩ := h
  exact ⟨q, h1, e _ _ h2⟩
theorem GAt.tk {K : PySem.W.Frag} {H H' : Hp} {v : V} {gr : List (List Int)} (h : GAt K H v gr) (e : TK K H H') : GAt K H' v gr := by
  obtain ⟨p, rs, h1, h2, h3⟩ := h
  exact ⟨p, rs, h1, e _ _ h2, h3.mono fun _ _ r => r.tk e⟩
structure GOk (gr : List (List Int)) (R C : Nat) : Prop where
  len : gr.length = R
  row : ∀ r ∈ gr, r.length = C ∧ ∀ x ∈ r, 0 ≤ x ∧ x ≤ 9
  r0 : 1 ≤ R
  r4 : R ≤ 4
  c0 : 1 ≤ C
  c4 : C ≤ 4
theorem at0 {xs : List V} {v : V} (h : xs[0]? = some v) : atI xs 0 = some v := atI_nat (j := 0) h
theorem none_line : ([] : List V).length ≤ sizeLine := by show 0 ≤ sizeLine; decide
theorem one_line (v : V) : [v].length ≤ sizeLine := by show 1 ≤ sizeLine; decide
theorem two_line (v w : V) : [v, w].length ≤ sizeLine := by show 2 ≤ sizeLine; decide
theorem four_line (v w x y : V) : [v, w, x, y].length ≤ sizeLine := by show 4 ≤ sizeLine; decide
theorem small {n : Nat} (h : n ≤ 1000) : n ≤ sizeLine := Nat.le_of_lt (small1000 h)
end K76
set_option Elab.async false
set_option linter.all false
set_option maxRecDepth 100000
set_option maxHeartbeats 4000000
namespace K76
open PySem PySem.Spec PyProof.Rows L2
section
variable {P : Program} {w : World} {K : PySem.W.Frag} {mg : Str → Option Value} {base : Heap}
/-! ### reduced_so -/
abbrev s_reduced : Stmt := top 10
def spReduced : Sp := fun vs H Q _ => ∃ a b : Int, vs = [.int a, .int b] ∧ 0 ≤ a ∧ 0 < b ∧ b < 1000000000 ∧ ∀ p H', Same H H' → H' p = some (.tup [.int (red a b).1, .int (red a b).2]) → Q (.ref p) H'
theorem sc_reduced : FnScope ["above", "below", "common"] ["above", "below"] (defScope s_reduced) := ⟨rfl, rfl, rfl, by decide +kernel, rfl, by decide +kernel, by decide +kernel⟩
theorem ok_reduced (T : Txt K mg) (D : Df K mg "reduced_so" s_reduced) : Cal P w K mg base "reduced_so" 1 ["above", "below"] spReduced := by
  refine cal_mk D sc_reduced (fun vs H Q E h => ?_) (fun _ _ _ _ _ _ us hl => match us, hl with | [_, _], _ => rfl) (fun f cdv A outer s H vs Q E hr h => ?_)
  · obtain ⟨a, b, rfl, _⟩ := h
    rfl
  obtain ⟨a, b, rfl, ha, hb, hb2, q⟩ := h
  refine ⟨_, pss_cons (ps_set (i := 2) sc_reduced.nd rfl (.inl rfl) (pe_callBfun cr_gcd (by rfl) T.gcd (pa_cons (pv 0) (pa_cons (pv 1) pa_nil))))
    (pss_one (ps_ret (pe_tup (pa_cons (pe_op op_fdivN (pv 0) (pv 2)) (pa_cons (pe_op op_fdivN (pv 1) (pv 2)) pa_nil))))), ?_⟩
  have g0 := g_pos (a := a) hb
  have g1 := g_le (a := a) hb
  have gok : g a b ≠ 0 ∧ (g a b).natAbs < 1073741824 := ⟨by omega, by omega⟩
  refine ⟨_, rfl, _, rfl, a, b, rfl, ?_⟩
  refine ⟨_, rfl, _, rfl, a, g a b, rfl, rfl, gok, _, rfl, _, rfl, b, g a b, rfl, rfl, gok, two_line _ _, fun p hp => ?_⟩
  refine q p _ (same_new hp _) ?_
  rw [upd_same]
  show some (HO.tup [V.int (a.fdiv (g a b)), V.int (b.fdiv (g a b))]) = _
  rw [Int.fdiv_eq_ediv_of_nonneg _ (Int.le_of_lt g0), Int.fdiv_eq_ediv_of_nonneg _ (Int.le_of_lt g0)]
  rfl
/-! ### plus_so -/
abbrev s_plus : Stmt := top 12
def FrOk (f : Int × Int) : Prop := 0 ≤ f.1 ∧ f.1 ≤ 5000 ∧ 0 < f.2 ∧ f.2 ≤ 5000
theorem mul_ok {a b : Int} (ha : 0 ≤ a) (ha2 : a ≤ 5000) (hb : 0 ≤ b) (hb2 : b ≤ 5000) : 0 ≤ a * b ∧ a * b ≤ 25000000 :=
  ⟨Int.mul_nonneg ha hb, by have := Int.mul_le_mul ha2 hb2 hb (by omega : (0 : Int) ≤ 5000); omega⟩
def spPlus (K : PySem.W.Frag) : Sp := fun vs H Q _ => ∃ (v1 v2 : V) (f1 f2 : Int × Int), vs = [v1, v2] ∧ Fr K H v1 f1 ∧ Fr K H v2 f2 ∧ FrOk f1 ∧ FrOk f2 ∧
  ∀ p H', Same H H' → H' p = some (.tup [.int (plusF f1 f2).1, .int (plusF f1 f2).2]) → Q (.ref p) H'
theorem sc_plus : FnScope ["one", "other"] ["one", "other"] (defScope s_plus) := ⟨rfl, rfl, rfl, by decide +kernel, rfl, by decide +kernel, by decide +kernel⟩
theorem ok_plus (D : Df K mg "plus_so" s_plus) (C : Cal P w K mg base "reduced_so" 1 ["above", "below"] spReduced) : Cal P w K mg base "plus_so" 2 ["one", "other"] (spPlus K) := by
  refine cal_mk D sc_plus (fun vs H Q E h => ?_) (fun _ _ _ _ _ _ us hl => match us, hl with | [_, _], _ => rfl) (fun f cdv A outer s H vs Q E hr h => ?_)
  · obtain ⟨_, _, _, _, rfl, _⟩ := h
    rfl
  obtain ⟨v1, v2, f1, f2, rfl, ⟨p1, rfl, h1⟩, ⟨p2, rfl, h2⟩, ⟨a1, a2, a3, a4⟩, ⟨b1, b2, b3, b4⟩, q⟩ := h
  refine ⟨_, pss_one (ps_ret (pe_cal C hr (by decide) (by rfl) (pa_cons (pe_op op_add (pe_op op_mul (px 0) (px 1)) (pe_op op_mul (px 1) (px 0))) (pa_cons (pe_op op_mul (px 0) (px 1)) pa_nil)))), ?_⟩
  have m1 := mul_ok a1 a2 (Int.le_of_lt b3) b4
  have m2 := mul_ok b1 b2 (Int.le_of_lt a3) a4
  have m3 := mul_ok (Int.le_of_lt a3) a4 (Int.le_of_lt b3) b4
  have m4 : 0 < f1.2 * f2.2 := Int.mul_pos a3 b3
  refine rx rfl h1 rfl (rx rfl h2 rfl ⟨_, _, rfl, rfl, .inl ⟨by omega, by omega⟩, rx rfl h2 rfl (rx rfl h1 rfl ⟨_, _, rfl, rfl, .inl ⟨by omega, by omega⟩, _, _, rfl, rfl, ?_⟩)⟩)
  refine rx rfl h1 rfl (rx rfl h2 rfl ⟨_, _, rfl, rfl, .inl ⟨by omega, by omega⟩, ?_⟩)
  exact ⟨_, _, rfl, by omega, m4, by omega, q⟩
/-! ### less_so -/
abbrev s_less : Stmt := top 13
def spLess (K : PySem.W.Frag) : Sp := fun vs H Q _ => ∃ (v1 v2 : V) (f1 f2 : Int × Int), vs = [v1, v2] ∧ Fr K H v1 f1 ∧ Fr K H v2 f2 ∧ FrOk f1 ∧ FrOk f2 ∧ Q (.bl (lessF f1 f2)) H
theorem sc_less : FnScope ["one", "other"] ["one", "other"] (defScope s_less) := ⟨rfl, rfl, rfl, by decide +kernel, rfl, by decide +kernel, by decide +kernel⟩
theorem ok_less (D : Df K mg "less_so" s_less) : Cal P w K mg base "less_so" 1 ["one", "other"] (spLess K) := by
  refine cal_mk D sc_less (fun vs H Q E h => ?_) (fun _ _ _ _ _ _ us hl => match us, hl with | [_, _], _ => rfl) (fun f cdv A outer s H vs Q E hr h => ?_)
  · obtain ⟨_, _, _, _, rfl, _⟩ := h
    rfl
  obtain ⟨v1, v2, f1, f2, rfl, ⟨p1, rfl, h1⟩, ⟨p2, rfl, h2⟩, ⟨a1, a2, a3, a4⟩, ⟨b1, b2, b3, b4⟩, q⟩ := h
  refine ⟨_, pss_one (ps_ret (pe_cmpR op_lt (pe_op op_mul (px 0) (px 1)) (pe_op op_mul (px 1) (px 0)) (nomark _))), ?_⟩
  refine rx rfl h1 rfl (rx rfl h2 rfl ⟨_, _, rfl, rfl, .inl ⟨by omega, by omega⟩, rx rfl h2 rfl (rx rfl h1 rfl ⟨_, _, rfl, rfl, .inl ⟨by omega, by omega⟩, _, _, rfl, rfl, ?_⟩)⟩)
  exact q
/-! ### sum_so -/
abbrev s_sum : Stmt := top 14
theorem red_ok {x S : Int} (h0 : 0 ≤ x) (h1 : x ≤ 5000) (h2 : 0 < S) (h3 : S ≤ 5000) : FrOk (red x S) := by
  have a := red_nonneg h0 h2
  have b := red_le1 (b := S) h0
  have c := red_pos (a := x) h2
  have d := red_le2 (a := x) h2
  exact ⟨a, by omega, c, by omega⟩
def spSum (K : PySem.W.Frag) : Sp := fun vs H Q _ => ∃ (a : Addr) (us : List V) (ws : List Int) (S : Int), vs = [.ref a] ∧ SqL K H a us ∧ All2 (fun u x => Fr K H u (red x S)) us ws ∧ 0 < S ∧ S ≤ 5000 ∧ (∀ x ∈ ws, 0 ≤ x) ∧ ws.sum ≤ S ∧
  ∀ v H', Same H H' → Fr K H' v (red ws.sum S) → Q v H'
theorem sc_sum : FnScope ["some", "found", "one"] ["some"] (defScope s_sum) := ⟨rfl, rfl, rfl, by decide +kernel, rfl, by decide +kernel, by decide +kernel⟩
theorem sum_nonneg : ∀ {l : List Int}, (∀ x ∈ l, 0 ≤ x) → 0 ≤ l.sum
  | [], _ => by simp
  | x :: l, h => by
    have a := sum_nonneg (l := l) fun y hy => h y (List.mem_cons_of_mem _ hy)
    have b := h x List.mem_cons_self
    rw [List.sum_cons]; omega
theorem sum_take {l : List Int} (h : ∀ x ∈ l, 0 ≤ x) (i : Nat) : 0 ≤ (l.take i).sum ∧ (l.take i).sum ≤ l.sum := by
  have a := sum_nonneg (l := l.take i) fun x hx => h x (List.mem_of_mem_take hx)
  have b := sum_nonneg (l := l.drop i) fun x hx => h x (List.mem_of_mem_drop hx)
  have c : l.sum = (l.take i).sum + (l.drop i).sum := by rw [← List.sum_append, List.take_append_drop]
  omega
theorem ok_sum (T : Txt K mg) (D : Df K mg "sum_so" s_sum) (C : Cal P w K mg base "plus_so" 2 ["one", "other"] (spPlus K)) : Cal P w K mg base "sum_so" 3 ["some"] (spSum K) := by
  refine cal_mk D sc_sum (fun vs H Q E h => ?_) (fun _ _ _ _ _ _ us hl => match us, hl with | [_], _ => rfl) (fun f cdv A outer s H vs Q E hr h => ?_)
  · obtain ⟨_, _, _, _, rfl, _⟩ := h
    rfl
  obtain ⟨a, us, ws, S, rfl, hS, hA, s0, s1, pos, le, q⟩ := h
  obtain ⟨aN, mN, qN⟩ := T.none_
  refine ⟨_, pss_cons (ps_set (i := 1) sc_sum.nd rfl (.inl rfl) (pe_glob (v := .ref aN) (by rfl) mN rfl))
    (pss_cons (ps_for PassesOwn.never rfl (pi_list (pv 0)) (pg_name (i := 2) sc_sum.nd rfl (.inl rfl)) (pss_one (ps_set (i := 1) sc_sum.nd rfl (.inl rfl) (pe_cal C hr (by decide) (by rfl) (pa_cons (pv 1) (pa_cons (pv 2) pa_nil))))))
    (pss_one (ps_ret (pv 1)))), ?_⟩
  refine ⟨_, rfl, a, rfl, ⟨_, hS⟩, for_it (walk_list (K := K) (a := a) (xs := us)) (fun i σ H' => ∃ v y, σ = [some (.ref a), some v, y] ∧ Same H H' ∧ Fr K H' v (red (ws.take i).sum S)) ⟨_, none, rfl, Same.refl _, aN, rfl, ?_⟩ (fun i σ H' _ ⟨_, _, _, e, _⟩ => e.seq hS) ?_ ?_⟩
  · have z : red (ws.take 0).sum S = (0, 1) := red_zero s0
    rw [z]
    exact qN _
  · rintro i x σ H1 H2 hi ⟨v, y, rfl, e, hv⟩ ⟨rfl, hx⟩
    obtain ⟨n, hn, hf⟩ := hA.get hx
    have tk := sum_take pos i
    have mem := pos n (List.mem_of_getElem? hn)
    have tk1 := sum_take pos (i + 1)
    rw [take_snoc hn, List.sum_append] at tk1
    simp only [List.sum_cons, List.sum_nil] at tk1
    refine ⟨_, rfl, _, rfl, v, x, _, _, rfl, hv, hf.same e, red_ok tk.1 (by omega) s0 s1, red_ok mem (by omega) s0 s1, fun p H' e' hp => ?_⟩
    refine ⟨.ref p, _, rfl, e.trans e', p, rfl, ?_⟩
    rw [plus_red s0] at hp
    rw [take_snoc hn, List.sum_append]
    simp only [List.sum_cons, List.sum_nil, Int.add_zero]
    exact .inl (.inl hp)
  · rintro σ H1 ⟨v, y, rfl, e, hv⟩
    rw [hA.len, List.take_length] at hv
    exact ⟨v, rfl, q v H1 e hv⟩
end
end K76
set_option Elab.async false
set_option linter.all false
set_option maxRecDepth 100000
set_option maxHeartbeats 4000000
namespace K76
open PySem PySem.Spec PyProof.Rows L2
section
variable {P : Program} {w : World} {K : PySem.W.Frag} {mg : Str → Option Value} {base : Heap}
/-! ### is_fraction -/
abbrev s_isfr : Stmt := top 11
def spIsFr (K : PySem.W.Frag) : Sp := fun vs H Q _ => ∃ (v : V) (f : Int × Int), vs = [v] ∧ Fr K H v f ∧ 1 ≤ f.2 ∧ g f.1 f.2 = 1 ∧ ∀ H', Same H H' → Q (.bl true) H'
theorem sc_isfr : FnScope ["value", "item"] ["value"] (defScope s_isfr) := ⟨rfl, rfl, rfl, by decide +kernel, rfl, by decide +kernel, by decide +kernel⟩
theorem ok_isfr (T : Txt K mg) (D : Df K mg "is_fraction" s_isfr) : Cal P w K mg base "is_fraction" 1 ["value"] (spIsFr K) := by
  refine cal_mk D sc_isfr (fun vs H Q E h => ?_) (fun _ _ _ _ _ _ us hl => match us, hl with | [_], _ => rfl) (fun f cdv A outer s H vs Q E hr h => ?_)
  · obtain ⟨_, _, rfl, _⟩ := h
    rfl
  obtain ⟨v, f, rfl, ⟨p, rfl, hv⟩, h1, h2, q⟩ := h
  refine ⟨_, pss_cons (ps_if (PW.pt (pw_or (pt_not (pt_val (pe_isi (n := "tuple") (pv 0) T.isi (by rfl) (by rfl) T.tuple (by decide +kernel)))) (pw_or1 (pt_cmpR op_ne (pe_callB call_len_seq (by rfl) T.len PySem.boot_len (pa_cons (pv 0) pa_nil)) pe_int (nomark _))))) (pss_one (ps_ret pe_bl)) pss_nil)
    (pss_cons (ps_if (pt_cmpR op_gt (pe_callB call_len_seq (by rfl) T.len PySem.boot_len (pa_cons (pe_lc (own := [("item", 1)]) (g := gName 1)
        (tt := tOr (tNot (tB (tCB (rIsi K) (tCons (tVar 1) (tCons (tC (.ty "int")) tNil))))) (tB (tCB (rIsi K) (tCons (tVar 1) (tCons (tC (.ty "bool")) tNil)))))
        rfl sc_isfr.nd (pi_tup (pv 0)) (blkOk_by (own := [("item", 1)]) (N := ["value", "item"]) (sc := defScope s_isfr) (by decide +kernel)) (fun _ _ _ _ _ => pg_name (i := 1) sc_isfr.nd rfl (Or.inl rfl))
        (fun _ _ _ _ _ => pts_one (PW.pt (pw_or (pt_not (pt_val (pe_isi (n := "int") (pv 1) T.isi (by rfl) (by rfl) T.int (by decide +kernel)))) (pw_or1 (pt_val (pe_isi (n := "bool") (pv 1) T.isi (by rfl) (by rfl) T.bool (by decide +kernel)))))))
        (fun _ _ _ _ _ => pe_int)) pa_nil)) pe_int (nomark _)) (pss_one (ps_ret pe_bl)) pss_nil)
    (pss_one (ps_ret (pe_and (pe_cmpR op_ge (px 0) pe_int (nomark _)) (pe_one (pe_cmpR op_eq (pe_callBfun cr_gcd (by rfl) T.gcd (pa_cons (px 0) (pa_cons (px 0) pa_nil))) pe_int (nomark _))))))), ?_⟩
  refine ⟨_, rfl, ⟨_, _, _, _, _, rfl, .ty _, ty_tup hv, kit_ty k_tt, ⟨true, rfl, itF rfl ⟨_, rfl, ⟨_, _, rfl, .inr hv, rfl, _, rfl, itF rfl ?_⟩⟩⟩⟩⟩
  refine ⟨_, rfl, p, rfl, ⟨_, hv⟩, fun D1 hD => lc_it (walk_tup (K := K) (a := p) (xs := [V.int f.1, V.int f.2])) (fun _ H' => H' = upd H D1 (.lst [])) rfl (fun i H' _ e => by rw [e]; exact (same_new hD _).sqt hv) ?_ ?_⟩
  · rintro i x H1 H2 hi rfl ⟨rfl, hx⟩
    obtain ⟨n, rfl⟩ : ∃ n, x = V.int n := by
      match i, hx with
      | 0, hx => exact ⟨_, (Option.some.inj hx).symm⟩
      | 1, hx => exact ⟨_, (Option.some.inj hx).symm⟩
      | i + 2, hx => simp at hx
    refine ⟨rfl, _, rfl, ⟨_, _, _, _, _, rfl, .ty _, ty_int n, kit_ty k_ii, ⟨true, rfl, itF rfl ⟨_, rfl, ⟨_, _, _, _, _, rfl, .ty _, ty_int n, kit_ty k_ib, ⟨false, rfl, itF rfl rfl⟩⟩⟩⟩⟩⟩
  · rintro H1 rfl
    have e := same_new hD (.lst [])
    refine ⟨_, _, rfl, .inl (SqL.of upd_same), _, _, rfl, rfl, _, rfl, itF rfl ?_⟩
    have hv1 := e.sqt hv
    refine rx rfl hv1 rfl ⟨_, _, rfl, rfl, _, rfl, itT (decide_eq_true h1) (rx rfl hv1 rfl (rx rfl hv1 rfl ⟨f.1, f.2, rfl, rfl, ?_⟩))⟩
    have z : (decide (V.int (g f.1 f.2) = V.int 1)) = true := by rw [h2]; rfl
    have q' := q _ e
    rw [← z] at q'
    exact q'
/-! ### is_from -/
abbrev s_isfrom : Stmt := top 16
def spIsFrom : Sp := fun vs H Q _ => ∃ n l h : Int, vs = [.int n, .int l, .int h] ∧ l ≤ n ∧ n ≤ h ∧ Q (.bl true) H
theorem sc_isfrom : FnScope ["value", "low", "high"] ["value", "low", "high"] (defScope s_isfrom) := ⟨rfl, rfl, rfl, by decide +kernel, rfl, by decide +kernel, by decide +kernel⟩
theorem ok_isfrom (T : Txt K mg) (D : Df K mg "is_from" s_isfrom) : Cal P w K mg base "is_from" 1 ["value", "low", "high"] spIsFrom := by
  refine cal_mk D sc_isfrom (fun vs H Q E h => ?_) (fun _ _ _ _ _ _ us hl => match us, hl with | [_, _, _], _ => rfl) (fun f cdv A outer s H vs Q E hr h => ?_)
  · obtain ⟨_, _, _, rfl, _⟩ := h
    rfl
  obtain ⟨n, l, h, rfl, h1, h2, q⟩ := h
  refine ⟨_, pss_one (ps_ret (pe_and (pe_isi (n := "int") (pv 0) T.isi (by rfl) (by rfl) T.int (by decide +kernel)) (pe_and (pe_not (pe_isi (n := "bool") (pv 0) T.isi (by rfl) (by rfl) T.bool (by decide +kernel))) (pe_one (pe_chain op_le op_le (pv 1) (pv 0) (pv 2)))))), ?_⟩
  refine ⟨_, rfl, ⟨_, _, _, _, _, rfl, .ty _, ty_int n, kit_ty k_ii, ⟨true, rfl, itT rfl ⟨_, rfl, ⟨_, _, _, _, _, rfl, .ty _, ty_int n, kit_ty k_ib, ⟨false, rfl, true, rfl, itT rfl ?_⟩⟩⟩⟩⟩⟩
  refine ⟨_, rfl, _, rfl, _, _, rfl, rfl, _, rfl, itT (decide_eq_true h1) ⟨_, rfl, _, _, rfl, rfl, ?_⟩⟩
  have q' : Q (.bl (decide (n ≤ h))) H := by rw [decide_eq_true h2]; exact q
  exact q'
/-! ### is_set -/
abbrev s_isset : Stmt := top 17
def spIsSet (K : PySem.W.Frag) : Sp := fun vs H Q _ => ∃ (a : Addr) (lot : List Int) (sz : Nat), vs = [.ref a, .int sz] ∧ SqT K H a (lot.map V.int) ∧ LotOk sz lot ∧ ∀ H', Same H H' → Q (.bl true) H'
theorem sc_isset : FnScope ["value", "size", "item", "near", "far"] ["value", "size"] (defScope s_isset) := ⟨rfl, rfl, rfl, by decide +kernel, rfl, by decide +kernel, by decide +kernel⟩
theorem cut1 (xs : List V) : cutV xs (some 1) none = xs.drop 1 := by
  unfold cutV
  rw [show HT.sIx xs.length 0 (some 1) = min 1 xs.length from HT.sIx_nat xs.length 0 1, HT.sIx_none]
  cases xs with
  | nil => rfl
  | cons x r =>
    rw [show min 1 (x :: r).length = 1 by
      rw [List.length_cons]
      omega]
    show (List.take ((x :: r).length - 1) r) = r
    rw [List.length_cons, Nat.add_sub_cancel]
    exact List.take_length
theorem get_int {l : List Int} {i : Nat} {x : V} (h : (l.map V.int)[i]? = some x) : ∃ n, l[i]? = some n ∧ x = .int n := by
  rw [List.getElem?_map] at h
  cases e : l[i]? with
  | none => rw [e] at h; cases h
  | some n => rw [e] at h; exact ⟨n, rfl, (Option.some.inj h).symm⟩
theorem rising_at {l : List Int} (h : l.Pairwise (· < ·)) {i : Nat} {x y : Int} (hx : l[i]? = some x) (hy : l[i + 1]? = some y) : x < y := by
  obtain ⟨a, rfl⟩ := List.getElem?_eq_some_iff.mp hx
  obtain ⟨b, rfl⟩ := List.getElem?_eq_some_iff.mp hy
  exact List.pairwise_iff_getElem.mp h i (i + 1) a b (by omega)
theorem ok_isset (T : Txt K mg) (D : Df K mg "is_set" s_isset) (C : Cal P w K mg base "is_from" 1 ["value", "low", "high"] spIsFrom) : Cal P w K mg base "is_set" 2 ["value", "size"] (spIsSet K) := by
  refine cal_mk D sc_isset (fun vs H Q E h => ?_) (fun _ _ _ _ _ _ us hl => match us, hl with | [_, _], _ => rfl) (fun f cdv A outer s H vs Q E hr h => ?_)
  · obtain ⟨_, _, _, rfl, _⟩ := h
    rfl
  obtain ⟨a, lot, sz, rfl, hv, ⟨l1, l2, l3⟩, q⟩ := h
  refine ⟨_, pss_cons (ps_if (PW.pt (pw_or (pt_not (pt_val (pe_isi (n := "tuple") (pv 0) T.isi (by rfl) (by rfl) T.tuple (by decide +kernel)))) (pw_or1 (pt_cmpR op_gt (pe_callB call_len_seq (by rfl) T.len PySem.boot_len (pa_cons (pe_lc (own := [("item", 2)]) (g := gName 2)
        (tt := tNot (tB (tCall spIsFrom [] E0 (tCons (tVar 2) (tCons (tC (.int 0)) (tCons (tOp (rI0 fun i j => .int (i - j)) (tVar 1) (tC (.int 1))) tNil))))))
        rfl sc_isset.nd (pi_tup (pv 0)) (blkOk_by (own := [("item", 2)]) (N := ["value", "size", "item", "near", "far"]) (sc := defScope s_isset) (by decide +kernel)) (fun _ _ _ _ _ => pg_name (i := 2) sc_isset.nd rfl (Or.inl rfl))
        (fun _ _ _ _ _ => pts_one (pt_not (pt_val (pe_cal C hr (by decide) (by rfl) (pa_cons (pv 2) (pa_cons pe_int (pa_cons (pe_op op_sub (pv 1) pe_int) pa_nil)))))))
        (fun _ _ _ _ _ => pe_int)) pa_nil)) pe_int (nomark _))))) (pss_one (ps_ret pe_bl)) pss_nil)
    (pss_one (ps_ret (pe_cmpR op_eq (pe_callB call_len_seq (by rfl) T.len PySem.boot_len (pa_cons (pe_lc (own := [("near", 3), ("far", 4)]) (g := gTup K 2 (gCons (gName 3) (gCons (gName 4) gNil)))
        (tt := tTest (tOp (rI0 fun i j => .bl (decide (j ≤ i))) (tVar 3) (tVar 4)))
        rfl sc_isset.nd (RZ.pi_zipA (by rfl) T.zip (pa_cons (pv 0) (pa_cons (pe_slice sl_tupA (pv 0) (po_some pe_int) po_none) pa_nil))) (blkOk_by (own := [("near", 3), ("far", 4)]) (N := ["value", "size", "item", "near", "far"]) (sc := defScope s_isset) (by decide +kernel))
        (fun _ _ _ _ _ => pg_tup rfl (pgs_cons (pg_name (i := 3) sc_isset.nd rfl (Or.inl rfl)) (pgs_cons (pg_name (i := 4) sc_isset.nd rfl (Or.inl rfl)) pgs_nil)))
        (fun _ _ _ _ _ => pts_one (pt_cmpR op_ge (pv 3) (pv 4) (nomark _))) (fun _ _ _ _ _ => pe_int)) pa_nil)) pe_int (nomark _)))), ?_⟩
  refine ⟨_, rfl, ⟨_, _, _, _, _, rfl, .ty _, ty_tup hv, kit_ty k_tt, ⟨true, rfl, itF rfl ?_⟩⟩⟩
  refine ⟨_, rfl, a, rfl, ⟨_, hv⟩, fun D1 hD => lc_it (walk_tup (K := K) (a := a) (xs := lot.map V.int)) (fun _ H' => H' = upd H D1 (.lst [])) rfl (fun i H' _ e => by rw [e]; exact (same_new hD _).sqt hv) ?_ ?_⟩
  · rintro i x H1 H2 hi rfl ⟨rfl, hx⟩
    obtain ⟨n, hn, rfl⟩ := get_int hx
    obtain ⟨b1, b2⟩ := l1 n (List.mem_of_getElem? hn)
    exact ⟨rfl, _, rfl, _, rfl, _, _, rfl, rfl, n, 0, (sz : Int) - 1, rfl, b1, by omega, true, rfl, itF rfl rfl⟩
  rintro H1 rfl
  have e := same_new hD (.lst [])
  refine ⟨_, _, rfl, .inl (SqL.of upd_same), _, _, rfl, rfl, _, rfl, itF rfl ?_⟩
  have hv1 := e.sqt hv
  -- value[1:]
  have rest := fun (c : Addr) (H2 : Hp) (e2 : Same H H2) (hc : SqT K H2 c ((lot.map V.int).drop 1)) (D2 : Addr) (hD2 : H2 D2 = none) (Qd : Hp → Prop) (hQ : ∀ H3, Same (upd H2 D2 (.lst [])) H3 → Qd H3) =>
    lc_it (walk_zipT (K := K) (a := a) (b := c) (xs := lot.map V.int) (ys := (lot.map V.int).drop 1) rfl) (g := gTup K 2 (gCons (gName 3) (gCons (gName 4) gNil))) (tt := tTest (tOp (rI0 fun i j => .bl (decide (j ≤ i))) (tVar 3) (tVar 4))) (te := tC (.int 1))
      (vs := [3, 4]) (σ := [some (.ref a), some (.int sz), none, none, none]) (H1 := H2) (D := D2) (Qd := Qd) (fun _ H' => Same (upd H2 D2 (.lst [])) H') (Same.refl _)
      (fun i H' _ z => ⟨z.sqt ((same_new hD2 (.lst [])).sqt (e2.sqt hv)), z.sqt ((same_new hD2 (.lst [])).sqt hc)⟩) (by
        rintro i v H3 H4 hi z ⟨T, x, y, rfl, hT, rfl, hx, hy⟩
        obtain ⟨n, hn, rfl⟩ := get_int hx
        have hy : ((lot.map V.int).drop 1)[i]? = some y := hy
        rw [List.getElem?_drop, Nat.add_comm] at hy
        obtain ⟨m, hm, rfl⟩ := get_int hy
        have lt := rising_at l2 hn hm
        exact ⟨T, _, rfl, sqt_new, rfl, _, _, rfl, _, _, rfl, rfl, rfl, _, rfl, _, rfl, _, _, rfl, rfl, _, rfl, itF (decide_eq_false (by omega)) (z.trans (same_new hT _))⟩) hQ
  have last : ∀ (H2 : Hp) (D2 : Addr) (H3 : Hp), Same H H2 → H2 D2 = none → Same (upd H2 D2 (.lst [])) H3 → ∃ (p : Addr) (ys : List V), [V.ref D2] = [V.ref p] ∧ (SqL K H3 p ys ∨ SqT K H3 p ys) ∧ rEq (.int ys.length) (.int 0) H3 Q := by
    intro H2 D2 H3 e2 hD2 z
    refine ⟨D2, [], rfl, .inl (SqL.of (z _ _ upd_same)), rfl, ?_⟩
    exact q _ (e2.trans ((same_new hD2 _).trans z))
  refine ⟨_, rfl, _, rfl, 1, rfl, a, _, rfl, hv1, fun whole => ?_, fun _ c hc => ?_⟩
  · have nil : (lot.map V.int).drop 1 = lot.map V.int := by
      have w := whole.1
      rw [show HT.sIx (lot.map V.int).length 0 (some 1) = min 1 (lot.map V.int).length from HT.sIx_nat _ 0 1] at w
      cases lot with
      | nil => rfl
      | cons x r => simp at w
    exact ⟨a, a, _, _, rfl, .inr ⟨hv1, hv1, fun D2 hD2 => rest a _ e (by rw [nil]; exact hv1) D2 hD2 _ (last _ D2 · e hD2)⟩⟩
  · have e2 := e.trans (same_new hc (.tup (cutV (lot.map V.int) (some 1) none)))
    have hc2 : SqT K (upd (upd H D1 (.lst [])) c (.tup (cutV (lot.map V.int) (some 1) none))) c ((lot.map V.int).drop 1) := by
      rw [cut1]
      exact sqt_new
    exact ⟨a, c, _, _, rfl, .inr ⟨e2.sqt hv, hc2, fun D2 hD2 => rest c _ e2 hc2 D2 hD2 _ (last _ D2 · e2 hD2)⟩⟩
end
end K76
set_option Elab.async false
set_option linter.all false
set_option maxRecDepth 100000
set_option maxHeartbeats 4000000
namespace K76
open PySem PySem.Spec PyProof.Rows L2
/-! ### t + u, tuples: whichever object it is -/
def rCatU (K : PySem.W.Frag) : R2 := fun x y H Q => ∃ a b xs ys, x = .ref a ∧ y = .ref b ∧ SqT K H a xs ∧ SqT K H b ys ∧ xs.length + ys.length ≤ sizeLine ∧ ∀ c H', Same H H' → SqT K H' c (xs ++ ys) → Q (.ref c) H'
theorem op_catU {X : Cx} : OpR X (binaryOp .Add) (rCatU X.K) := by
  rintro pins s σ H x y v u Q I rx ry ⟨a, b, xs, ys, rfl, rfl, hx, hy, hl, q⟩
  refine op_catA pins s σ H _ _ v u Q I rx ry ⟨a, b, xs, ys, rfl, rfl, hx, hy, hl, fun e => ?_, fun _ e => ?_, fun _ _ p hp => ?_⟩
  · exact q b H (Same.refl _) (by rw [e]; exact hy)
  · exact q a H (Same.refl _) (by rw [e, List.append_nil]; exact hx)
  · exact q p _ (same_new hp _) sqt_new
theorem inV_int (i : Int) : ∀ lot : List Int, inV (.int i) (lot.map V.int) = decide (i ∈ lot)
  | [] => by simp [inV]
  | x :: r => by
    have ih := inV_int i r
    unfold inV at ih ⊢
    rw [List.map_cons, List.any_cons, ih]
    show ((x == i) || decide (i ∈ r)) = decide (i ∈ x :: r)
    by_cases h : x = i
    · subst h; simp
    · have h' : ¬ i = x := fun e => h e.symm
      simp [h, h']
theorem flat_ints (lot : List Int) : (lot.map V.int).all flatV = true := by simp [List.all_eq_true, flatV]
theorem in_word (r : Bool) : inV (.str (word r)) [.str "row", .str "column"] = true := by cases r <;> decide +kernel
section
variable {P : Program} {w : World} {K : PySem.W.Frag} {mg : Str → Option Value} {base : Heap}
/-! ### is_word -/
abbrev s_word : Stmt := top 24
def spWord (K : PySem.W.Frag) : Sp := fun vs H Q _ => ∃ (v : V) (t : T), vs = [v] ∧ TAt K H v t ∧ ∀ H', Same H H' → Q (.bl t.node) H'
theorem sc_word : FnScope ["value"] ["value"] (defScope s_word) := ⟨rfl, rfl, rfl, by decide +kernel, rfl, by decide +kernel, by decide +kernel⟩
theorem ok_word (T : Txt K mg) (D : Df K mg "is_word" s_word) : Cal P w K mg base "is_word" 1 ["value"] (spWord K) := by
  refine cal_mk D sc_word (fun vs H Q E h => ?_) (fun _ _ _ _ _ _ us hl => match us, hl with | [_], _ => rfl) (fun f cdv A outer s H vs Q E hr h => ?_)
  · obtain ⟨_, _, rfl, _⟩ := h
    rfl
  obtain ⟨v, t, rfl, hv, q⟩ := h
  refine ⟨_, pss_cons (ps_if (PW.pt (pw_or (pt_not (pt_val (pe_isi (n := "tuple") (pv 0) T.isi (by rfl) (by rfl) T.tuple (by decide +kernel)))) (pw_or (pt_cmpR op_ne (pe_callB call_len_seq (by rfl) T.len PySem.boot_len (pa_cons (pv 0) pa_nil)) pe_int (nomark _))
      (pw_or1 (pt_not (pt_val (pe_isi (n := "str") (px 0) T.isi (by rfl) (by rfl) T.str (by decide +kernel)))))))) (pss_one (ps_ret pe_bl)) pss_nil)
    (pss_one (ps_ret (pe_cmpR op_in_seq (px 0) (pe_tup (pa_cons pe_str (pa_cons pe_str pa_nil))) (by rfl)))), ?_⟩
  cases t with
  | e k =>
    have hv : v = .int k := hv
    subst hv
    exact ⟨_, rfl, _, _, _, _, _, rfl, .ty _, ty_int k, kit_ty k_it, _, rfl, itT rfl (itT rfl (q _ (Same.refl _)))⟩
  | n r lot a b =>
    obtain ⟨p, p2, va, vb, rfl, h1, h2, h3, h4⟩ := hv
    refine ⟨_, rfl, _, _, _, _, _, rfl, .ty _, ty_tup h1, kit_ty k_tt, _, rfl, itF rfl ⟨_, rfl, _, _, rfl, .inr h1, rfl, _, rfl, itF rfl (rx rfl h1 rfl ⟨_, _, _, _, _, rfl, .ty _, ty_str _, kit_ty k_ss, _, rfl, itF rfl ?_⟩)⟩⟩
    refine rx rfl h1 rfl ⟨two_line _ _, fun c hc => ⟨c, _, rfl, .inr sqt_new, rfl, rfl, ?_⟩⟩
    have q' := q _ (same_new hc (.tup [.str "row", .str "column"]))
    have z : (if false = true then !inV (V.str (word r)) [.str "row", .str "column"] else inV (V.str (word r)) [.str "row", .str "column"]) = true := by rw [if_neg Bool.false_ne_true]; exact in_word r
    show Q (.bl (if false = true then !inV (V.str (word r)) [.str "row", .str "column"] else inV (V.str (word r)) [.str "row", .str "column"])) _
    rw [z]
    exact q'
/-! ### side_of -/
abbrev s_side : Stmt := top 25
def spSide (K : PySem.W.Frag) : Sp := fun vs H Q _ => ∃ (gv tv : V) (gr : List (List Int)) (R C : Nat) (r : Bool) (lot : List Int) (a b : T), vs = [gv, tv] ∧ GAt K H gv gr ∧ GOk gr R C ∧ TAt K H tv (.n r lot a b) ∧ Q (.int ((if r then R else C : Nat) : Int)) H
theorem sc_side : FnScope ["grid", "speech"] ["grid", "speech"] (defScope s_side) := ⟨rfl, rfl, rfl, by decide +kernel, rfl, by decide +kernel, by decide +kernel⟩
theorem grid_row {K : PySem.W.Frag} {H : Hp} {rs : List V} {gr : List (List Int)} {R C : Nat} (h : All2 (RowAt K H) rs gr) (o : GOk gr R C) {i : Nat} (hi : i < R) : ∃ (c : Addr) (row : List Int), rs[i]? = some (.ref c) ∧ gr[i]? = some row ∧ SqT K H c (row.map V.int) ∧ row.length = C ∧ ∀ x ∈ row, 0 ≤ x ∧ x ≤ 9 := by
  have hi' : i < gr.length := by rw [o.len]; exact hi
  obtain ⟨v, h1, c, rfl, h2⟩ := h.getL (List.getElem?_eq_getElem hi')
  obtain ⟨l, m⟩ := o.row _ (List.getElem_mem hi')
  exact ⟨c, _, h1, List.getElem?_eq_getElem hi', h2, l, m⟩
theorem ok_side (T : Txt K mg) (D : Df K mg "side_of" s_side) : Cal P w K mg base "side_of" 1 ["grid", "speech"] (spSide K) := by
  refine cal_mk D sc_side (fun vs H Q E h => ?_) (fun _ _ _ _ _ _ us hl => match us, hl with | [_, _], _ => rfl) (fun f cdv A outer s H vs Q E hr h => ?_)
  · obtain ⟨_, _, _, _, _, _, _, _, _, rfl, _⟩ := h
    rfl
  obtain ⟨gv, tv, gr, R, C, r, lot, a, b, rfl, ⟨pg, rs, rfl, hg, hrows⟩, ok, ⟨p, p2, va, vb, rfl, h1, h2, h3, h4⟩, q⟩ := h
  refine ⟨_, pss_one (ps_ret (pe_ifExp (pt_cmpR op_eq (px 1) pe_str (nomark _)) (pe_callB call_len_seq (by rfl) T.len PySem.boot_len (pa_cons (pv 0) pa_nil)) (pe_callB call_len_seq (by rfl) T.len PySem.boot_len (pa_cons (px 0) pa_nil)))), ?_⟩
  refine rx rfl h1 rfl ⟨rfl, _, rfl, itD (word_row r) ?_⟩
  cases r with
  | true =>
    refine iteT ⟨_, rfl, _, _, rfl, .inr hg, ?_⟩
    have e : rs.length = R := by rw [hrows.len, ok.len]
    rw [e]
    exact q
  | false =>
    obtain ⟨c, row, e1, e2, e3, e4, _⟩ := grid_row hrows ok (i := 0) (by have := ok.r0; omega)
    refine iteF (rx rfl hg (at0 e1) ⟨_, _, rfl, .inr e3, ?_⟩)
    rw [List.length_map, e4]
    exact q
/-! ### check_part -/
abbrev s_part : Stmt := top 26
def spPart (K : PySem.W.Frag) : Sp := fun vs H Q _ => ∃ (gv tv pv : V) (gr : List (List Int)) (R C : Nat) (t : T) (above met : Int), vs = [gv, tv, pv, .int above, .int met] ∧ GAt K H gv gr ∧ GOk gr R C ∧ TAt K H tv t ∧ t.ok R C ∧ above < 60 ∧ met ≤ 400 ∧ ∀ H', Same H H' → Q .non H'
theorem sc_part : FnScope ["grid", "part", "path", "above", "met"] ["grid", "part", "path", "above", "met"] (defScope s_part) := ⟨rfl, rfl, rfl, by decide +kernel, rfl, by decide +kernel, by decide +kernel⟩
theorem ok_part (T : Txt K mg) (D : Df K mg "check_part" s_part) (cW : Cal P w K mg base "is_word" 1 ["value"] (spWord K)) (cF : Cal P w K mg base "is_from" 1 ["value", "low", "high"] spIsFrom) (cS : Cal P w K mg base "is_set" 2 ["value", "size"] (spIsSet K))
    (cO : Cal P w K mg base "side_of" 1 ["grid", "speech"] (spSide K)) : Cal P w K mg base "check_part" 3 ["grid", "part", "path", "above", "met"] (spPart K) := by
  refine cal_mk D sc_part (fun vs H Q E h => ?_) (fun _ _ _ _ _ _ us hl => match us, hl with | [_, _, _, _, _], _ => rfl) (fun f cdv A outer s H vs Q E hr h => ?_)
  · obtain ⟨_, _, _, _, _, _, _, _, _, rfl, _⟩ := h
    rfl
  obtain ⟨gv, tv, pav, gr, R, C, t, above, met, rfl, hg, ok, ht, tok, h60, h400, q⟩ := h
  obtain ⟨t1, mI⟩ := T.integer
  obtain ⟨t2, mD⟩ := T.depth
  obtain ⟨t3, mP⟩ := T.parts
  refine ⟨_, pss_cons (ps_if (pt_cmpR op_gt (pv 4) (pe_glob (v := .int 400) (by rfl) mP ⟨_, rfl⟩) (nomark _)) pss_never pss_nil)
    (pss_one (ps_if (pt_not (pt_val (pe_cal cW hr (by decide) (by rfl) (pa_cons (pv 1) pa_nil))))
      (pss_one (ps_if (pt_not (pt_val (pe_cal cF hr (by decide) (by rfl) (pa_cons (pv 1) (pa_cons pe_int (pa_cons (pe_glob (v := .int 9) (by rfl) mI ⟨_, rfl⟩) pa_nil)))))) pss_never pss_nil))
      (pss_one (ps_if (pt_cmpR op_ge (pv 3) (pe_glob (v := .int 60) (by rfl) mD ⟨_, rfl⟩) (nomark _)) pss_never
        (pss_one (ps_if (pt_not (pt_val (pe_cal cS hr (by decide) (by rfl) (pa_cons (px 1) (pa_cons (pe_cal cO hr (by decide) (by rfl) (pa_cons (pv 0) (pa_cons (pv 1) pa_nil))) pa_nil))))) pss_never pss_nil)))))), ?_⟩
  refine ⟨_, rfl, _, _, rfl, rfl, _, rfl, itF (decide_eq_false (by omega)) ?_⟩
  refine ⟨_, rfl, tv, t, rfl, ht, fun H1 e1 => ⟨_, rfl, ?_⟩⟩
  cases t with
  | e k =>
    have ht' : tv = .int k := ht
    subst ht'
    obtain ⟨k0, k9⟩ := tok
    exact iteT ⟨_, rfl, k, 0, 9, rfl, k0, k9, true, rfl, itF rfl (q _ e1)⟩
  | n r lot a b =>
    obtain ⟨p, p2, va, vb, rfl, h1, h2, h3, h4⟩ := id ht
    obtain ⟨lo, oa, ob⟩ := tok
    refine iteF ⟨_, rfl, _, _, rfl, rfl, _, rfl, itF (decide_eq_false (by omega)) ?_⟩
    refine rx rfl (e1.sqt h1) rfl ⟨_, rfl, _, rfl, gv, .ref p, gr, R, C, r, lot, a, b, rfl, hg.tk e1.tk, ok, ht.tk e1.tk, ?_⟩
    exact ⟨p2, lot, _, rfl, e1.sqt h2, lo, fun H2 e2 => ⟨true, rfl, itF rfl (q _ (e1.trans e2))⟩⟩
end
end K76
set_option Elab.async false
set_option linter.all false
set_option maxRecDepth 100000
set_option maxHeartbeats 4000000
namespace K76
open PySem PySem.Spec PyProof.Rows L2
theorem tk_list {K : PySem.W.Frag} {H : Hp} {L : Addr} {xs ys : List V} (h : H L = some (.lst xs)) : TK K H (upd H L (.lst ys)) := by
  intro a zs s
  rcases s with (s | ⟨o, s⟩) | s
  · exact .inl (.inl (by rw [upd_ne (ne_of s h (by intro z; cases z))]; exact s))
  · exact .inl (.inr ⟨o, by rw [upd_ne (ne_of s h (by intro z; cases z))]; exact s⟩)
  · exact .inr s
theorem same_upd {H H' : Hp} {L : Addr} {o : HO} (e : Same H H') (h : H L = none) : Same H (upd H' L o) := fun b u q => by
  rw [upd_ne (ne_of_none q h)]
  exact e b u q
theorem All2.last {α β : Type} {R : α → β → Prop} {l : List α} {m : List β} (h : All2 R l m) (n : 0 < l.length) : ∃ l' a m' b, l = l' ++ [a] ∧ m = m' ++ [b] ∧ All2 R l' m' ∧ R a b := by
  induction h with
  | nil => simp at n
  | cons r t ih =>
    cases t with
    | nil => exact ⟨[], _, [], _, rfl, rfl, .nil, r⟩
    | cons r2 t2 =>
      obtain ⟨l', a, m', b, e1, e2, h1, h2⟩ := ih (by simp)
      exact ⟨_ :: l', a, _ :: m', b, by rw [e1]; rfl, by rw [e2]; rfl, .cons r h1, h2⟩
theorem top_of {us : List V} {u : V} : (us ++ [u])[(us ++ [u]).length - 1]? = some u := by simp
theorem pick {r : Bool} {σ : L2.St} {H : Hp} {a b : Nat} {i j : Int} {Q : VK} (h1 : σ[a]? = some (some (.int i))) (h2 : σ[b]? = some (some (.int j))) (q : Q (.int (if r = true then i else j)) H) : if r = true then tVar a σ H Q else tVar b σ H Q := by
  cases r
  · exact ⟨_, h2, q⟩
  · exact ⟨_, h1, q⟩
theorem pick1 {r : Bool} {σ : L2.St} {H : Hp} {Q : VK} (q : Q (.int (if r = true then 1 else 0)) H) : if r = true then tC (.int 1) σ H Q else tC (.int 0) σ H Q := by
  cases r
  · exact q
  · exact q
def szs (items : List (Nat × T)) : Nat := (items.map fun p => p.2.size).sum
theorem szs_snoc (ds : List (Nat × T)) (d : Nat × T) : szs (ds ++ [d]) = szs ds + d.2.size := by simp [szs]
theorem szs_len : ∀ ds : List (Nat × T), ds.length ≤ szs ds
  | [] => Nat.le_refl _
  | d :: ds => by
    have := szs_len ds
    have := d.2.size_pos
    have e : szs (d :: ds) = d.2.size + szs ds := by simp [szs]
    rw [List.length_cons, e]
    omega
/-- what stands on the stack of check_speech -/
def SpE (K : PySem.W.Frag) (H : Hp) (u : V) (d : Nat × T) : Prop := ∃ (p c : Addr) (vt : V) (ps : List V), u = .ref p ∧ SqT K H p [.ref c, vt] ∧ SqT K H c ps ∧ ps.length = d.1 ∧ TAt K H vt d.2
theorem SpE.tk {K : PySem.W.Frag} {H H' : Hp} {u : V} {d : Nat × T} (h : SpE K H u d) (e : TK K H H') : SpE K H' u d := by
  obtain ⟨p, c, vt, ps, h1, h2, h3, h4, h5⟩ := h
  exact ⟨p, c, vt, ps, h1, e _ _ h2, e _ _ h3, h4, h5.tk e⟩
/-- what stands on the stack of talk_bits -/
def BtE (K : PySem.W.Frag) (H : Hp) (u : V) (d : Nat × T) : Prop := ∃ (p : Addr) (vt : V), u = .ref p ∧ SqT K H p [.int d.1, vt] ∧ TAt K H vt d.2
theorem BtE.tk {K : PySem.W.Frag} {H H' : Hp} {u : V} {d : Nat × T} (h : BtE K H u d) (e : TK K H H') : BtE K H' u d := by
  obtain ⟨p, vt, h1, h2, h3⟩ := h
  exact ⟨p, vt, h1, e _ _ h2, h3.tk e⟩
section
variable {P : Program} {w : World} {K : PySem.W.Frag} {mg : Str → Option Value} {base : Heap}
/-! ### check_speech -/
abbrev s_speech : Stmt := top 27
def spSpeech (K : PySem.W.Frag) : Sp := fun vs H Q _ => ∃ (gv tv : V) (gr : List (List Int)) (R C : Nat) (t : T), vs = [gv, tv] ∧ GAt K H gv gr ∧ GOk gr R C ∧ TAt K H tv t ∧ t.ok R C ∧ t.dep ≤ 50 ∧ t.size ≤ 400 ∧ ∀ v H', Same H H' → Q v H'
theorem sc_speech : FnScope ["grid", "value", "left", "met", "path", "part"] ["grid", "value"] (defScope s_speech) := ⟨rfl, rfl, rfl, by decide +kernel, rfl, by decide +kernel, by decide +kernel⟩
theorem ok_speech (T' : Txt K mg) (D : Df K mg "check_speech" s_speech) (cW : Cal P w K mg base "is_word" 1 ["value"] (spWord K)) (cP : Cal P w K mg base "check_part" 3 ["grid", "part", "path", "above", "met"] (spPart K)) :
    Cal P w K mg base "check_speech" 4 ["grid", "value"] (spSpeech K) := by
  refine cal_mk D sc_speech (fun vs H Q E h => ?_) (fun _ _ _ _ _ _ us hl => match us, hl with | [_, _], _ => rfl) (fun f cdv A outer s H vs Q E hr h => ?_)
  · obtain ⟨_, _, _, _, _, _, rfl, _⟩ := h
    rfl
  obtain ⟨gv, tv, gr, R, C, t, rfl, hg, ok, ht, tok, td, ts, q⟩ := h
  refine ⟨_, pss_cons (ps_par (i := 2) (j := 3) rfl sc_speech.nd rfl rfl (by decide) rfl rfl (pa_cons (pe_lst (pa_cons (pe_tup (pa_cons (pe_tup pa_nil) (pa_cons (pv 1) pa_nil))) pa_nil)) (pa_cons pe_int pa_nil)) (by rfl))
    (pss_cons (ps_while PassesOwn.never (pt_cmpR op_gt (pe_callB call_len_seq (by rfl) T'.len PySem.boot_len (pa_cons (pv 2) pa_nil)) pe_int (nomark _))
      (pss_cons (ps_asg (pe_bm0 PySem.F.plainAttrs_list PySem.F.slot_list_pop PySem.F.type_list_pop mt_pop (pv 2)) (pg_tup rfl (pgs_cons (pg_name (i := 4) sc_speech.nd rfl (Or.inl rfl)) (pgs_cons (pg_name (i := 5) sc_speech.nd rfl (Or.inl rfl)) pgs_nil))))
      (pss_cons (ps_set (i := 3) sc_speech.nd rfl (.inl rfl) (pe_op op_add (pv 3) pe_int))
      (pss_cons (ps_expr (pe_cal cP hr (by decide) (by rfl) (pa_cons (pv 0) (pa_cons (pv 5) (pa_cons (pv 4) (pa_cons (pe_callB call_len_seq (by rfl) T'.len PySem.boot_len (pa_cons (pv 4) pa_nil)) (pa_cons (pv 3) pa_nil)))))))
      (pss_one (ps_if (pt_val (pe_cal cW hr (by decide) (by rfl) (pa_cons (pv 5) pa_nil)))
        (pss_cons (ps_expr (pe_bm PySem.F.plainAttrs_list PySem.F.slot_list_append PySem.F.type_list_append mt_append (pv 2) (pa_cons (pe_tup (pa_cons (pe_op op_catU (pv 4) (pe_tup (pa_cons pe_int pa_nil))) (pa_cons (px 5) pa_nil))) pa_nil)))
        (pss_one (ps_expr (pe_bm PySem.F.plainAttrs_list PySem.F.slot_list_append PySem.F.type_list_append mt_append (pv 2) (pa_cons (pe_tup (pa_cons (pe_op op_catU (pv 4) (pe_tup (pa_cons pe_int pa_nil))) (pa_cons (px 5) pa_nil))) pa_nil)))))
        pss_nil))))))
    (pss_one (ps_ret (pv 1)))), ?_⟩
  refine ⟨none_line, fun c0 n0 => ⟨_, rfl, two_line _ _, fun c1 n1 => ⟨one_line _, fun L nL => ⟨_, _, rfl, ?_⟩⟩⟩⟩
  have e0 := same_new n0 (.tup [])
  have e1 := same_new n1 (.tup [.ref c0, tv])
  have e2 := same_new nL (.lst [.ref c1])
  have eH := e0.trans (e1.trans e2)
  have freshL : H L = none := (e0.trans e1).free nL
  refine ⟨fun m σ H' => ∃ (us : List V) (items : List (Nat × T)) (met : Int) (y4 y5 : Option V), σ = [some gv, some tv, some (.ref L), some (.int met), y4, y5] ∧ Same H H' ∧ H' L = some (.lst us) ∧ All2 (SpE K H') us items ∧
    (∀ d ∈ items, d.2.ok R C ∧ d.1 + d.2.dep ≤ 50) ∧ met + (szs items : Int) ≤ 400 ∧ 0 ≤ met ∧ m = szs items, ⟨_, [.ref c1], [(0, t)], 0, none, none, rfl, eH, upd_same, .cons ⟨c1, c0, tv, [], rfl, e2.sqt sqt_new, e2.sqt (e1.sqt sqt_new), rfl, ht.tk eH.tk⟩ .nil, ?_, ?_, Int.le_refl 0, rfl⟩, ?_⟩
  · intro d hd
    have : d = (0, t) := by simpa using hd
    subst this
    exact ⟨tok, by simpa using td⟩
  · have : szs [(0, t)] = t.size := by simp [szs]
    rw [this]
    omega
  rintro m σ H1 ⟨us, items, met, y4, y5, rfl, e, hL, hA, hI, hM, hM0, rfl⟩
  refine ⟨_, rfl, _, _, rfl, .inl (SqL.of hL), _, _, rfl, rfl, _, rfl, ?_⟩
  by_cases hlen : 0 < us.length
  · refine itT (decide_eq_true (by omega)) ⟨fun σ' H' => ∃ m', m' < szs items ∧ _, fun _ _ z => z, ?_⟩
    obtain ⟨us', u, ds, d, rfl, rfl, hA', p, c, vt, ps, rfl, hp, hc, hn, hvt⟩ := hA.last hlen
    obtain ⟨n, t'⟩ := d
    obtain ⟨okt, dept⟩ := hI _ (List.mem_append_right _ List.mem_cons_self)
    simp only at hn hvt okt dept
    have hsz := szs_snoc ds (n, t')
    simp only at hsz
    have hpos := t'.size_pos
    have tk1 : TK K H1 (upd H1 L (.lst us')) := tk_list hL
    have e1' : Same H (upd H1 L (.lst us')) := same_upd e freshL
    refine ⟨_, rfl, .inl ⟨rfl, _, SqL.of hL⟩, L, _, _, rfl, rfl, hL, top_of, ?_⟩
    rw [List.dropLast_concat]
    refine ⟨p, _, rfl, tk1 _ _ hp, rfl, _, _, rfl, _, _, rfl, rfl, ?_⟩
    refine ⟨_, rfl, _, _, rfl, rfl, ?_⟩
    refine ⟨_, rfl, _, rfl, _, rfl, _, rfl, _, _, rfl, .inr (tk1 _ _ hc), _, rfl, gv, vt, .ref c, gr, R, C, t', _, _, rfl, (hg.tk e1'.tk), ok, hvt.tk tk1, okt, by omega, by omega, fun H2 e2' => ?_⟩
    refine ⟨_, rfl, vt, t', rfl, (hvt.tk tk1).tk e2'.tk, fun H3 e3' => ⟨_, rfl, ?_⟩⟩
    have tk3 : TK K H1 H3 := tk1.trans (e2'.trans e3').tk
    have eH3 : Same H H3 := e1'.trans (e2'.trans e3')
    have hL3 : H3 L = some (.lst us') := (e2'.trans e3') _ _ upd_same
    have hA3 : All2 (SpE K H3) us' ds := hA'.mono fun _ _ z => z.tk tk3
    have hlen' : us'.length ≤ 400 := by have := hA'.len; have := szs_len ds; omega
    cases t' with
    | e k =>
      refine iteF ⟨szs ds, by omega, us', ds, met + 1, _, _, rfl, eH3, hL3, hA3, fun d hd => hI d (List.mem_append_left _ hd), by omega, by omega, rfl⟩
    | n r lot a b =>
      obtain ⟨p', p2, va, vb, rfl, h1, h2, h3, h4⟩ := hvt
      obtain ⟨lo, oa, ob⟩ := okt
      have dd : (T.n r lot a b).dep = max a.dep b.dep + 1 := rfl
      have ss : (T.n r lot a b).size = 1 + a.size + b.size := rfl
      refine iteT ⟨_, rfl, .inl ⟨rfl, _, SqL.of hL3⟩, _, rfl, one_line _, fun d1 n1 => ⟨c, d1, ps, _, rfl, rfl, (same_new n1 _).sqt (tk3 _ _ hc), sqt_new, ?_, fun c' H4 e4 hs4 => ?_⟩⟩
      · rw [hn]; exact small (by show n + 1 ≤ 1000; omega)
      have e5 : Same H3 H4 := (same_new n1 _).trans e4
      refine rx rfl (e5.sqt (tk3 _ _ h1)) rfl ⟨two_line _ _, fun q1 nq1 => ⟨L, us', _, rfl, rfl, (e5.trans (same_new nq1 _)) _ _ hL3, Nat.lt_of_le_of_lt hlen' (by decide), ?_⟩⟩
      have e6 : Same H3 (upd H4 q1 (.tup [.ref c', vb])) := e5.trans (same_new nq1 _)
      have hL6 : upd H4 q1 (.tup [.ref c', vb]) L = some (.lst us') := e6 _ _ hL3
      have tk7 : TK K (upd H4 q1 (.tup [.ref c', vb])) (upd (upd H4 q1 (.tup [.ref c', vb])) L (.lst (us' ++ [.ref q1]))) := tk_list hL6
      have tkA : TK K H3 (upd (upd H4 q1 (.tup [.ref c', vb])) L (.lst (us' ++ [.ref q1]))) := e6.tk.trans tk7
      have eA : Same H (upd (upd H4 q1 (.tup [.ref c', vb])) L (.lst (us' ++ [.ref q1]))) := same_upd (eH3.trans e6) freshL
      generalize hHA : upd (upd H4 q1 (.tup [.ref c', vb])) L (.lst (us' ++ [.ref q1])) = HA at tkA eA
      have hLA : HA L = some (.lst (us' ++ [.ref q1])) := by rw [← hHA]; exact upd_same
      have en1 : SpE K HA (.ref q1) (n + 1, b) := ⟨q1, c', vb, _, rfl, hHA ▸ tk7 _ _ sqt_new, hHA ▸ tk7 _ _ ((same_new nq1 _).sqt hs4), by rw [List.length_append, hn]; rfl, h4.tk (tk3.trans tkA)⟩
      refine ⟨_, rfl, .inl ⟨rfl, _, SqL.of hLA⟩, _, rfl, one_line _, fun d2 n2 => ⟨c, d2, ps, _, rfl, rfl, (same_new n2 _).sqt (tkA _ _ (tk3 _ _ hc)), sqt_new, ?_, fun c2 H5 e7 hs5 => ?_⟩⟩
      · rw [hn]; exact small (by show n + 1 ≤ 1000; omega)
      have e8 : Same HA H5 := (same_new n2 _).trans e7
      refine rx rfl (e8.sqt (tkA _ _ (tk3 _ _ h1))) rfl ⟨two_line _ _, fun q2 nq2 => ⟨L, us' ++ [.ref q1], _, rfl, rfl, (e8.trans (same_new nq2 _)) _ _ hLA, ?_, ?_⟩⟩
      · rw [List.length_append]; exact Nat.lt_of_le_of_lt (by show us'.length + 1 ≤ 401; omega) (by decide)
      have e9 : Same HA (upd H5 q2 (.tup [.ref c2, va])) := e8.trans (same_new nq2 _)
      have hL9 : upd H5 q2 (.tup [.ref c2, va]) L = some (.lst (us' ++ [.ref q1])) := e9 _ _ hLA
      have tk10 : TK K (upd H5 q2 (.tup [.ref c2, va])) (upd (upd H5 q2 (.tup [.ref c2, va])) L (.lst (us' ++ [.ref q1] ++ [.ref q2]))) := tk_list hL9
      have tkB := e9.tk.trans tk10
      have en2 : SpE K (upd (upd H5 q2 (.tup [.ref c2, va])) L (.lst (us' ++ [.ref q1] ++ [.ref q2]))) (.ref q2) (n + 1, a) :=
        ⟨q2, c2, va, _, rfl, tk10 _ _ sqt_new, tk10 _ _ ((same_new nq2 _).sqt hs5), by rw [List.length_append, hn]; rfl, h3.tk (tk3.trans (tkA.trans tkB))⟩
      refine ⟨szs (ds ++ [(n + 1, b)] ++ [(n + 1, a)]), ?_, us' ++ [.ref q1] ++ [.ref q2], ds ++ [(n + 1, b)] ++ [(n + 1, a)], met + 1, _, _, rfl, same_upd (eA.trans e9) freshL, upd_same, ?_, ?_, ?_, by omega, rfl⟩
      · rw [szs_snoc, szs_snoc]; simp only; omega
      · exact ((hA3.mono fun _ _ z => z.tk (tkA.trans tkB)).snoc (en1.tk tkB)).snoc en2
      · intro d hd
        rcases List.mem_append.mp hd with hd | hd
        · rcases List.mem_append.mp hd with hd | hd
          · exact hI d (List.mem_append_left _ hd)
          · have : d = (n + 1, b) := by simpa using hd
            subst this
            exact ⟨ob, by simp only; omega⟩
        · have : d = (n + 1, a) := by simpa using hd
          subst this
          exact ⟨oa, by simp only; omega⟩
      · rw [szs_snoc, szs_snoc]; simp only; omega
  · refine itF (decide_eq_false (by omega)) ⟨_, rfl, q _ _ e⟩
/-! ### is_hand_talk -/
abbrev s_hand : Stmt := top 28
def spHand (K : PySem.W.Frag) : Sp := fun vs H Q _ => ∃ (gv tv : V) (gr : List (List Int)) (R C : Nat) (t : T), vs = [gv, tv] ∧ GAt K H gv gr ∧ GOk gr R C ∧ TAt K H tv t ∧ t.ok R C ∧ t.dep ≤ 50 ∧ t.size ≤ 400 ∧ ∀ H', Same H H' → Q (.bl true) H'
theorem sc_hand : FnScope ["grid", "value"] ["grid", "value"] (defScope s_hand) := ⟨rfl, rfl, rfl, by decide +kernel, rfl, by decide +kernel, by decide +kernel⟩
theorem ok_hand (D : Df K mg "is_hand_talk" s_hand) (C : Cal P w K mg base "check_speech" 4 ["grid", "value"] (spSpeech K)) : Cal P w K mg base "is_hand_talk" 5 ["grid", "value"] (spHand K) := by
  refine cal_mk D sc_hand (fun vs H Q E h => ?_) (fun _ _ _ _ _ _ us hl => match us, hl with | [_, _], _ => rfl) (fun f cdv A outer s H vs Q E hr h => ?_)
  · obtain ⟨_, _, _, _, _, _, rfl, _⟩ := h
    rfl
  obtain ⟨gv, tv, gr, R, C', t, rfl, hg, ok, ht, tok, td, ts, q⟩ := h
  refine ⟨_, pss_cons (ps_try_thru0 (pss_one (ps_expr (pe_cal C hr (by decide) (by rfl) (pa_cons (pv 0) (pa_cons (pv 1) pa_nil)))))) (pss_one (ps_ret pe_bl)), ?_⟩
  exact ⟨_, rfl, _, rfl, gv, tv, gr, R, C', t, rfl, hg, ok, ht, tok, td, ts, fun _ H1 e => q H1 e⟩
/-! ### walked_so -/
abbrev s_walked : Stmt := top 29
def spWalked (K : PySem.W.Frag) : Sp := fun vs H Q _ => ∃ (tv : V) (i j : Int) (t : T), vs = [tv, .int i, .int j] ∧ TAt K H tv t ∧ t.dep ≤ 50 ∧ ∀ p c H', Same H H' → H' p = some (.tup [.ref c, .int (t.go i j)]) → Q (.ref p) H'
theorem sc_walked : FnScope ["speech", "row", "column", "found", "bit"] ["speech", "row", "column"] (defScope s_walked) := ⟨rfl, rfl, rfl, by decide +kernel, rfl, by decide +kernel, by decide +kernel⟩
theorem ok_walked (D : Df K mg "walked_so" s_walked) (cW : Cal P w K mg base "is_word" 1 ["value"] (spWord K)) : Cal P w K mg base "walked_so" 2 ["speech", "row", "column"] (spWalked K) := by
  refine cal_mk D sc_walked (fun vs H Q E h => ?_) (fun _ _ _ _ _ _ us hl => match us, hl with | [_, _, _], _ => rfl) (fun f cdv A outer s H vs Q E hr h => ?_)
  · obtain ⟨_, _, _, _, rfl, _⟩ := h
    rfl
  obtain ⟨tv, i, j, t, rfl, ht, td, q⟩ := h
  refine ⟨_, pss_cons (ps_set (i := 3) sc_walked.nd rfl (.inl rfl) (pe_lst pa_nil))
    (pss_cons (ps_while PassesOwn.never (pt_val (pe_cal cW hr (by decide) (by rfl) (pa_cons (pv 0) pa_nil)))
      (pss_cons (ps_set (i := 4) sc_walked.nd rfl (.inl rfl) (pe_ifExp (pt_cmpR op_in_seq (pe_ifExp (pt_cmpR op_eq (px 0) pe_str (nomark _)) (pv 1) (pv 2)) (px 0) (by rfl)) pe_int pe_int))
      (pss_cons (ps_expr (pe_bm PySem.F.plainAttrs_list PySem.F.slot_list_append PySem.F.type_list_append mt_append (pv 3) (pa_cons (pe_tup (pa_cons (px 0) (pa_cons (pv 4) pa_nil))) pa_nil)))
      (pss_one (ps_set (i := 0) sc_walked.nd rfl (.inl rfl) (pe_ifExp (pt_cmpR op_eq (pv 4) pe_int (nomark _)) (px 0) (px 0)))))))
    (pss_one (ps_ret (pe_tup (pa_cons (pv 3) (pa_cons (pv 0) pa_nil)))))), ?_⟩
  refine ⟨none_line, fun L nL => ?_⟩
  refine ⟨fun m σ H' => ∃ (v : V) (t' : T) (us : List V) (y : Option V), σ = [some v, some (.int i), some (.int j), some (.ref L), y] ∧ Same H H' ∧ H' L = some (.lst us) ∧ TAt K H' v t' ∧ t'.go i j = t.go i j ∧ us.length + t'.dep ≤ 50 ∧ m = t'.dep,
    ⟨_, tv, t, [], none, rfl, same_new nL _, upd_same, ht.tk (same_new nL _).tk, rfl, by simpa using td, rfl⟩, ?_⟩
  rintro m σ H1 ⟨v, t', us, y, rfl, e, hL, hv, hgo, hd, rfl⟩
  refine ⟨_, rfl, v, t', rfl, hv, fun H2 e2 => ⟨_, rfl, ?_⟩⟩
  have eH2 := e.trans e2
  have hL2 := e2 _ _ hL
  cases t' with
  | e k =>
    have hv' : v = .int k := hv
    subst hv'
    refine iteF ⟨_, rfl, _, rfl, two_line _ _, fun p np => ?_⟩
    refine q p L _ (eH2.trans (same_new np _)) ?_
    rw [upd_same, ← hgo]
    rfl
  | n r lot a b =>
    obtain ⟨p, p2, va, vb, rfl, h1, h2, h3, h4⟩ := hv
    have h1' := e2.sqt h1
    have dd : (T.n r lot a b).dep = max a.dep b.dep + 1 := rfl
    refine iteT ⟨fun σ' H' => ∃ m', m' < (T.n r lot a b).dep ∧ _, fun _ _ z => z, ?_⟩
    have h2' := e2.sqt h2
    -- the hand's number
    have go : (T.n r lot a b).go i j = if (if r then i else j) ∈ lot then a.go i j else b.go i j := rfl
    rw [go] at hgo
    refine rx rfl h1' rfl ⟨rfl, _, rfl, itD (word_row r) (pick rfl rfl (rx rfl h1' rfl ⟨p2, _, rfl, .inr h2', rfl, flat_ints lot, _, rfl, itD (r := decide ((if r then i else j) ∈ lot)) ?_ (pick1 ?_)⟩))⟩
    · rw [if_neg Bool.false_ne_true]
      exact inV_int _ _
    generalize (if r then i else j) = n at hgo
    refine ⟨_, rfl, .inl ⟨rfl, _, SqL.of hL2⟩, rx rfl h1' rfl ⟨_, rfl, two_line _ _, fun q1 n1 => ⟨L, us, _, rfl, rfl, (same_new n1 _) _ _ hL2, Nat.lt_of_le_of_lt (by omega : us.length ≤ 50) (by decide), ?_⟩⟩⟩
    have hL3 := (same_new n1 (.tup [.str (word r), .int (if decide (n ∈ lot) = true then 1 else 0)])) _ _ hL2
    have tk3 : TK K H2 (upd (upd H2 q1 (.tup [.str (word r), .int (if decide (n ∈ lot) = true then 1 else 0)])) L (.lst (us ++ [.ref q1]))) := (same_new n1 _).tk.trans (tk_list hL3)
    have e3 : Same H (upd (upd H2 q1 (.tup [.str (word r), .int (if decide (n ∈ lot) = true then 1 else 0)])) L (.lst (us ++ [.ref q1]))) := same_upd (eH2.trans (same_new n1 _)) nL
    have hL4 : upd (upd H2 q1 (.tup [.str (word r), .int (if decide (n ∈ lot) = true then 1 else 0)])) L (.lst (us ++ [.ref q1])) L = some (.lst (us ++ [.ref q1])) := upd_same
    generalize upd (upd H2 q1 (.tup [.str (word r), .int (if decide (n ∈ lot) = true then 1 else 0)])) L (.lst (us ++ [.ref q1])) = H3 at tk3 e3 hL4
    have h1'' := tk3 _ _ h1'
    refine ⟨_, rfl, rfl, _, rfl, ?_⟩
    have hlen : (us ++ [V.ref q1]).length = us.length + 1 := by simp
    by_cases hm : n ∈ lot
    · refine itT ?_ (rx rfl h1'' rfl ⟨a.dep, by omega, va, a, _, _, rfl, e3, hL4, h3.tk (e2.tk.trans tk3), ?_, by omega, rfl⟩)
      · rw [decide_eq_true hm]; rfl
      · rw [if_pos hm] at hgo; exact hgo
    · refine itF ?_ (rx rfl h1'' rfl ⟨b.dep, by omega, vb, b, _, _, rfl, e3, hL4, h4.tk (e2.tk.trans tk3), ?_, by omega, rfl⟩)
      · rw [decide_eq_false hm]; rfl
      · rw [if_neg hm] at hgo; exact hgo
/-! ### said_so -/
abbrev s_said : Stmt := top 30
def spSaid (K : PySem.W.Frag) : Sp := fun vs H Q _ => ∃ (tv : V) (i j : Int) (t : T), vs = [tv, .int i, .int j] ∧ TAt K H tv t ∧ t.dep ≤ 50 ∧ ∀ H', Same H H' → Q (.int (t.go i j)) H'
theorem sc_said : FnScope ["speech", "row", "column"] ["speech", "row", "column"] (defScope s_said) := ⟨rfl, rfl, rfl, by decide +kernel, rfl, by decide +kernel, by decide +kernel⟩
theorem ok_said (D : Df K mg "said_so" s_said) (C : Cal P w K mg base "walked_so" 2 ["speech", "row", "column"] (spWalked K)) : Cal P w K mg base "said_so" 3 ["speech", "row", "column"] (spSaid K) := by
  refine cal_mk D sc_said (fun vs H Q E h => ?_) (fun _ _ _ _ _ _ us hl => match us, hl with | [_, _, _], _ => rfl) (fun f cdv A outer s H vs Q E hr h => ?_)
  · obtain ⟨_, _, _, _, rfl, _⟩ := h
    rfl
  obtain ⟨tv, i, j, t, rfl, ht, td, q⟩ := h
  refine ⟨_, pss_one (ps_ret (pe_ix ix_tup (pe_cal C hr (by decide) (by rfl) (pa_cons (pv 0) (pa_cons (pv 1) (pa_cons (pv 2) pa_nil)))) pe_int (fun _ _ => rfl))), ?_⟩
  exact ⟨_, rfl, _, rfl, _, rfl, tv, i, j, t, rfl, ht, td, fun p c H' e hp => ⟨p, _, _, _, rfl, rfl, .inl (.inl hp), rfl, q _ e⟩⟩
/-! ### talk_bits -/
abbrev s_bits : Stmt := top 31
def spBits (K : PySem.W.Frag) : Sp := fun vs H Q _ => ∃ (tv : V) (t : T), vs = [tv] ∧ TAt K H tv t ∧ t.size ≤ 400 ∧ ∀ H', Same H H' → Q (.int (t.dep : Int)) H'
theorem sc_bits : FnScope ["speech", "most", "left", "above", "part"] ["speech"] (defScope s_bits) := ⟨rfl, rfl, rfl, by decide +kernel, rfl, by decide +kernel, by decide +kernel⟩
/-- the deepest that still stands on the stack -/
def deep : List (Nat × T) → Nat
  | [] => 0
  | d :: ds => max (d.1 + d.2.dep) (deep ds)
theorem deep_snoc : ∀ (ds : List (Nat × T)) (d : Nat × T), deep (ds ++ [d]) = max (deep ds) (d.1 + d.2.dep)
  | [], d => by simp [deep]
  | e :: ds, d => by
    have ih := deep_snoc ds d
    show max (e.1 + e.2.dep) (deep (ds ++ [d])) = max (max (e.1 + e.2.dep) (deep ds)) (d.1 + d.2.dep)
    rw [ih]
    omega
theorem ok_bits (T' : Txt K mg) (D : Df K mg "talk_bits" s_bits) (cW : Cal P w K mg base "is_word" 1 ["value"] (spWord K)) : Cal P w K mg base "talk_bits" 2 ["speech"] (spBits K) := by
  refine cal_mk D sc_bits (fun vs H Q E h => ?_) (fun _ _ _ _ _ _ us hl => match us, hl with | [_], _ => rfl) (fun f cdv A outer s H vs Q E hr h => ?_)
  · obtain ⟨_, _, rfl, _⟩ := h
    rfl
  obtain ⟨tv, t, rfl, ht, ts, q⟩ := h
  refine ⟨_, pss_cons (ps_par (i := 1) (j := 2) rfl sc_bits.nd rfl rfl (by decide) rfl rfl (pa_cons pe_int (pa_cons (pe_lst (pa_cons (pe_tup (pa_cons pe_int (pa_cons (pv 0) pa_nil))) pa_nil)) pa_nil)) (by rfl))
    (pss_cons (ps_while PassesOwn.never (pt_cmpR op_gt (pe_callB call_len_seq (by rfl) T'.len PySem.boot_len (pa_cons (pv 2) pa_nil)) pe_int (nomark _))
      (pss_cons (ps_asg (pe_bm0 PySem.F.plainAttrs_list PySem.F.slot_list_pop PySem.F.type_list_pop mt_pop (pv 2)) (pg_tup rfl (pgs_cons (pg_name (i := 3) sc_bits.nd rfl (Or.inl rfl)) (pgs_cons (pg_name (i := 4) sc_bits.nd rfl (Or.inl rfl)) pgs_nil))))
      (pss_cons (ps_set (i := 1) sc_bits.nd rfl (.inl rfl) (pe_callB (call_max2 rfl) (by rfl) T'.max (by decide +kernel) (pa_cons (pv 1) (pa_cons (pv 3) pa_nil))))
      (pss_one (ps_if (pt_val (pe_cal cW hr (by decide) (by rfl) (pa_cons (pv 4) pa_nil)))
        (pss_one (ps_expr (pe_bm PySem.F.plainAttrs_list PySem.F.slot_list_extend PySem.F.type_list_extend mt_extend (pv 2) (pa_cons (pe_lst (pa_cons (pe_tup (pa_cons (pe_op op_add (pv 3) pe_int) (pa_cons (px 4) pa_nil))) (pa_cons (pe_tup (pa_cons (pe_op op_add (pv 3) pe_int) (pa_cons (px 4) pa_nil))) pa_nil))) pa_nil)))) pss_nil)))))
    (pss_one (ps_ret (pv 1)))), ?_⟩
  refine ⟨_, rfl, two_line _ _, fun c1 n1 => ⟨one_line _, fun L nL => ⟨_, _, rfl, ?_⟩⟩⟩
  have e1 := same_new n1 (.tup [.int 0, tv])
  have e2 := same_new nL (.lst [.ref c1])
  have freshL : H L = none := e1.free nL
  refine ⟨fun m σ H' => ∃ (us : List V) (items : List (Nat × T)) (most : Nat) (y4 y5 : Option V), σ = [some tv, some (.int most), some (.ref L), y4, y5] ∧ Same H H' ∧ H' L = some (.lst us) ∧ All2 (BtE K H') us items ∧
    max most (deep items) = t.dep ∧ szs items ≤ 400 ∧ m = szs items, ⟨_, [.ref c1], [(0, t)], 0, none, none, rfl, e1.trans e2, upd_same, .cons ⟨c1, tv, rfl, e2.sqt sqt_new, ht.tk (e1.trans e2).tk⟩ .nil, ?_, ?_, rfl⟩, ?_⟩
  · simp [deep]
  · have : szs [(0, t)] = t.size := by simp [szs]
    omega
  rintro m σ H1 ⟨us, items, most, y4, y5, rfl, e, hL, hA, hI, hM, rfl⟩
  refine ⟨_, rfl, _, _, rfl, .inl (SqL.of hL), _, _, rfl, rfl, _, rfl, ?_⟩
  by_cases hlen : 0 < us.length
  · refine itT (decide_eq_true (by omega)) ⟨fun σ' H' => ∃ m', m' < szs items ∧ _, fun _ _ z => z, ?_⟩
    obtain ⟨us', u, ds, d, rfl, rfl, hA', p, vt, rfl, hp, hvt⟩ := hA.last hlen
    obtain ⟨n, t'⟩ := d
    simp only at hp hvt
    have hsz := szs_snoc ds (n, t')
    have hdp := deep_snoc ds (n, t')
    simp only at hsz hdp
    have hpos := t'.size_pos
    have tk1 : TK K H1 (upd H1 L (.lst us')) := tk_list hL
    have e1' : Same H (upd H1 L (.lst us')) := same_upd e freshL
    refine ⟨_, rfl, .inl ⟨rfl, _, SqL.of hL⟩, L, _, _, rfl, rfl, hL, top_of, ?_⟩
    rw [List.dropLast_concat]
    refine ⟨p, _, rfl, tk1 _ _ hp, rfl, _, _, rfl, _, _, rfl, rfl, ?_⟩
    refine ⟨_, rfl, _, rfl, _, _, rfl, ?_⟩
    have mx : (if (n : Int) > (most : Int) then (n : Int) else (most : Int)) = ((max most n : Nat) : Int) := by
      by_cases hgt : (n : Int) > (most : Int)
      · rw [if_pos hgt]; omega
      · rw [if_neg hgt]; omega
    rw [mx]
    refine ⟨_, rfl, vt, t', rfl, hvt.tk tk1, fun H3 e3' => ⟨_, rfl, ?_⟩⟩
    have tk3 : TK K H1 H3 := tk1.trans e3'.tk
    have eH3 : Same H H3 := e1'.trans e3'
    have hL3 : H3 L = some (.lst us') := e3' _ _ upd_same
    have hA3 : All2 (BtE K H3) us' ds := hA'.mono fun _ _ z => z.tk tk3
    have hlen' : us'.length ≤ 400 := by have := hA'.len; have := szs_len ds; omega
    cases t' with
    | e k =>
      have dd : (T.e k).dep = 0 := rfl
      exact iteF ⟨szs ds, by omega, us', ds, max most n, _, _, rfl, eH3, hL3, hA3, by omega, by omega, rfl⟩
    | n r lot a b =>
      obtain ⟨p', p2, va, vb, rfl, h1, h2, h3, h4⟩ := hvt
      have dd : (T.n r lot a b).dep = max a.dep b.dep + 1 := rfl
      have ss : (T.n r lot a b).size = 1 + a.size + b.size := rfl
      refine iteT ⟨_, rfl, .inl ⟨rfl, _, SqL.of hL3⟩, _, rfl, _, _, rfl, rfl, rx rfl (tk3 _ _ h1) rfl ⟨two_line _ _, fun q1 nq1 => ?_⟩⟩
      have e4 := same_new nq1 (.tup [.int ((n : Int) + 1), va])
      refine ⟨_, rfl, _, _, rfl, rfl, rx rfl (e4.sqt (tk3 _ _ h1)) rfl ⟨two_line _ _, fun q2 nq2 => ?_⟩⟩
      have e5 := same_new nq2 (.tup [.int ((n : Int) + 1), vb])
      refine ⟨two_line _ _, fun M nM => ?_⟩
      have e6 := same_new nM (.lst [.ref q1, .ref q2])
      have hL6 := (e4.trans (e5.trans e6)) _ _ hL3
      refine ⟨L, M, us', _, rfl, rfl, hL6, upd_same, small (by show us'.length + 2 ≤ 1000; omega), ?_⟩
      have tk7 := tk_list (K := K) (ys := us' ++ [.ref q1, .ref q2]) hL6
      have tkE := (e4.trans (e5.trans e6)).tk.trans tk7
      have en1 : BtE K _ (.ref q1) (n + 1, a) := ⟨q1, va, rfl, tk7 _ _ (e6.sqt (e5.sqt sqt_new)), h3.tk (tk3.trans tkE)⟩
      have en2 : BtE K _ (.ref q2) (n + 1, b) := ⟨q2, vb, rfl, tk7 _ _ (e6.sqt sqt_new), h4.tk (tk3.trans tkE)⟩
      refine ⟨szs (ds ++ [(n + 1, a)] ++ [(n + 1, b)]), ?_, us' ++ [.ref q1, .ref q2], ds ++ [(n + 1, a)] ++ [(n + 1, b)], max most n, _, _, rfl, same_upd (eH3.trans (e4.trans (e5.trans e6))) freshL, upd_same, ?_, ?_, ?_, rfl⟩
      · rw [szs_snoc, szs_snoc]; simp only; omega
      · have z := ((hA3.mono fun _ _ z => z.tk tkE).snoc en1).snoc en2
        rw [List.append_assoc] at z
        exact z
      · rw [deep_snoc, deep_snoc]; simp only; omega
      · rw [szs_snoc, szs_snoc]; simp only; omega
  · have nil : us = [] := List.eq_nil_of_length_eq_zero (by omega)
    subst nil
    cases hA
    refine itF (decide_eq_false (by omega)) ⟨_, rfl, ?_⟩
    have z : most = t.dep := by simpa [deep] using hI
    rw [z]
    exact q _ e
end
end K76
set_option Elab.async false
set_option linter.all false
set_option maxRecDepth 100000
set_option maxHeartbeats 4000000
namespace K76
open PySem PySem.Spec PyProof.Rows L2
theorem notT {p : Prop} [Decidable p] (h : p) : (!decide p) = false := by simp [h]
/-- a mix: so many whole weights of S in all -/
def MxE (K : PySem.W.Frag) (H : Hp) (S : Int) (u : V) (d : Int × T) : Prop := ∃ (p : Addr) (f tv : V), u = .ref p ∧ SqT K H p [f, tv] ∧ Fr K H f (red d.1 S) ∧ TAt K H tv d.2
theorem MxE.tk {K : PySem.W.Frag} {H H' : Hp} {S : Int} {u : V} {d : Int × T} (h : MxE K H S u d) (e : TK K H H') : MxE K H' S u d := by
  obtain ⟨p, f, tv, h1, h2, h3, h4⟩ := h
  exact ⟨p, f, tv, h1, e _ _ h2, h3.tk e, h4.tk e⟩
def MAt (K : PySem.W.Frag) (H : Hp) (S : Int) (v : V) (ps : List (Int × T)) : Prop := ∃ p us, v = .ref p ∧ SqT K H p us ∧ All2 (MxE K H S) us ps
theorem MAt.tk {K : PySem.W.Frag} {H H' : Hp} {S : Int} {v : V} {ps : List (Int × T)} (h : MAt K H S v ps) (e : TK K H H') : MAt K H' S v ps := by
  obtain ⟨p, us, h1, h2, h3⟩ := h
  exact ⟨p, us, h1, e _ _ h2, h3.mono fun _ _ z => z.tk e⟩
structure MixOk (S : Int) (ps : List (Int × T)) (R C bits : Nat) : Prop where
  some_ : 1 ≤ ps.length
  few : ps.length ≤ 400
  each : ∀ d ∈ ps, 0 < d.1 ∧ d.2.ok R C ∧ d.2.dep ≤ bits
  sum : (ps.map (·.1)).sum = S
  s0 : 0 < S
  s5 : S ≤ 5000
  bits : bits ≤ 2
theorem size_of_dep {t : T} (h : t.dep ≤ 2) : t.size ≤ 7 := by
  have a := t.size_dep
  have b : 2 ^ (t.dep + 1) ≤ 2 ^ 3 := Nat.pow_le_pow_right (by decide) (by omega)
  omega
theorem MixOk.le {S : Int} {ps : List (Int × T)} {R C bits : Nat} (m : MixOk S ps R C bits) {d : Int × T} (h : d ∈ ps) : d.1 ≤ S := by
  rw [← m.sum]
  have pos : ∀ x ∈ ps.map (·.1), 0 ≤ x := by
    intro x hx
    obtain ⟨e, he, rfl⟩ := List.mem_map.mp hx
    exact Int.le_of_lt (m.each e he).1
  exact le_sum pos (List.mem_map.mpr ⟨d, h, rfl⟩)
where
  le_sum {l : List Int} : (∀ x ∈ l, 0 ≤ x) → ∀ {y : Int}, y ∈ l → y ≤ l.sum := by
    intro h y hy
    induction l with
    | nil => cases hy
    | cons a l ih =>
      have s0 := sum_nonneg (l := l) fun x hx => h x (List.mem_cons_of_mem _ hx)
      have a0 := h a List.mem_cons_self
      rw [List.sum_cons]
      rcases List.mem_cons.mp hy with rfl | hy
      · omega
      · have := ih (fun x hx => h x (List.mem_cons_of_mem _ hx)) hy
        omega
section
variable {P : Program} {w : World} {K : PySem.W.Frag} {mg : Str → Option Value} {base : Heap}
/-! ### check_grid -/
abbrev s_grid : Stmt := top 23
def spGrid (K : PySem.W.Frag) : Sp := fun vs H Q _ => ∃ (gv : V) (gr : List (List Int)) (R C : Nat), vs = [gv] ∧ GAt K H gv gr ∧ GOk gr R C ∧ ∀ v H', Same H H' → Q v H'
theorem sc_grid : FnScope ["value", "place", "line", "spot", "item"] ["value"] (defScope s_grid) := ⟨rfl, rfl, rfl, by decide +kernel, rfl, by decide +kernel, by decide +kernel⟩
theorem ok_grid (T' : Txt K mg) (D : Df K mg "check_grid" s_grid) (cF : Cal P w K mg base "is_from" 1 ["value", "low", "high"] spIsFrom) : Cal P w K mg base "check_grid" 2 ["value"] (spGrid K) := by
  refine cal_mk D sc_grid (fun vs H Q E h => ?_) (fun _ _ _ _ _ _ us hl => match us, hl with | [_], _ => rfl) (fun f cdv A outer s H vs Q E hr h => ?_)
  · obtain ⟨_, _, _, _, rfl, _⟩ := h
    rfl
  obtain ⟨gv, gr, R, C, rfl, ⟨pg, rs, rfl, hg, hrows⟩, ok, q⟩ := h
  obtain ⟨t1, mS⟩ := T'.sideH
  obtain ⟨t2, mI⟩ := T'.integer
  have hlen : rs.length = R := by rw [hrows.len, ok.len]
  have r0 := ok.r0
  have r4 := ok.r4
  have c0 := ok.c0
  have c4 := ok.c4
  refine ⟨_, pss_cons (ps_if (PW.pt (pw_or (pt_not (pt_val (pe_isi (n := "tuple") (pv 0) T'.isi (by rfl) (by rfl) T'.tuple (by decide +kernel)))) (pw_or1 (pt_not (pt_chain op_le op_le pe_int (pe_callB call_len_seq (by rfl) T'.len PySem.boot_len (pa_cons (pv 0) pa_nil)) (pe_glob (v := .int 6) (by rfl) mS ⟨_, rfl⟩)))))) pss_never pss_nil)
    (pss_cons (ps_for PassesOwn.never rfl (pi_enumT (by rfl) T'.enumerate (pa_cons (pv 0) pa_nil)) (pg_tup rfl (pgs_cons (pg_name (i := 1) sc_grid.nd rfl (Or.inl rfl)) (pgs_cons (pg_name (i := 2) sc_grid.nd rfl (Or.inl rfl)) pgs_nil)))
      (pss_cons (ps_if (PW.pt (pw_or (pt_not (pt_val (pe_isi (n := "tuple") (pv 2) T'.isi (by rfl) (by rfl) T'.tuple (by decide +kernel)))) (pw_or (pt_not (pt_chain op_le op_le pe_int (pe_callB call_len_seq (by rfl) T'.len PySem.boot_len (pa_cons (pv 2) pa_nil)) (pe_glob (v := .int 6) (by rfl) mS ⟨_, rfl⟩)))
          (pw_or1 (pt_cmpR op_ne (pe_callB call_len_seq (by rfl) T'.len PySem.boot_len (pa_cons (pv 2) pa_nil)) (pe_callB call_len_seq (by rfl) T'.len PySem.boot_len (pa_cons (px 0) pa_nil)) (nomark _)))))) pss_never pss_nil)
      (pss_one (ps_for PassesOwn.never rfl (pi_enumT (by rfl) T'.enumerate (pa_cons (pv 2) pa_nil)) (pg_tup rfl (pgs_cons (pg_name (i := 3) sc_grid.nd rfl (Or.inl rfl)) (pgs_cons (pg_name (i := 4) sc_grid.nd rfl (Or.inl rfl)) pgs_nil)))
        (pss_one (ps_if (pt_not (pt_val (pe_cal cF hr (by decide) (by rfl) (pa_cons (pv 4) (pa_cons pe_int (pa_cons (pe_glob (v := .int 9) (by rfl) mI ⟨_, rfl⟩) pa_nil)))))) pss_never pss_nil))))))
    (pss_one (ps_ret (pv 0)))), ?_⟩
  obtain ⟨ca, row0, f1, f2, f3, f4, _⟩ := grid_row hrows ok (i := 0) (by omega)
  refine ⟨_, rfl, _, _, _, _, _, rfl, .ty _, ty_tup hg, kit_ty k_tt, _, rfl, itF rfl ⟨_, rfl, _, _, rfl, .inr hg, _, _, rfl, rfl, _, rfl, itT (decide_eq_true (by omega)) ⟨_, _, rfl, rfl, _, rfl, itF (notT (by omega)) ?_⟩⟩⟩
  refine ⟨_, rfl, pg, _, rfl, hg, for_it (walk_enumT (K := K) (a := pg) (xs := rs)) (fun _ σ H' => ∃ y1 y2 y3 y4, σ = [some (.ref pg), y1, y2, y3, y4] ∧ Same H H') ⟨none, none, none, none, rfl, Same.refl _⟩ (fun i σ H' _ ⟨_, _, _, _, _, e⟩ => e.sqt hg) ?_ ?_⟩
  · rintro i v σ H1 H2 hi ⟨y1, y2, y3, y4, rfl, e⟩ ⟨Tp, x, y, rfl, hT, rfl, hx, hy⟩
    obtain rfl : x = .int (i : Nat) := (Option.some.inj hx).symm
    obtain ⟨c, row, g1, g2, g3, g4, g5⟩ := grid_row hrows ok (i := i) (by omega)
    have hy : rs[i]? = some y := hy
    obtain rfl : y = .ref c := by rw [g1] at hy; exact (Option.some.inj hy).symm
    have e1 : Same H (upd H1 Tp (.tup [.int (i : Nat), .ref c])) := e.trans (same_new hT _)
    generalize hH2 : upd H1 Tp (.tup [.int (i : Nat), .ref c]) = H2 at e1
    have hTp : SqT K H2 Tp [.int (i : Nat), .ref c] := by rw [← hH2]; exact sqt_new
    have hc := e1.sqt g3
    have l1 : (row.map V.int).length = C := by rw [List.length_map, g4]
    have l2 : (row0.map V.int).length = C := by rw [List.length_map, f4]
    refine ⟨Tp, _, rfl, hTp, rfl, _, _, rfl, _, _, rfl, rfl, ?_⟩
    refine ⟨_, rfl, _, _, _, _, _, rfl, .ty _, ty_tup hc, kit_ty k_tt, _, rfl, itF rfl ⟨_, rfl, _, _, rfl, .inr hc, _, _, rfl, rfl, _, rfl, itT (decide_eq_true (by omega)) ⟨_, _, rfl, rfl, _, rfl, itF (notT (by omega)) ?_⟩⟩⟩
    refine ⟨_, rfl, _, _, rfl, .inr hc, rx rfl (e1.sqt hg) (at0 f1) ⟨_, _, rfl, .inr (e1.sqt f3), rfl, _, rfl, itF ?_ ?_⟩⟩
    · rw [l1, l2]
      exact notT rfl
    refine ⟨_, rfl, c, _, rfl, hc, for_it (walk_enumT (K := K) (a := c) (xs := row.map V.int)) (fun _ σ H' => ∃ y3 y4, σ = [some (.ref pg), some (.int (i : Nat)), some (.ref c), y3, y4] ∧ Same H H') ⟨_, _, rfl, e1⟩ (fun i σ H' _ ⟨_, _, _, e⟩ => e.sqt g3) ?_ ?_⟩
    · rintro j v σ H3 H4 hj ⟨y5, y6, rfl, e3⟩ ⟨Tq, x, y, rfl, hT', rfl, hx', hy'⟩
      obtain rfl : x = .int (j : Nat) := (Option.some.inj hx').symm
      obtain ⟨n, hn, rfl⟩ := get_int (l := row) (i := j) hy'
      obtain ⟨n0, n9⟩ := g5 n (List.mem_of_getElem? hn)
      refine ⟨Tq, _, rfl, sqt_new, rfl, _, _, rfl, _, _, rfl, rfl, ?_⟩
      exact ⟨_, rfl, n, 0, 9, rfl, n0, n9, true, rfl, itF rfl ⟨_, _, rfl, e3.trans (same_new hT' _)⟩⟩
    · rintro σ H3 ⟨y5, y6, rfl, e3⟩
      exact ⟨_, _, _, _, rfl, e3⟩
  · rintro σ H1 ⟨y1, y2, y3, y4, rfl, e⟩
    exact ⟨_, rfl, q _ _ e⟩
/-! ### check_small -/
abbrev s_small : Stmt := top 36
def spSmall (K : PySem.W.Frag) : Sp := fun vs H Q _ => ∃ (gv : V) (gr : List (List Int)) (R C bits : Nat), vs = [gv, .int bits] ∧ GAt K H gv gr ∧ GOk gr R C ∧ bits ≤ 2 ∧ ∀ v H', Same H H' → Q v H'
theorem sc_small : FnScope ["grid", "bits"] ["grid", "bits"] (defScope s_small) := ⟨rfl, rfl, rfl, by decide +kernel, rfl, by decide +kernel, by decide +kernel⟩
theorem ok_small (T' : Txt K mg) (D : Df K mg "check_small" s_small) (cG : Cal P w K mg base "check_grid" 2 ["value"] (spGrid K)) (cF : Cal P w K mg base "is_from" 1 ["value", "low", "high"] spIsFrom) : Cal P w K mg base "check_small" 3 ["grid", "bits"] (spSmall K) := by
  refine cal_mk D sc_small (fun vs H Q E h => ?_) (fun _ _ _ _ _ _ us hl => match us, hl with | [_, _], _ => rfl) (fun f cdv A outer s H vs Q E hr h => ?_)
  · obtain ⟨_, _, _, _, _, rfl, _⟩ := h
    rfl
  obtain ⟨gv, gr, R, C, bits, rfl, hG, ok, hb, q⟩ := h
  obtain ⟨t1, mS⟩ := T'.sideC
  obtain ⟨t2, mB⟩ := T'.bits
  have r4 := ok.r4
  have c4 := ok.c4
  refine ⟨_, pss_cons (ps_expr (pe_cal cG hr (by decide) (by rfl) (pa_cons (pv 0) pa_nil)))
    (pss_cons (ps_if (PW.pt (pw_or (pt_cmpR op_gt (pe_callB call_len_seq (by rfl) T'.len PySem.boot_len (pa_cons (pv 0) pa_nil)) (pe_glob (v := .int 4) (by rfl) mS ⟨_, rfl⟩) (nomark _))
        (pw_or1 (pt_cmpR op_gt (pe_callB call_len_seq (by rfl) T'.len PySem.boot_len (pa_cons (px 0) pa_nil)) (pe_glob (v := .int 4) (by rfl) mS ⟨_, rfl⟩) (nomark _))))) pss_never pss_nil)
    (pss_one (ps_if (pt_not (pt_val (pe_cal cF hr (by decide) (by rfl) (pa_cons (pv 1) (pa_cons pe_int (pa_cons (pe_glob (v := .int 2) (by rfl) mB ⟨_, rfl⟩) pa_nil)))))) pss_never pss_nil))), ?_⟩
  refine ⟨_, rfl, gv, gr, R, C, rfl, hG, ok, fun _ H1 e => ?_⟩
  obtain ⟨pg, rs, rfl, hg, hrows⟩ := hG.tk e.tk
  have hlen : rs.length = R := by rw [hrows.len, ok.len]
  obtain ⟨ca, row0, f1, f2, f3, f4, _⟩ := grid_row hrows ok (i := 0) (by have := ok.r0; omega)
  have l2 : (row0.map V.int).length = C := by rw [List.length_map, f4]
  refine ⟨_, rfl, _, _, rfl, .inr hg, _, _, rfl, rfl, _, rfl, itF (decide_eq_false (by omega)) (rx rfl hg (at0 f1) ⟨_, _, rfl, .inr f3, _, _, rfl, rfl, _, rfl, itF (decide_eq_false (by omega)) ?_⟩)⟩
  exact ⟨_, rfl, _, 0, 2, rfl, by omega, by omega, true, rfl, itF rfl (q _ _ e)⟩
/-! ### is_pair -/
abbrev s_pair : Stmt := top 37
def spPair (K : PySem.W.Frag) : Sp := fun vs H Q _ => ∃ (gv u : V) (gr : List (List Int)) (R C bits : Nat) (S : Int) (d : Int × T), vs = [gv, .int bits, u] ∧ GAt K H gv gr ∧ GOk gr R C ∧ MxE K H S u d ∧ 0 < d.1 ∧ 0 < S ∧ d.2.ok R C ∧ d.2.dep ≤ bits ∧ bits ≤ 2 ∧ ∀ H', Same H H' → Q (.bl true) H'
theorem sc_pair : FnScope ["grid", "bits", "value"] ["grid", "bits", "value"] (defScope s_pair) := ⟨rfl, rfl, rfl, by decide +kernel, rfl, by decide +kernel, by decide +kernel⟩
theorem ok_pair (T' : Txt K mg) (D : Df K mg "is_pair" s_pair) (cR : Cal P w K mg base "is_fraction" 1 ["value"] (spIsFr K)) (cH : Cal P w K mg base "is_hand_talk" 5 ["grid", "value"] (spHand K)) (cB : Cal P w K mg base "talk_bits" 2 ["speech"] (spBits K)) :
    Cal P w K mg base "is_pair" 6 ["grid", "bits", "value"] (spPair K) := by
  refine cal_mk D sc_pair (fun vs H Q E h => ?_) (fun _ _ _ _ _ _ us hl => match us, hl with | [_, _, _], _ => rfl) (fun f cdv A outer s H vs Q E hr h => ?_)
  · obtain ⟨_, _, _, _, _, _, _, _, rfl, _⟩ := h
    rfl
  obtain ⟨gv, u, gr, R, C, bits, S, d, rfl, hG, ok, ⟨p, fv, tv, rfl, hp, ⟨pf, rfl, hf⟩, ht⟩, d0, s0, tok, td, hb, q⟩ := h
  refine ⟨_, pss_cons (ps_if (PW.pt (pw_or (pt_not (pt_val (pe_isi (n := "tuple") (pv 2) T'.isi (by rfl) (by rfl) T'.tuple (by decide +kernel)))) (pw_or (pt_cmpR op_ne (pe_callB call_len_seq (by rfl) T'.len PySem.boot_len (pa_cons (pv 2) pa_nil)) pe_int (nomark _))
      (pw_or (pt_not (pt_val (pe_cal cR hr (by decide) (by rfl) (pa_cons (px 2) pa_nil)))) (pw_or1 (pt_cmpR op_le (pe_ix ix_tup (px 2) pe_int (fun _ _ => rfl)) pe_int (nomark _))))))) (pss_one (ps_ret pe_bl)) pss_nil)
    (pss_one (ps_ret (pe_and (pe_cal cH hr (by decide) (by rfl) (pa_cons (pv 0) (pa_cons (px 2) pa_nil))) (pe_one (pe_cmpR op_le (pe_cal cB hr (by decide) (by rfl) (pa_cons (px 2) pa_nil)) (pv 1) (nomark _)))))), ?_⟩
  have pos := red_pos (a := d.1) s0
  have gt := red_gt d0 s0
  have sz := size_of_dep (t := d.2) (by omega)
  refine ⟨_, rfl, _, _, _, _, _, rfl, .ty _, ty_tup hp, kit_ty k_tt, _, rfl, itF rfl ⟨_, rfl, _, _, rfl, .inr hp, rfl, _, rfl, itF rfl ?_⟩⟩
  refine rx rfl hp rfl ⟨.ref pf, red d.1 S, rfl, ⟨pf, rfl, hf⟩, by omega, red_coprime s0, fun H1 e1 => ⟨_, rfl, itF rfl ?_⟩⟩
  refine rx rfl (e1.sqt hp) rfl ⟨pf, _, _, _, rfl, rfl, e1.sqt hf, rfl, _, _, rfl, rfl, _, rfl, itF (decide_eq_false (by omega)) ?_⟩
  refine ⟨_, rfl, rx rfl (e1.sqt hp) rfl ⟨gv, tv, gr, R, C, d.2, rfl, hG.tk e1.tk, ok, ht.tk e1.tk, tok, by omega, by omega, fun H2 e2 => ⟨_, rfl, itT rfl ?_⟩⟩⟩
  refine rx rfl (e2.sqt (e1.sqt hp)) rfl ⟨tv, d.2, rfl, (ht.tk e1.tk).tk e2.tk, by omega, fun H3 e3 => ⟨_, rfl, _, _, rfl, rfl, ?_⟩⟩
  have z : decide ((d.2.dep : Int) ≤ (bits : Int)) = true := decide_eq_true (by omega)
  show Q (.bl (decide ((d.2.dep : Int) ≤ (bits : Int)))) H3
  rw [z]
  exact q _ (e1.trans (e2.trans e3))
end
end K76
set_option Elab.async false
set_option linter.all false
set_option maxRecDepth 100000
set_option maxHeartbeats 4000000
namespace K76
open PySem PySem.Spec PyProof.Rows L2
theorem eq_go {x y : V} {b : Bool} {H : Hp} {Q : VK} (s : scal x y = true) (e : decide (x = y) = b) (q : Q (.bl b) H) : rEq x y H Q := ⟨s, by rw [e]; exact q⟩
theorem dp_fr {K : PySem.W.Frag} {H : Hp} {v : V} {f : Int × Int} (h : Fr K H v f) : Dp K H v (.tuple [.int f.1, .int f.2]) := by
  obtain ⟨p, rfl, h⟩ := h
  exact .tup h (.cons (.int _) (.cons (.int _) .nil))
theorem walk_rng {n : Nat} : Walk (Itr 0 n) n (fun _ => True) (fun i H x H' => H' = H ∧ x = .int (i : Nat)) :=
  walk_range.mono (fun _ h => h) fun i H x H' _ _ y => ⟨y.1, by rw [y.2]; show V.int (0 + (i : Int)) = V.int i; rw [Int.zero_add]⟩
section
variable {P : Program} {w : World} {K : PySem.W.Frag} {mg : Str → Option Value} {base : Heap}
/-! ### is_mix -/
abbrev s_mix : Stmt := top 38
def spIsMix (K : PySem.W.Frag) : Sp := fun vs H Q _ => ∃ (gv mv : V) (gr : List (List Int)) (R C bits : Nat) (S : Int) (ps : List (Int × T)), vs = [gv, .int bits, mv] ∧ GAt K H gv gr ∧ GOk gr R C ∧ MAt K H S mv ps ∧ MixOk S ps R C bits ∧ ∀ H', Same H H' → Q (.bl true) H'
theorem sc_mix : FnScope ["grid", "bits", "value", "pair"] ["grid", "bits", "value"] (defScope s_mix) := ⟨rfl, rfl, rfl, by decide +kernel, rfl, by decide +kernel, by decide +kernel⟩
theorem ok_mix (T' : Txt K mg) (D : Df K mg "is_mix" s_mix) (cP : Cal P w K mg base "is_pair" 6 ["grid", "bits", "value"] (spPair K)) (cS : Cal P w K mg base "sum_so" 3 ["some"] (spSum K)) : Cal P w K mg base "is_mix" 7 ["grid", "bits", "value"] (spIsMix K) := by
  refine cal_mk D sc_mix (fun vs H Q E h => ?_) (fun _ _ _ _ _ _ us hl => match us, hl with | [_, _, _], _ => rfl) (fun f cdv A outer s H vs Q E hr h => ?_)
  · obtain ⟨_, _, _, _, _, _, _, _, rfl, _⟩ := h
    rfl
  obtain ⟨gv, mv, gr, R, C, bits, S, ps, rfl, hG, ok, ⟨pm, us, rfl, hm, hA⟩, mok, q⟩ := h
  obtain ⟨t1, mP⟩ := T'.pairs
  obtain ⟨aW, mW, qW⟩ := T'.whole
  have hlen := hA.len
  have l1 := mok.some_
  have l2 := mok.few
  refine ⟨_, pss_cons (ps_if (PW.pt (pw_or (pt_not (pt_val (pe_isi (n := "tuple") (pv 2) T'.isi (by rfl) (by rfl) T'.tuple (by decide +kernel)))) (pw_or1 (pt_not (pt_chain op_le op_le pe_int (pe_callB call_len_seq (by rfl) T'.len PySem.boot_len (pa_cons (pv 2) pa_nil)) (pe_glob (v := .int 400) (by rfl) mP ⟨_, rfl⟩)))))) (pss_one (ps_ret pe_bl)) pss_nil)
    (pss_cons (ps_if (pt_cmpR op_gt (pe_callB call_len_seq (by rfl) T'.len PySem.boot_len (pa_cons (pe_lc (own := [("pair", 3)]) (g := gName 3)
        (tt := tNot (tB (tCall (spPair K) [] E0 (tCons (tVar 0) (tCons (tVar 1) (tCons (tVar 3) tNil))))))
        rfl sc_mix.nd (pi_tup (pv 2)) (blkOk_by (own := [("pair", 3)]) (N := ["grid", "bits", "value", "pair"]) (sc := defScope s_mix) (by decide +kernel)) (fun _ _ _ _ _ => pg_name (i := 3) sc_mix.nd rfl (Or.inl rfl))
        (fun _ _ _ _ _ => pts_one (pt_not (pt_val (pe_cal cP hr (by decide) (by rfl) (pa_cons (pv 0) (pa_cons (pv 1) (pa_cons (pv 3) pa_nil)))))))
        (fun _ _ _ _ _ => pe_int)) pa_nil)) pe_int (nomark _)) (pss_one (ps_ret pe_bl)) pss_nil)
    (pss_one (ps_ret (pe_cmpR (op_eqD hr.units) (pe_cal cS hr (by decide) (by rfl) (pa_cons (pe_lc (own := [("pair", 3)]) (g := gName 3) (tt := tYes) (te := tOp (rIxT K) (tVar 3) (tC (.int 0)))
        rfl sc_mix.nd (pi_tup (pv 2)) (blkOk_by (own := [("pair", 3)]) (N := ["grid", "bits", "value", "pair"]) (sc := defScope s_mix) (by decide +kernel)) (fun _ _ _ _ _ => pg_name (i := 3) sc_mix.nd rfl (Or.inl rfl))
        (fun _ _ _ _ _ => pts_nil) (fun _ _ _ _ _ => px 3)) pa_nil)) (pe_glob (v := .ref aW) (by rfl) mW rfl) (nomark _))))), ?_⟩
  refine ⟨_, rfl, _, _, _, _, _, rfl, .ty _, ty_tup hm, kit_ty k_tt, _, rfl, itF rfl ⟨_, rfl, _, _, rfl, .inr hm, _, _, rfl, rfl, _, rfl, itT (decide_eq_true (by omega)) ⟨_, _, rfl, rfl, _, rfl, itF (notT (by omega)) ?_⟩⟩⟩
  refine ⟨_, rfl, pm, rfl, ⟨_, hm⟩, fun D1 hD => lc_it (walk_tup (K := K) (a := pm) (xs := us)) (fun _ H' => Same (upd H D1 (.lst [])) H') (Same.refl _) (fun i H' _ e => ((same_new hD _).trans e).sqt hm) ?_ ?_⟩
  · rintro i u H1 H2 hi e ⟨rfl, hu⟩
    obtain ⟨d, hd, hE⟩ := hA.get hu
    obtain ⟨d0, dok, dd⟩ := mok.each d (List.mem_of_getElem? hd)
    have e1 := (same_new hD (.lst [])).trans e
    exact ⟨rfl, _, rfl, _, rfl, _, rfl, gv, u, gr, R, C, bits, S, d, rfl, hG.tk e1.tk, ok, hE.tk e1.tk, d0, mok.s0, dok, dd, mok.bits, fun H3 e3 => ⟨true, rfl, itF rfl (e.trans e3)⟩⟩
  intro H1 e
  have e1 : Same H H1 := (same_new hD (.lst [])).trans e
  refine ⟨_, _, rfl, .inl (SqL.of (e _ _ upd_same)), _, _, rfl, rfl, _, rfl, itF rfl ?_⟩
  refine ⟨_, rfl, pm, rfl, ⟨_, e1.sqt hm⟩, fun D2 hD2 => lc_it (walk_tup (K := K) (a := pm) (xs := us)) (fun i H' => ∃ fs, H' = upd H1 D2 (.lst fs) ∧ All2 (fun u x => Fr K H1 u (red x S)) fs ((ps.map (·.1)).take i)) ⟨[], rfl, .nil⟩
    (fun i H' _ ⟨fs, e, _⟩ => by rw [e]; exact (same_new hD2 _).sqt (e1.sqt hm)) ?_ ?_⟩
  · rintro i u H2 H3 hi ⟨fs, rfl, hF⟩ ⟨rfl, hu⟩
    obtain ⟨d, hd, p, f, tv, rfl, hp, hf, ht⟩ := hA.get hu
    have e2 := same_new hD2 (.lst fs)
    have hlen2 : fs.length = i := by
      rw [hF.len, List.length_take, List.length_map]
      omega
    refine ⟨rfl, (rx rfl (e2.sqt (e1.sqt hp)) rfl ⟨fs, upd_same, Nat.lt_of_le_of_lt (by omega : fs.length ≤ 400) (by decide), fs ++ [f], upd_upd, ?_⟩)⟩
    have hx : (ps.map (·.1))[i]? = some d.1 := by rw [List.getElem?_map, hd]; rfl
    rw [take_snoc hx]
    exact hF.snoc (hf.tk e1.tk)
  rintro H2 ⟨fs, rfl, hF⟩
  have e2 := same_new hD2 (.lst fs)
  have full : (ps.map (·.1)).take us.length = ps.map (·.1) := List.take_of_length_le (by rw [List.length_map, hlen]; exact Nat.le_refl _)
  rw [full] at hF
  have nn : ∀ x ∈ ps.map (·.1), 0 ≤ x := by
    intro x hx
    obtain ⟨e, he, rfl⟩ := List.mem_map.mp hx
    exact Int.le_of_lt (mok.each e he).1
  refine ⟨D2, fs, _, S, rfl, SqL.of upd_same, hF.mono fun _ _ z => z.same e2, mok.s0, mok.s5, nn, by rw [mok.sum]; exact Int.le_refl _, fun v H3 e3 hv => ?_⟩
  rw [mok.sum, red_self mok.s0] at hv
  refine ⟨_, _, dp_fr hv, dp_fr (f := (1, 1)) ⟨aW, rfl, qW _⟩, by decide +kernel, by decide +kernel, ?_⟩
  have z : PyData.eqv (.tuple [.int ((1 : Int), (1 : Int)).1, .int ((1 : Int), (1 : Int)).2]) (.tuple [.int ((1 : Int), (1 : Int)).1, .int ((1 : Int), (1 : Int)).2]) = true := by decide +kernel
  rw [z]
  exact q _ (e1.trans (e2.trans e3))
/-! ### all_cells -/
abbrev s_cells : Stmt := top 39
def CellE (K : PySem.W.Frag) (H : Hp) (u : V) (c : Cell) : Prop := ∃ q, u = .ref q ∧ SqT K H q [.int c.1, .int c.2]
theorem CellE.tk {K : PySem.W.Frag} {H H' : Hp} {u : V} {c : Cell} (h : CellE K H u c) (e : TK K H H') : CellE K H' u c := by
  obtain ⟨q, h1, h2⟩ := h
  exact ⟨q, h1, e _ _ h2⟩
def spCells (K : PySem.W.Frag) : Sp := fun vs H Q _ => ∃ (gv : V) (gr : List (List Int)) (R C : Nat), vs = [gv] ∧ GAt K H gv gr ∧ GOk gr R C ∧ ∀ p us H', Same H H' → H' p = some (.lst us) → All2 (CellE K H') us (cells R C) → Q (.ref p) H'
theorem sc_cells : FnScope ["grid", "found", "row", "column"] ["grid"] (defScope s_cells) := ⟨rfl, rfl, rfl, by decide +kernel, rfl, by decide +kernel, by decide +kernel⟩
theorem ok_cells (T' : Txt K mg) (D : Df K mg "all_cells" s_cells) : Cal P w K mg base "all_cells" 1 ["grid"] (spCells K) := by
  refine cal_mk D sc_cells (fun vs H Q E h => ?_) (fun _ _ _ _ _ _ us hl => match us, hl with | [_], _ => rfl) (fun f cdv A outer s H vs Q E hr h => ?_)
  · obtain ⟨_, _, _, _, rfl, _⟩ := h
    rfl
  obtain ⟨gv, gr, R, C, rfl, ⟨pg, rs, rfl, hg, hrows⟩, ok, q⟩ := h
  have hlen : rs.length = R := by rw [hrows.len, ok.len]
  have r0 := ok.r0
  have r4 := ok.r4
  have c4 := ok.c4
  obtain ⟨ca, row0, f1, f2, f3, f4, _⟩ := grid_row hrows ok (i := 0) (by omega)
  have l2 : (row0.map V.int).length = C := by rw [List.length_map, f4]
  refine ⟨_, pss_cons (ps_set (i := 1) sc_cells.nd rfl (.inl rfl) (pe_lst pa_nil))
    (pss_cons (ps_for PassesOwn.never rfl (pi_range1 (by rfl) T'.range (pa_cons (pe_callB call_len_seq (by rfl) T'.len PySem.boot_len (pa_cons (pv 0) pa_nil)) pa_nil)) (pg_name (i := 2) sc_cells.nd rfl (Or.inr rfl))
      (pss_one (ps_expr (pe_bm PySem.F.plainAttrs_list PySem.F.slot_list_extend PySem.F.type_list_extend mt_extend (pv 1) (pa_cons (pe_lc (own := [("column", 3)]) (g := gName 3) (tt := tYes) (te := tTup (tCons (tVar 2) (tCons (tVar 3) tNil)))
        rfl sc_cells.nd (pi_range1 (by rfl) T'.range (pa_cons (pe_callB call_len_seq (by rfl) T'.len PySem.boot_len (pa_cons (px 0) pa_nil)) pa_nil)) (blkOk_by (own := [("column", 3)]) (N := ["grid", "found", "row", "column"]) (sc := defScope s_cells) (by decide +kernel))
        (fun _ _ _ _ _ => pg_name (i := 3) sc_cells.nd rfl (Or.inl rfl)) (fun _ _ _ _ _ => pts_nil) (fun _ _ _ _ _ => pe_tup (pa_cons (pv 2) (pa_cons (pv 3) pa_nil)))) pa_nil)))))
    (pss_one (ps_ret (pv 1)))), ?_⟩
  refine ⟨none_line, fun L nL => ?_⟩
  refine ⟨_, rfl, _, _, rfl, .inr ((same_new nL _).sqt hg), _, rfl, by omega, by omega, ?_⟩
  have eR : ((rs.length : Nat) : Int).toNat = R := by omega
  rw [eR]
  refine for_it (walk_rng (n := R)) (fun i σ H' => ∃ (us : List V) (y2 y3 : Option V), σ = [some (.ref pg), some (.ref L), y2, y3] ∧ Same H H' ∧ H' L = some (.lst us) ∧ All2 (CellE K H') us (cells i C)) ⟨[], none, none, rfl, same_new nL _, upd_same, .nil⟩ (fun _ _ _ _ _ => trivial) ?_ ?_
  · rintro i x σ H1 H2 hi ⟨us, y2, y3, rfl, e, hL, hA⟩ ⟨rfl, rfl⟩
    have hulen : us.length = i * C := by rw [hA.len, cells_length]
    have hmul : i * C ≤ 4 * 4 := Nat.mul_le_mul (by omega) (by omega)
    refine ⟨_, rfl, .inl ⟨rfl, _, SqL.of hL⟩, rx rfl (e.sqt hg) (at0 f1) ⟨_, _, rfl, .inr (e.sqt f3), _, rfl, by omega, by omega, ?_⟩⟩
    have eC : (((row0.map V.int).length : Nat) : Int).toNat = C := by omega
    rw [eC]
    refine fun D1 hD => lc_it (walk_rng (n := C)) (fun j H' => ∃ ws, Same H2 H' ∧ H' D1 = some (.lst ws) ∧ All2 (CellE K H') ws (rowCells j i)) ⟨[], same_new hD _, upd_same, .nil⟩ (fun _ _ _ _ => trivial) ?_ ?_
    · rintro j x H3 H4 hj ⟨ws, e3, hW, hB⟩ ⟨rfl, rfl⟩
      have hwlen : ws.length = j := by rw [hB.len, rowCells_length]
      refine ⟨rfl, ⟨_, rfl, _, rfl, two_line _ _, fun p hp => ⟨ws, (same_new hp _) _ _ hW, Nat.lt_of_le_of_lt (by omega : ws.length ≤ 4) (by decide), ws ++ [.ref p], ?_, upd_same, ?_⟩⟩⟩
      · exact same_upd (e3.trans (same_new hp _)) hD
      · have tk := ((same_new hp (.tup [.int i, .int j])).tk (K := K)).trans (tk_list (ys := ws ++ [.ref p]) ((same_new hp (.tup [.int i, .int j])) _ _ hW))
        rw [rowCells_succ]
        exact (hB.mono fun _ _ z => z.tk tk).snoc ⟨p, rfl, tk_list ((same_new hp (.tup [.int i, .int j])) _ _ hW) _ _ sqt_new⟩
    · rintro H3 ⟨ws, e3, hW, hB⟩
      have hL3 := e3 _ _ hL
      have hwlen : ws.length = C := by rw [hB.len, rowCells_length]
      refine ⟨L, D1, us, ws, rfl, rfl, hL3, hW, small (by omega), us ++ ws, _, _, rfl, same_upd (e.trans e3) nL, upd_same, ?_⟩
      have tk := tk_list (K := K) (ys := us ++ ws) hL3
      exact (hA.mono fun _ _ z => z.tk (e3.tk.trans tk)).append (hB.mono fun _ _ z => z.tk tk)
  · rintro σ H1 ⟨us, y2, y3, rfl, e, hL, hA⟩
    exact ⟨_, rfl, q L us _ e hL hA⟩
end
end K76
set_option Elab.async false
set_option linter.all false
set_option maxRecDepth 100000
set_option maxHeartbeats 4000000
namespace K76
open PySem PySem.Spec PyProof.Rows L2
/-- the integer of a cell -/
def gat (gr : List (List Int)) (c : Cell) : Int := (gr.getD c.1 []).getD c.2 0
theorem gat_of {gr : List (List Int)} {i j : Nat} {row : List Int} {n : Int} (h : gr[i]? = some row) (h2 : row[j]? = some n) : gat gr (i, j) = n := by
  show ((gr.getD i []).getD j 0) = n
  have e : gr.getD i [] = row := by rw [List.getD_eq_getElem?_getD, h]; rfl
  rw [e, List.getD_eq_getElem?_getD, h2]
  rfl
/-- the weight that is right at a cell -/
def rat (gr : List (List Int)) (ps : List (Int × T)) (c : Cell) : Int := right ps c.1 c.2 (gat gr c)
/-- the least chance, with its cell -/
def FoundAt (K : PySem.W.Frag) (H : Hp) (S : Int) (v : V) : Option (Int × Cell) → Prop
  | none => v = .non
  | some (x, c) => ∃ (p q : Addr) (f : V), v = .ref p ∧ SqT K H p [f, .ref q] ∧ Fr K H f (red x S) ∧ SqT K H q [.int c.1, .int c.2]
theorem FoundAt.tk {K : PySem.W.Frag} {H H' : Hp} {S : Int} {v : V} {o : Option (Int × Cell)} (h : FoundAt K H S v o) (e : TK K H H') : FoundAt K H' S v o := by
  cases o with
  | none => exact h
  | some d =>
    obtain ⟨x, c⟩ := d
    obtain ⟨p, q, f, h1, h2, h3, h4⟩ := h
    exact ⟨p, q, f, h1, e _ _ h2, h3.tk e, e _ _ h4⟩
section
variable {P : Program} {w : World} {K : PySem.W.Frag} {mg : Str → Option Value} {base : Heap}
/-! ### chance_at -/
abbrev s_chance : Stmt := top 40
def spChance (K : PySem.W.Frag) : Sp := fun vs H Q _ => ∃ (mv : V) (i j item : Int) (S : Int) (ps : List (Int × T)) (R C bits : Nat), vs = [mv, .int i, .int j, .int item] ∧ MAt K H S mv ps ∧ MixOk S ps R C bits ∧ ∀ v H', Same H H' → Fr K H' v (red (right ps i j item) S) → Q v H'
theorem sc_chance : FnScope ["mix", "row", "column", "item", "weight", "speech"] ["mix", "row", "column", "item"] (defScope s_chance) := ⟨rfl, rfl, rfl, by decide +kernel, rfl, by decide +kernel, by decide +kernel⟩
theorem ok_chance (D : Df K mg "chance_at" s_chance) (cD : Cal P w K mg base "said_so" 3 ["speech", "row", "column"] (spSaid K)) (cS : Cal P w K mg base "sum_so" 3 ["some"] (spSum K)) : Cal P w K mg base "chance_at" 4 ["mix", "row", "column", "item"] (spChance K) := by
  refine cal_mk D sc_chance (fun vs H Q E h => ?_) (fun _ _ _ _ _ _ us hl => match us, hl with | [_, _, _, _], _ => rfl) (fun f cdv A outer s H vs Q E hr h => ?_)
  · obtain ⟨_, _, _, _, _, _, _, _, _, rfl, _⟩ := h
    rfl
  obtain ⟨mv, i, j, item, S, ps, R, C, bits, rfl, ⟨pm, us, rfl, hm, hA⟩, mok, q⟩ := h
  have hlen := hA.len
  have l2 := mok.few
  refine ⟨_, pss_one (ps_ret (pe_cal cS hr (by decide) (by rfl) (pa_cons (pe_lc (own := [("weight", 4), ("speech", 5)]) (g := gTup K 2 (gCons (gName 4) (gCons (gName 5) gNil)))
        (tt := tTest (tOp rEq (tCall (spSaid K) [] E0 (tCons (tVar 5) (tCons (tVar 1) (tCons (tVar 2) tNil)))) (tVar 3))) (te := tVar 4)
        rfl sc_chance.nd (pi_tup (pv 0)) (blkOk_by (own := [("weight", 4), ("speech", 5)]) (N := ["mix", "row", "column", "item", "weight", "speech"]) (sc := defScope s_chance) (by decide +kernel))
        (fun _ _ _ _ _ => pg_tup rfl (pgs_cons (pg_name (i := 4) sc_chance.nd rfl (Or.inl rfl)) (pgs_cons (pg_name (i := 5) sc_chance.nd rfl (Or.inl rfl)) pgs_nil)))
        (fun _ _ _ _ _ => pts_one (pt_cmpR op_eq (pe_cal cD hr (by decide) (by rfl) (pa_cons (pv 5) (pa_cons (pv 1) (pa_cons (pv 2) pa_nil)))) (pv 3) (nomark _)))
        (fun _ _ _ _ _ => pv 4)) pa_nil))), ?_⟩
  refine ⟨_, rfl, pm, rfl, ⟨_, hm⟩, fun D1 hD => lc_it (walk_tup (K := K) (a := pm) (xs := us)) (fun n H' => ∃ fs, Same H H' ∧ H' D1 = some (.lst fs) ∧ All2 (fun u x => Fr K H' u (red x S)) fs (((ps.take n).filter fun d => decide (d.2.go i j = item)).map (·.1)) ∧ fs.length ≤ n)
    ⟨[], same_new hD _, upd_same, .nil, Nat.le_refl _⟩ (fun n H' _ ⟨fs, e, _⟩ => e.sqt hm) ?_ ?_⟩
  · rintro n u H1 H2 hn ⟨fs, e, hF, hB, hfl⟩ ⟨rfl, hu⟩
    obtain ⟨d, hd, p, f, tv, rfl, hp, hf, ht⟩ := hA.get hu
    obtain ⟨d0, dok, dd⟩ := mok.each d (List.mem_of_getElem? hd)
    have bb := mok.bits
    refine ⟨p, _, rfl, e.sqt hp, rfl, _, _, rfl, _, _, rfl, rfl, rfl, _, rfl, _, rfl, _, rfl, tv, i, j, d.2, rfl, ht.tk e.tk, by omega, fun H3 e3 => ⟨_, rfl, rfl, _, rfl, ?_⟩⟩
    rw [take_snoc hd, List.filter_append, List.map_append]
    have e4 := e.trans e3
    have hF3 := e3 _ _ hF
    have hB3 := hB.mono fun _ _ z => z.same e3
    by_cases c : d.2.go i j = item
    · have ec : (List.filter (fun d => decide (d.2.go i j = item)) [d]).map (·.1) = [d.1] := by simp [c]
      rw [ec]
      refine itT (decide_eq_true (by rw [c])) ⟨f, rfl, fs, hF3, Nat.lt_of_le_of_lt (by omega : fs.length ≤ 400) (by decide), fs ++ [f], same_upd e4 hD, upd_same, ?_, by rw [List.length_append]; exact Nat.succ_le_succ hfl⟩
      have tk := tk_list (K := K) (ys := fs ++ [f]) hF3
      exact (hB3.mono fun _ _ z => z.tk tk).snoc ((hf.same e4).tk tk)
    · have ec : (List.filter (fun d => decide (d.2.go i j = item)) [d]).map (·.1) = [] := by simp [c]
      rw [ec, List.append_nil]
      exact itF (decide_eq_false (fun z => c (V.int.inj z))) ⟨fs, e4, hF3, hB3, Nat.le_succ_of_le hfl⟩
  rintro H1 ⟨fs, e, hF, hB, _⟩
  rw [hlen, List.take_length] at hB
  have nn : ∀ d ∈ ps, 0 ≤ d.1 := fun d hd => Int.le_of_lt (mok.each d hd).1
  have ew : ((ps.filter fun d => decide (d.2.go i j = item)).map (·.1)).sum = right ps i j item := (wsum_filter (fun t => decide (t.go i j = item)) ps).symm
  have hle : right ps i j item ≤ S := by
    have z := wsum_le (fun t => decide (t.go i j = item)) ps nn
    rw [mok.sum] at z
    exact z
  refine ⟨D1, fs, _, S, rfl, SqL.of hF, hB, mok.s0, mok.s5, fun x hx => ?_, by rw [ew]; exact hle, fun v H2 e2 hv => ?_⟩
  · obtain ⟨d, hd, rfl⟩ := List.mem_map.mp hx
    exact nn d ((List.mem_filter.mp hd).1)
  · rw [ew] at hv
    exact q v _ (e.trans e2) hv
/-! ### least_so -/
abbrev s_least : Stmt := top 41
def spLeastSo (K : PySem.W.Frag) : Sp := fun vs H Q _ => ∃ (gv mv : V) (gr : List (List Int)) (R C bits : Nat) (S : Int) (ps : List (Int × T)), vs = [gv, mv] ∧ GAt K H gv gr ∧ GOk gr R C ∧ MAt K H S mv ps ∧ MixOk S ps R C bits ∧
  ∀ v H', Same H H' → FoundAt K H' S v (best (rat gr ps) (cells R C)) → Q v H'
theorem sc_least : FnScope ["grid", "mix", "found", "row", "column", "here"] ["grid", "mix"] (defScope s_least) := ⟨rfl, rfl, rfl, by decide +kernel, rfl, by decide +kernel, by decide +kernel⟩
theorem ok_least (D : Df K mg "least_so" s_least) (cC : Cal P w K mg base "all_cells" 1 ["grid"] (spCells K)) (cH : Cal P w K mg base "chance_at" 4 ["mix", "row", "column", "item"] (spChance K)) (cL : Cal P w K mg base "less_so" 1 ["one", "other"] (spLess K)) :
    Cal P w K mg base "least_so" 5 ["grid", "mix"] (spLeastSo K) := by
  refine cal_mk D sc_least (fun vs H Q E h => ?_) (fun _ _ _ _ _ _ us hl => match us, hl with | [_, _], _ => rfl) (fun f cdv A outer s H vs Q E hr h => ?_)
  · obtain ⟨_, _, _, _, _, _, _, _, rfl, _⟩ := h
    rfl
  obtain ⟨gv, mv, gr, R, C, bits, S, ps, rfl, hG, ok, hM, mok, q⟩ := h
  refine ⟨_, pss_cons (ps_set (i := 2) sc_least.nd rfl (.inl rfl) pe_non)
    (pss_cons (ps_for PassesOwn.never rfl (pi_list (pe_cal cC hr (by decide) (by rfl) (pa_cons (pv 0) pa_nil))) (pg_tup rfl (pgs_cons (pg_name (i := 3) sc_least.nd rfl (Or.inl rfl)) (pgs_cons (pg_name (i := 4) sc_least.nd rfl (Or.inl rfl)) pgs_nil)))
      (pss_cons (ps_set (i := 5) sc_least.nd rfl (.inl rfl) (pe_cal cH hr (by decide) (by rfl) (pa_cons (pv 1) (pa_cons (pv 3) (pa_cons (pv 4) (pa_cons (pe_ix ix_tup (pe_ix ix_tup (pv 0) (pv 3) (fun _ _ => rfl)) (pv 4) (fun _ _ => rfl)) pa_nil))))))
      (pss_one (ps_if (PW.pt (pw_or (pt_cmpR op_isN (pv 2) pe_non (nomark _)) (pw_or1 (pt_val (pe_cal cL hr (by decide) (by rfl) (pa_cons (pv 5) (pa_cons (px 2) pa_nil)))))))
        (pss_one (ps_set (i := 2) sc_least.nd rfl (.inl rfl) (pe_tup (pa_cons (pv 5) (pa_cons (pe_tup (pa_cons (pv 3) (pa_cons (pv 4) pa_nil))) pa_nil))))) pss_nil))))
    (pss_one (ps_ret (pv 2)))), ?_⟩
  refine ⟨gv, rfl, gv, gr, R, C, rfl, hG, ok, fun pc us H1 e1 hc hA => ⟨pc, rfl, ⟨us, SqL.of hc⟩, ?_⟩⟩
  refine for_it (walk_list (K := K) (a := pc) (xs := us)) (fun n σ H' => ∃ (v : V) (y3 y4 y5 : Option V), σ = [some gv, some mv, some v, y3, y4, y5] ∧ Same H1 H' ∧ FoundAt K H' S v (best (rat gr ps) ((cells R C).take n))) ⟨.non, none, none, none, rfl, Same.refl _, rfl⟩
    (fun n σ H' _ ⟨_, _, _, _, _, e, _⟩ => e.seq (SqL.of hc)) ?_ ?_
  · rintro n u σ H2 H3 hn ⟨v, y3, y4, y5, rfl, e2, hv⟩ ⟨rfl, hu⟩
    obtain ⟨c, hcell, pq, rfl, hq⟩ := hA.get hu
    obtain ⟨ci, cj⟩ := c
    simp only at hq
    obtain ⟨m1, m2⟩ := cells_mem.mp (List.mem_of_getElem? hcell)
    simp only at m1 m2
    have eA := e1.trans e2
    obtain ⟨pg, rs, rfl, hg, hrows⟩ := hG.tk eA.tk
    obtain ⟨cr, row, g1, g2, g3, g4, g5⟩ := grid_row hrows ok m1
    have hj : cj < row.length := by omega
    have g6 : row[cj]? = some row[cj] := List.getElem?_eq_getElem hj
    have hgat := gat_of g2 g6
    generalize row[cj] = item at g6 hgat
    have g7 : (row.map V.int)[cj]? = some (.int item) := by rw [List.getElem?_map, g6]; rfl
    refine ⟨pq, _, rfl, e2.sqt hq, rfl, _, _, rfl, _, _, rfl, rfl, ?_⟩
    refine ⟨_, rfl, _, rfl, _, rfl, _, rfl, _, rfl, pg, rs, _, _, rfl, rfl, hg, atI_nat g1, _, rfl, cr, _, _, _, rfl, rfl, g3, atI_nat g7, ?_⟩
    refine ⟨mv, ci, cj, item, S, ps, R, C, bits, rfl, hM.tk eA.tk, mok, fun hv' H4 e4 hfr => ?_⟩
    have ex : right ps ci cj item = rat gr ps (ci, cj) := by
      show _ = right ps ci cj (gat gr (ci, cj))
      rw [hgat]
    rw [ex] at hfr
    have nn : ∀ d ∈ ps, 0 ≤ d.1 := fun d hd => Int.le_of_lt (mok.each d hd).1
    have x0 : ∀ c : Cell, 0 ≤ rat gr ps c := fun c => wsum_nonneg _ ps nn
    have x5 : ∀ c : Cell, rat gr ps c ≤ 5000 := by
      intro c
      have z := wsum_le (fun t => decide (t.go c.1 c.2 = gat gr c)) ps nn
      rw [mok.sum] at z
      have := mok.s5
      exact Int.le_trans z this
    rw [take_snoc hcell, best_snoc]
    have eB := e2.trans e4
    rcases best_spec (rat gr ps) ((cells R C).take n) with ⟨_, eb⟩ | ⟨x, c0, eb, _, ex0, _⟩
    · rw [eb] at hv ⊢
      have hv : v = .non := hv
      subst hv
      refine ⟨_, rfl, rfl, _, rfl, itT (by decide) (itT rfl ⟨_, rfl, _, rfl, _, rfl, two_line _ _, fun p1 n1 => ⟨two_line _ _, fun p2 n2 => ⟨_, _, _, _, rfl, eB.trans ((same_new n1 _).trans (same_new n2 _)), ?_⟩⟩⟩)⟩
      exact ⟨p2, p1, hv', rfl, sqt_new, (hfr.same (same_new n1 _)).same (same_new n2 _), (same_new n2 _).sqt sqt_new⟩
    · rw [eb] at hv ⊢
      obtain ⟨p, q2, fv, rfl, h1, h2, h3⟩ := hv.tk e4.tk
      refine ⟨_, rfl, rfl, _, rfl, itF (decide_eq_false (fun z => by cases z)) ⟨_, rfl, rx rfl h1 rfl ⟨hv', fv, _, _, rfl, hfr, h2, red_ok (x0 _) (x5 _) mok.s0 mok.s5, red_ok (by rw [ex0]; exact x0 _) (by rw [ex0]; exact x5 _) mok.s0 mok.s5, _, rfl, ?_⟩⟩⟩
      rw [less_red mok.s0]
      by_cases lt : rat gr ps (ci, cj) < x
      · have es : stepB (rat gr ps) (some (x, c0)) (ci, cj) = some (rat gr ps (ci, cj), (ci, cj)) := by show (if _ then _ else _) = _; rw [if_pos lt]
        rw [es]
        refine itT (decide_eq_true lt) ⟨_, rfl, _, rfl, _, rfl, two_line _ _, fun p1 n1 => ⟨two_line _ _, fun p2 n2 => ⟨_, _, _, _, rfl, eB.trans ((same_new n1 _).trans (same_new n2 _)), ?_⟩⟩⟩
        exact ⟨p2, p1, hv', rfl, sqt_new, (hfr.same (same_new n1 _)).same (same_new n2 _), (same_new n2 _).sqt sqt_new⟩
      · have es : stepB (rat gr ps) (some (x, c0)) (ci, cj) = some (x, c0) := by show (if _ then _ else _) = _; rw [if_neg lt]
        rw [es]
        exact itF (decide_eq_false lt) ⟨_, _, _, _, rfl, eB, p, q2, fv, rfl, h1, h2, h3⟩
  · rintro σ H2 ⟨v, y3, y4, y5, rfl, e2, hv⟩
    rw [hA.len, List.take_length] at hv
    exact ⟨v, rfl, q v _ (e1.trans e2) hv⟩
/-! ### least_chance -/
abbrev s_chances : Stmt := top 42
def spLeast (K : PySem.W.Frag) : Sp := fun vs H Q _ => ∃ (gv mv : V) (gr : List (List Int)) (R C bits : Nat) (S : Int) (ps : List (Int × T)), vs = [gv, .int bits, mv] ∧ GAt K H gv gr ∧ GOk gr R C ∧ MAt K H S mv ps ∧ MixOk S ps R C bits ∧
  ∀ v H', Same H H' → FoundAt K H' S v (best (rat gr ps) (cells R C)) → Q v H'
theorem sc_chances : FnScope ["grid", "bits", "mix"] ["grid", "bits", "mix"] (defScope s_chances) := ⟨rfl, rfl, rfl, by decide +kernel, rfl, by decide +kernel, by decide +kernel⟩
theorem ok_chancesF (D : Df K mg "least_chance" s_chances) (cG : Cal P w K mg base "check_small" 3 ["grid", "bits"] (spSmall K)) (cM : Cal P w K mg base "is_mix" 7 ["grid", "bits", "value"] (spIsMix K)) (cL : Cal P w K mg base "least_so" 5 ["grid", "mix"] (spLeastSo K)) :
    CalF P w K mg base "least_chance" s_chances 8 ["grid", "bits", "mix"] (spLeast K) := by
  refine calF_mk D sc_chances (fun vs H Q E h => ?_) (fun f cdv A outer s H vs Q E hr h => ?_)
  · obtain ⟨_, _, _, _, _, _, _, _, rfl, _⟩ := h
    rfl
  obtain ⟨gv, mv, gr, R, C, bits, S, ps, rfl, hG, ok, hM, mok, q⟩ := h
  refine ⟨_, pss_cons (ps_expr (pe_cal cG hr (by decide) (by rfl) (pa_cons (pv 0) (pa_cons (pv 1) pa_nil))))
    (pss_cons (ps_if (pt_not (pt_val (pe_cal cM hr (by decide) (by rfl) (pa_cons (pv 0) (pa_cons (pv 1) (pa_cons (pv 2) pa_nil)))))) pss_never pss_nil)
    (pss_one (ps_ret (pe_cal cL hr (by decide) (by rfl) (pa_cons (pv 0) (pa_cons (pv 2) pa_nil)))))), ?_⟩
  refine ⟨_, rfl, _, rfl, gv, gr, R, C, bits, rfl, hG, ok, mok.bits, fun _ H1 e1 => ?_⟩
  refine ⟨_, rfl, _, rfl, _, rfl, gv, mv, gr, R, C, bits, S, ps, rfl, hG.tk e1.tk, ok, hM.tk e1.tk, mok, fun H2 e2 => ⟨_, rfl, itF rfl ?_⟩⟩
  exact ⟨_, rfl, _, rfl, gv, mv, gr, R, C, bits, S, ps, rfl, hG.tk (e1.trans e2).tk, ok, hM.tk (e1.trans e2).tk, mok, fun v H3 e3 hv => q v _ (e1.trans (e2.trans e3)) hv⟩
theorem ok_chances (C : CalF P w K mg base "least_chance" s_chances 8 ["grid", "bits", "mix"] (spLeast K)) : Cal P w K mg base "least_chance" 8 ["grid", "bits", "mix"] (spLeast K) :=
  C.cal (fun _ _ _ _ _ _ us hl => match us, hl with | [_, _, _], _ => rfl)
end
end K76
set_option Elab.async false
set_option linter.all false
set_option maxRecDepth 100000
set_option maxHeartbeats 4000000
namespace K76
open PySem PySem.Spec PyProof.Rows L2
/-! ### the state: cells, what is left of the great ones, how many draws -/
def stK (cs ls : Addr) (n : Int) : List (Key × V) := [(.inr "cells", .ref cs), (.inr "lefts", .ref ls), (.inr "at", .int n)]
theorem s_cl : ¬ (("cells" : Str) = "lefts") := by decide +kernel
theorem s_ca : ¬ (("cells" : Str) = "at") := by decide +kernel
theorem s_la : ¬ (("lefts" : Str) = "at") := by decide +kernel
abbrev kCe : Key := Sum.inr ("cells" : Str)
abbrev kLe : Key := Sum.inr ("lefts" : Str)
abbrev kAt : Key := Sum.inr ("at" : Str)
theorem k_cl : ¬ (kCe = kLe) := by decide +kernel
theorem k_ca : ¬ (kCe = kAt) := by decide +kernel
theorem k_la : ¬ (kLe = kAt) := by decide +kernel
theorem st_cells (cs ls : Addr) (n : Int) : valV (stK cs ls n) (.inr "cells") = some (.ref cs) := valV_pos rfl
theorem st_lefts (cs ls : Addr) (n : Int) : valV (stK cs ls n) (.inr "lefts") = some (.ref ls) := by
  unfold stK
  rw [valV_neg k_cl]
  exact valV_pos rfl
theorem st_at (cs ls : Addr) (n : Int) : valV (stK cs ls n) (.inr "at") = some (.int n) := by
  unfold stK
  rw [valV_neg k_ca, valV_neg k_la]
  exact valV_pos rfl
theorem st_put (cs ls : Addr) (n m : Int) : putK (stK cs ls n) (.inr "at") (.int m) = stK cs ls m := by
  unfold putK stK
  simp [s_ca, s_la]
theorem st_make (cs ls : Addr) (n : Int) : mergeK [] (stK cs ls n) = stK cs ls n := by
  simp [mergeK, putK, stK, s_cl, s_ca, s_la]
structure St0 (H : Hp) (st cs ls : Addr) (n : Int) : Prop where
  ex : ∃ (cells lefts : List Int), H st = some (.dK (stK cs ls n)) ∧ H cs = some (.lst (cells.map V.int)) ∧ H ls = some (.lst (lefts.map V.int)) ∧ cells.length = lefts.length ∧ 0 < cells.length ∧ ∀ x ∈ lefts, 0 ≤ x
  ne : cs ≠ ls
  n0 : 0 ≤ n
/-- all stays but the state's own two -/
def Kp (st ls : Addr) (H H' : Hp) : Prop := ∀ b o, b ≠ st → b ≠ ls → H b = some o → H' b = some o
theorem Kp.refl {st ls : Addr} (H : Hp) : Kp st ls H H := fun _ _ _ _ h => h
theorem Kp.trans {st ls : Addr} {H H1 H2 : Hp} (a : Kp st ls H H1) (b : Kp st ls H1 H2) : Kp st ls H H2 := fun c o h1 h2 h => b c o h1 h2 (a c o h1 h2 h)
theorem _root_.L2.Same.kp {st ls : Addr} {H H' : Hp} (e : Same H H') : Kp st ls H H' := fun b o _ _ h => e b o h
theorem St0.same {H H' : Hp} {st cs ls : Addr} {n : Int} (s : St0 H st cs ls n) (e : Same H H') : St0 H' st cs ls n := by
  obtain ⟨⟨cells, lefts, h1, h2, h3, h4⟩, ne, n0⟩ := s
  exact ⟨⟨cells, lefts, e _ _ h1, e _ _ h2, e _ _ h3, h4⟩, ne, n0⟩
/-- an address that was free is none of the state's -/
theorem St0.apart {H : Hp} {st cs ls : Addr} {n : Int} (s : St0 H st cs ls n) {p : Addr} (h : H p = none) : p ≠ st ∧ p ≠ ls ∧ p ≠ cs := by
  obtain ⟨⟨cells, lefts, h1, h2, h3, h4⟩, ne, n0⟩ := s
  exact ⟨(ne_of_none h1 h).symm, (ne_of_none h3 h).symm, (ne_of_none h2 h).symm⟩
theorem Kp.free {H H' : Hp} {st cs ls : Addr} {n : Int} (k : Kp st ls H H') (s : St0 H st cs ls n) (s' : St0 H' st cs ls n) {p : Addr} (h : H' p = none) : H p = none := by
  cases q : H p with
  | none => rfl
  | some o =>
    obtain ⟨a, b, _⟩ := s'.apart h
    rw [k p o a b q] at h
    cases h
theorem Kp.free' {H H' : Hp} {st cs ls : Addr} {n m : Int} (k : Kp st ls H H') (s' : St0 H' st cs ls m) {p : Addr} (h : H' p = none) : H p = none := by
  cases q : H p with
  | none => rfl
  | some o =>
    obtain ⟨a, b, _⟩ := s'.apart h
    rw [k p o a b q] at h
    cases h
theorem Kp.tk {K : PySem.W.Frag} {H H' : Hp} {st cs ls : Addr} {n : Int} (k : Kp st ls H H') (s : St0 H st cs ls n) : TK K H H' := by
  obtain ⟨⟨cells, lefts, h1, h2, h3, h4⟩, ne, n0⟩ := s
  intro a xs h
  rcases h with (h | ⟨o, h⟩) | h
  · exact .inl (.inl (k _ _ (ne_of h h1 (by intro z; cases z)) (ne_of h h3 (by intro z; cases z)) h))
  · exact .inl (.inr ⟨o, k _ _ (ne_of h h1 (by intro z; cases z)) (ne_of h h3 (by intro z; cases z)) h⟩)
  · exact .inr h
/-- a list of one's own is changed -/
theorem St0.upd {H : Hp} {st cs ls : Addr} {n : Int} (s : St0 H st cs ls n) {p : Addr} (h1 : p ≠ st) (h2 : p ≠ ls) (h3 : p ≠ cs) (o : HO) : St0 (upd H p o) st cs ls n := by
  obtain ⟨⟨cells, lefts, g1, g2, g3, g4⟩, ne, n0⟩ := s
  exact ⟨⟨cells, lefts, by rw [upd_ne h1.symm]; exact g1, by rw [upd_ne h3.symm]; exact g2, by rw [upd_ne h2.symm]; exact g3, g4⟩, ne, n0⟩
theorem fm {a b : Int} (h : 0 < b) : 0 ≤ a.fmod b ∧ a.fmod b < b := by
  rw [Int.fmod_eq_emod_of_nonneg _ (Int.le_of_lt h)]
  exact ⟨Int.emod_nonneg _ (by omega), Int.emod_lt_of_pos _ h⟩
theorem fd {a b : Int} (ha : 0 ≤ a) (h : 0 < b) : 0 ≤ a.fdiv b := by
  rw [Int.fdiv_eq_ediv_of_nonneg _ (Int.le_of_lt h)]
  exact Int.ediv_nonneg ha (Int.le_of_lt h)
section
variable {P : Program} {w : World} {K : PySem.W.Frag} {mg : Str → Option Value} {base : Heap}
theorem nzM : (2147483647 : Int) ≠ 0 := by decide
theorem nzN : (2147483629 : Int) ≠ 0 := by decide
/-! ### _law_mixed -/
abbrev s_mixed : Stmt := top 44
def spMixed : Sp := fun vs H Q _ => ∃ c k : Int, vs = [.int c, .int k] ∧ 0 ≤ k ∧ k ≤ 10000000 ∧ ∀ r : Int, 0 ≤ r → r < 2147483629 → Q (.int r) H
theorem sc_mixed : FnScope ["_law_cell", "_law_k"] ["_law_cell", "_law_k"] (defScope s_mixed) := ⟨rfl, rfl, rfl, by decide +kernel, rfl, by decide +kernel, by decide +kernel⟩
theorem ok_mixed (T' : Txt K mg) (D : Df K mg "_law_mixed" s_mixed) : Cal P w K mg base "_law_mixed" 1 ["_law_cell", "_law_k"] spMixed := by
  refine cal_mk D sc_mixed (fun vs H Q E h => ?_) (fun _ _ _ _ _ _ us hl => match us, hl with | [_, _], _ => rfl) (fun f cdv A outer s H vs Q E hr h => ?_)
  · obtain ⟨_, _, rfl, _⟩ := h
    rfl
  obtain ⟨c, k, rfl, k0, k1, q⟩ := h
  refine ⟨_, pss_cons (ps_set (i := 0) sc_mixed.nd rfl (.inl rfl) (pe_op op_modN (pe_callTy call_int1 (by rfl) T'.int (by decide +kernel) (pa_cons (pv 0) pa_nil)) pe_int))
    (pss_one (ps_ret (pe_op op_modN (pe_op op_mul (pe_op op_modN (pe_op op_add (pe_op op_add (pe_op op_mul (pv 0) (pe_op op_add pe_int (pe_op op_mul (pe_op op_mul pe_int (pv 1)) (pv 1)))) (pe_op op_mul pe_int (pv 1))) pe_int) pe_int) pe_int) pe_int))), ?_⟩
  have m1 := fm (a := c) (b := 2147483647) (by decide)
  refine ⟨_, rfl, .inl ⟨_, rfl, _, _, rfl, rfl, nzM, ?_⟩⟩
  refine ⟨_, rfl, _, rfl, _, _, rfl, rfl, .inl ⟨by decide, by decide⟩, _, rfl, _, _, rfl, rfl, .inl ⟨by omega, by omega⟩, _, _, rfl, rfl, _, _, rfl, rfl, .inl ⟨by omega, by omega⟩, ?_⟩
  refine ⟨_, rfl, _, _, rfl, rfl, .inl ⟨by decide, by decide⟩, _, _, rfl, rfl, _, _, rfl, rfl, _, _, rfl, rfl, nzM, ?_⟩
  generalize c.fmod 2147483647 * (48271 + 2 * k * k) + 69621 * k + 11 = z
  have m2 := fm (a := z) (b := 2147483647) (by decide)
  refine ⟨_, _, rfl, rfl, .inl ⟨by omega, by omega⟩, _, _, rfl, rfl, nzN, ?_⟩
  have m3 := fm (a := z.fmod 2147483647 * 69621) (b := 2147483629) (by decide)
  exact q _ m3.1 m3.2
/-! ### _law_draw -/
abbrev s_draw : Stmt := top 46
def spDraw : Sp := fun vs H Q _ => ∃ (st cs ls : Addr) (n lim : Int), vs = [.ref st, .int lim] ∧ St0 H st cs ls n ∧ 1 ≤ lim ∧ lim ≤ 1000 ∧ n ≤ 1000000 ∧
  ∀ (v : Int) (H' : Hp), 0 ≤ v → v < lim → St0 H' st cs ls (n + 1) → Kp st ls H H' → Q (.int v) H'
theorem sc_draw : FnScope ["_law_state", "_law_limit", "_law_at", "_law_spot", "_law_left", "_law_mixed_here"] ["_law_state", "_law_limit"] (defScope s_draw) := ⟨rfl, rfl, rfl, by decide +kernel, rfl, by decide +kernel, by decide +kernel⟩
theorem ok_draw (T' : Txt K mg) (D : Df K mg "_law_draw" s_draw) (cM : Cal P w K mg base "_law_mixed" 1 ["_law_cell", "_law_k"] spMixed) : Cal P w K mg base "_law_draw" 2 ["_law_state", "_law_limit"] spDraw := by
  refine cal_mk D sc_draw (fun vs H Q E h => ?_) (fun _ _ _ _ _ _ us hl => match us, hl with | [_, _], _ => rfl) (fun f cdv A outer s H vs Q E hr h => ?_)
  · obtain ⟨_, _, _, _, _, rfl, _⟩ := h
    rfl
  obtain ⟨st, cs, ls, n, lim, rfl, ⟨⟨cells, lefts, h1, h2, h3, h4, h5, h6⟩, ne, n0⟩, l1, l2, n1, q⟩ := h
  have hu := hu_of hr
  refine ⟨_, pss_cons (ps_set (i := 2) sc_draw.nd rfl (.inl rfl) (pe_dget hu (pv 0) pe_str (fun _ _ => rfl)))
    (pss_cons (ps_dput hu (pv 0) pe_str (pe_op op_add (pv 2) pe_int) rfl)
    (pss_cons (ps_set (i := 3) sc_draw.nd rfl (.inl rfl) (pe_op op_modN (pe_callTy call_int1 (by rfl) T'.int (by decide +kernel) (pa_cons (pv 2) pa_nil)) (pe_callB call_len_seq (by rfl) T'.len PySem.boot_len (pa_cons (pe_dget hu (pv 0) pe_str (fun _ _ => rfl)) pa_nil))))
    (pss_cons (ps_set (i := 4) sc_draw.nd rfl (.inl rfl) (pe_ix ix_list (pe_dget hu (pv 0) pe_str (fun _ _ => rfl)) (pv 3) (fun _ _ => rfl)))
    (pss_cons (ps_if (pt_cmpR op_gt (pv 4) pe_int (nomark _))
      (pss_cons (ps_asg (pe_op op_fdivN (pv 4) (pv 1)) (pg_sub (pe_dget hu (pv 0) pe_str (fun _ _ => rfl)) (pv 3) set_list))
      (pss_one (ps_ret (pe_op op_modN (pe_callTy call_int1 (by rfl) T'.int (by decide +kernel) (pa_cons (pv 4) pa_nil)) (pv 1))))) pss_nil)
    (pss_cons (ps_set (i := 5) sc_draw.nd rfl (.inl rfl) (pe_cal cM hr (by decide) (by rfl) (pa_cons (pe_cal cM hr (by decide) (by rfl) (pa_cons (pe_ix ix_list (pe_dget hu (pv 0) pe_str (fun _ _ => rfl)) (pv 3) (fun _ _ => rfl)) (pa_cons (pv 2) pa_nil))) (pa_cons (pe_op op_add pe_int (pv 2)) pa_nil))))
    (pss_one (ps_ret (pe_op op_modN (pe_op op_fdivN (pe_callTy call_int1 (by rfl) T'.int (by decide +kernel) (pa_cons (pe_op op_add (pe_op op_mul (pv 5) pe_int) (pe_cal cM hr (by decide) (by rfl) (pa_cons (pv 5) (pa_cons (pe_op op_add pe_int (pv 2)) pa_nil)))) pa_nil)) pe_int) (pv 1))))))))), ?_⟩
  have sne : st ≠ cs := ne_of h1 h2 (by intro z; cases z)
  have lne : st ≠ ls := ne_of h1 h3 (by intro z; cases z)
  -- state["at"]
  refine ⟨_, rfl, st, .int n, rfl, ?_, ?_⟩
  · rw [← st_at cs ls n]; exact DGet.k (k := kAt) h1
  refine ⟨_, rfl, _, _, rfl, rfl, _, rfl, st, upd H st (.dK (stK cs ls (n + 1))), rfl, ?_, ?_⟩
  · have z := DPut.k (k := Sum.inr "at") (v := .int (n + 1)) h1 (by show 3 < sizeLine; decide)
    rw [st_put] at z
    exact z
  have g1 : upd H st (.dK (stK cs ls (n + 1))) st = some (.dK (stK cs ls (n + 1))) := upd_same
  have g2 : upd H st (.dK (stK cs ls (n + 1))) cs = some (.lst (cells.map V.int)) := by rw [upd_ne sne.symm]; exact h2
  have g3 : upd H st (.dK (stK cs ls (n + 1))) ls = some (.lst (lefts.map V.int)) := by rw [upd_ne lne.symm]; exact h3
  have k1 : Kp st ls H (upd H st (.dK (stK cs ls (n + 1)))) := fun b o hb _ h => by rw [upd_ne hb]; exact h
  generalize upd H st (.dK (stK cs ls (n + 1))) = H1 at g1 g2 g3 k1
  have dc : DGet H1 st (.str "cells") (some (.ref cs)) := by rw [← st_cells cs ls (n + 1)]; exact DGet.k (k := kCe) g1
  have dl : DGet H1 st (.str "lefts") (some (.ref ls)) := by rw [← st_lefts cs ls (n + 1)]; exact DGet.k (k := kLe) g1
  refine ⟨_, rfl, .inl ⟨_, rfl, _, rfl, st, _, rfl, dc, _, _, rfl, .inl (SqL.of g2), _, _, rfl, rfl, by rw [List.length_map]; omega, ?_⟩⟩
  have sp := fm (a := n) (b := (((cells.map V.int).length : Nat) : Int)) (by rw [List.length_map]; omega)
  rw [List.length_map] at sp ⊢
  obtain ⟨spot, es⟩ : ∃ z, z = n.fmod (cells.length : Int) := ⟨_, rfl⟩
  rw [← es] at sp
  obtain ⟨s0, s1⟩ := sp
  have e1 : ((spot.toNat : Nat) : Int) = spot := by omega
  have c1 : spot.toNat < cells.length := by omega
  have c2 : spot.toNat < lefts.length := by omega
  have a1 : atI (cells.map V.int) spot = some (.int cells[spot.toNat]) := by
    have z : atI (cells.map V.int) ((spot.toNat : Nat) : Int) = some (.int cells[spot.toNat]) := atI_nat (by rw [List.getElem?_map, List.getElem?_eq_getElem c1]; rfl)
    rw [e1] at z
    exact z
  have a2 : atI (lefts.map V.int) spot = some (.int lefts[spot.toNat]) := by
    have z : atI (lefts.map V.int) ((spot.toNat : Nat) : Int) = some (.int lefts[spot.toNat]) := atI_nat (by rw [List.getElem?_map, List.getElem?_eq_getElem c2]; rfl)
    rw [e1] at z
    exact z
  have left0 : 0 ≤ lefts[spot.toNat] := h6 _ (List.getElem_mem c2)
  generalize lefts[spot.toNat] = left at a2 left0
  generalize cells[spot.toNat] = cell at a1
  have ix : ixN (lefts.map V.int).length spot = some spot.toNat := by
    unfold ixN
    rw [if_pos s0, List.length_map, if_pos (by omega)]
  subst es
  refine ⟨_, rfl, st, _, rfl, dl, _, rfl, ls, _, _, _, rfl, rfl, SqL.of g3, a2, ?_⟩
  refine ⟨_, rfl, _, _, rfl, rfl, _, rfl, ?_⟩
  by_cases pos : 0 < left
  · refine itT (decide_eq_true pos) ⟨_, rfl, _, rfl, _, _, rfl, rfl, ⟨by omega, by omega⟩, _, rfl, st, _, rfl, dl, _, rfl, ls, _, _, _, rfl, rfl, g3, ix, ?_⟩
    refine ⟨_, rfl, .inl ⟨_, rfl, _, rfl, _, _, rfl, rfl, by omega, ?_⟩⟩
    have m := fm (a := left) (b := lim) (by omega)
    refine q _ _ m.1 m.2 ⟨⟨cells, lefts.set (n.fmod (cells.length : Int)).toNat (left.fdiv lim), ?_, ?_, ?_, ?_, h5, fun x hx => ?_⟩, ne, by omega⟩ (k1.trans fun b o _ hb h => by rw [upd_ne hb]; exact h)
    · rw [upd_ne lne]; exact g1
    · rw [upd_ne ne]; exact g2
    · rw [upd_same, List.map_set]
    · rw [List.length_set]; exact h4
    · rcases List.mem_or_eq_of_mem_set hx with hx | rfl
      · exact h6 x hx
      · exact fd left0 (by omega)
  · refine itF (decide_eq_false pos) ?_
    refine ⟨_, rfl, st, _, rfl, dc, _, rfl, cs, _, _, _, rfl, rfl, SqL.of g2, a1, _, rfl, cell, n, rfl, n0, by omega, fun r r0 r1 => ?_⟩
    refine ⟨_, rfl, _, _, rfl, rfl, r, 40 + n, rfl, by omega, by omega, fun r' r0' r1' => ?_⟩
    refine ⟨_, rfl, _, _, rfl, rfl, .inl ⟨by omega, by omega⟩, _, rfl, _, rfl, _, _, rfl, rfl, r', 7 + n, rfl, by omega, by omega, fun r2 r02 r12 => ?_⟩
    refine ⟨_, _, rfl, rfl, .inl ⟨_, rfl, _, _, rfl, rfl, ⟨by decide, by decide⟩, _, rfl, _, _, rfl, rfl, by omega, ?_⟩⟩
    have m := fm (a := (r' * 2147483647 + r2).fdiv 64) (b := lim) (by omega)
    exact q _ _ m.1 m.2 ⟨⟨cells, lefts, g1, g2, g3, h4, h5, h6⟩, ne, by omega⟩ k1
end
end K76
set_option Elab.async false
set_option linter.all false
set_option maxRecDepth 100000
set_option maxHeartbeats 4000000
namespace K76
open PySem PySem.Spec PyProof.Rows L2
theorem lay_ints : ∀ ns : List Int, PyData.canLayAll0 (ns.map PyData.int) = true
  | [] => by simp [PyData.canLayAll0]
  | n :: r => by simp [PyData.canLayAll0, PyData.canLay0, lay_ints r]
theorem depth_ints : ∀ ns : List Int, PyData.depthAll (ns.map PyData.int) = 0
  | [] => by simp [PyData.depthAll]
  | n :: r => by simp [PyData.depthAll, PyData.depth, depth_ints r]
theorem shaped_ints (ns : List Int) : SeqAt.shaped (.list (ns.map PyData.int)) = true := by
  simp [SeqAt.shaped, PyData.canLay0, PyData.depth, lay_ints, depth_ints]
theorem dp_ints {K : PySem.W.Frag} {H : Hp} : ∀ ns : List Int, DpAll K H (ns.map V.int) (ns.map PyData.int)
  | [] => .nil
  | n :: r => .cons (.int n) (dp_ints r)
theorem eqv_nil : PyData.eqv (.list []) (.list []) = true := by decide +kernel
theorem eqv_cons (n : Int) (r : List Int) : PyData.eqv (.list ((n :: r).map PyData.int)) (.list []) = false := by
  simp [PyData.eqv, PyData.eqvAll]
section
variable {P : Program} {w : World} {K : PySem.W.Frag} {mg : Str → Option Value} {base : Heap}
/-! ### _law_begin -/
abbrev s_begin : Stmt := top 45
def spBegin (K : PySem.W.Frag) : Sp := fun vs H Q _ => ∃ (a : Addr) (ns : List Int), vs = [.ref a] ∧ SqL K H a (ns.map V.int) ∧ ns.length ≤ 63 ∧ ∀ (st cs ls : Addr) (H' : Hp), Same H H' → St0 H' st cs ls 0 → Q (.ref st) H'
theorem sc_begin : FnScope ["_law_script", "_law_cells_so", "_law_cell"] ["_law_script"] (defScope s_begin) := ⟨rfl, rfl, rfl, by decide +kernel, rfl, by decide +kernel, by decide +kernel⟩
theorem ok_begin (T' : Txt K mg) (D : Df K mg "_law_begin" s_begin) : Cal P w K mg base "_law_begin" 1 ["_law_script"] (spBegin K) := by
  refine cal_mk D sc_begin (fun vs H Q E h => ?_) (fun _ _ _ _ _ _ us hl => match us, hl with | [_], _ => rfl) (fun f cdv A outer s H vs Q E hr h => ?_)
  · obtain ⟨_, _, rfl, _⟩ := h
    rfl
  obtain ⟨a, ns, rfl, hS, hlen, q⟩ := h
  refine ⟨_, pss_cons (ps_set (i := 1) sc_begin.nd rfl (.inl rfl) (pe_ifExp (pt_cmpR (op_neD hr.units) (pv 0) (pe_lst pa_nil) (nomark _)) (pe_callTy call_list_of (by rfl) T'.list (by decide +kernel) (pa_cons (pv 0) pa_nil)) (pe_lst (pa_cons pe_int pa_nil))))
    (pss_one (ps_ret (pe_disp (pps_cons pe_str (pv 1) (pps_cons pe_str (pe_lc (own := [("_law_cell", 2)]) (g := gName 2) (tt := tYes)
        (te := tIf (tTest (tOp (rI0 fun i j => .bl (decide (j ≤ i))) (tVar 2) (tOp (rI CPow fun i j => .int (i ^ j.toNat)) (tC (.int 10)) (tC (.int 18))))) (tVar 2) (tC (.int 0)))
        rfl sc_begin.nd (pi_list (pv 1)) (blkOk_by (own := [("_law_cell", 2)]) (N := ["_law_script", "_law_cells_so", "_law_cell"]) (sc := defScope s_begin) (by decide +kernel))
        (fun _ _ _ _ _ => pg_name (i := 2) sc_begin.nd rfl (Or.inl rfl)) (fun _ _ _ _ _ => pts_nil) (fun _ _ _ _ _ => pe_ifExp (pt_cmpR op_ge (pv 2) (pe_op op_pow pe_int pe_int) (nomark _)) (pv 2) pe_int))
      (pps_cons pe_str pe_int pps_nil))) (by rfl) (by rfl) (fun z => by cases z) (by decide)))), ?_⟩
  -- behind the first statement: a list of the cells
  have rest := fun (cs : Addr) (cells : List Int) (H1 : Hp) (hc : H1 cs = some (.lst (cells.map V.int))) (c63 : cells.length ≤ 63) (p : Addr) (hp : H1 p = none) (D1 : Addr) (hD : upd H1 p (.dK []) D1 = none) (Qd : Hp → Prop)
      (hQ : ∀ (H3 : Hp) (lefts : List Int), Same (upd H1 p (.dK [])) H3 → H3 D1 = some (.lst (lefts.map V.int)) → lefts.length = cells.length → (∀ x ∈ lefts, 0 ≤ x) → Qd H3) =>
    lc_it (walk_list (K := K) (a := cs) (xs := cells.map V.int)) (g := gName 2) (tt := tYes) (te := tIf (tTest (tOp (rI0 fun i j => .bl (decide (j ≤ i))) (tVar 2) (tOp (rI CPow fun i j => .int (i ^ j.toNat)) (tC (.int 10)) (tC (.int 18))))) (tVar 2) (tC (.int 0)))
      (vs := [2]) (σ := [some (.ref a), some (.ref cs), none]) (H1 := upd H1 p (.dK [])) (D := D1) (Qd := Qd)
      (fun i H' => ∃ lefts : List Int, Same (upd H1 p (.dK [])) H' ∧ H' D1 = some (.lst (lefts.map V.int)) ∧ lefts.length = i ∧ ∀ x ∈ lefts, 0 ≤ x) ⟨[], same_new hD _, upd_same, rfl, fun _ h => nomatch h⟩
      (fun i H' _ ⟨_, e2, _⟩ => e2.seq ((same_new hp _).seq (SqL.of hc))) (by
        rintro i x H2 H3 hi ⟨lefts, e2, hl, ll, pos⟩ ⟨rfl, hx⟩
        obtain ⟨n, hn, rfl⟩ := get_int hx
        have hi' : i < cells.length := by rw [List.length_map] at hi; exact hi
        refine ⟨rfl, _, rfl, _, _, rfl, rfl, ⟨by decide, by decide, by decide⟩, _, _, rfl, rfl, _, rfl, ?_⟩
        have line : (lefts.map V.int).length < sizeLine := by rw [List.length_map]; exact Nat.lt_of_le_of_lt (by omega : lefts.length ≤ 63) (by decide)
        by_cases big : (10 : Int) ^ (18 : Int).toNat ≤ n
        · refine itT (decide_eq_true big) ⟨_, rfl, _, hl, line, lefts ++ [n], same_upd e2 hD, by rw [upd_same, List.map_append]; rfl, by rw [List.length_append, ll]; rfl, fun x hx => ?_⟩
          rcases List.mem_append.mp hx with hx | hx
          · exact pos x hx
          · have z : x = n := by simpa using hx
            rw [z]
            exact Int.le_trans (by decide) big
        · refine itF (decide_eq_false big) ⟨_, hl, line, lefts ++ [0], same_upd e2 hD, by rw [upd_same, List.map_append]; rfl, by rw [List.length_append, ll]; rfl, fun x hx => ?_⟩
          rcases List.mem_append.mp hx with hx | hx
          · exact pos x hx
          · have z : x = 0 := by simpa using hx
            rw [z]
            exact Int.le_refl 0) (by
        rintro H3 ⟨lefts, e2, hl, ll, pos⟩
        rw [List.length_map] at ll
        exact hQ H3 lefts e2 hl ll pos)
  have last : ∀ (cs : Addr) (cells : List Int) (H1 : Hp), Same H H1 → H1 cs = some (.lst (cells.map V.int)) → 0 < cells.length → ∀ p, H1 p = none → ∀ D1, upd H1 p (.dK []) D1 = none → ∀ (H3 : Hp) (lefts : List Int), Same (upd H1 p (.dK [])) H3 → H3 D1 = some (.lst (lefts.map V.int)) →
      lefts.length = cells.length → (∀ x ∈ lefts, 0 ≤ x) → H3 p = some (.dK []) ∧ ∃ kvs : List (Key × V), [(V.str "cells", V.ref cs), (V.str "lefts", V.ref D1), (V.str "at", V.int 0)] = kvs.map (fun kv => (kV kv.1, kv.2)) ∧ kvs.length ≤ 15 ∧ Q (.ref p) (upd H3 p (.dK (mergeK [] kvs))) := by
    intro cs cells H1 e hc c0 p hp D1 hD H3 lefts e3 hl ll pos
    refine ⟨e3 _ _ upd_same, stK cs D1 0, rfl, by show 3 ≤ 15; decide, ?_⟩
    rw [st_make]
    have hc1 : upd H1 p (.dK []) cs = some (.lst (cells.map V.int)) := (same_new hp _) _ _ hc
    have npc : p ≠ cs := (ne_of_none hc hp).symm
    have npd : p ≠ D1 := ne_of_none upd_same hD
    refine q p cs D1 _ (same_upd (e.trans ((same_new hp _).trans e3)) (e.free hp)) ⟨⟨cells, lefts, upd_same, by rw [upd_ne npc.symm]; exact e3 _ _ hc1, by rw [upd_ne npd.symm]; exact hl, ll.symm, c0, pos⟩, ne_of_none hc1 hD, Int.le_refl 0⟩
  refine ⟨_, rfl, none_line, fun b nb => ?_⟩
  have e1 := same_new nb (.lst [])
  cases ns with
  | nil =>
    refine ⟨.list [], .list [], .lst (e1.seq hS) .nil, .lst (SqL.of upd_same) .nil, by decide +kernel, by decide +kernel, _, rfl, itF (by rw [eqv_nil]; rfl) ⟨one_line _, fun cs ncs => ?_⟩⟩
    have e2 := same_new ncs (.lst [.int 0])
    refine fun p hp => ⟨_, rfl, _, rfl, cs, rfl, ⟨_, SqL.of ((same_new hp _) _ _ upd_same)⟩, fun D1 hD => ?_⟩
    exact rest cs [0] _ upd_same (by decide) p hp D1 hD _ fun H3 lefts e3 hl ll pos => last cs [0] _ (e1.trans e2) upd_same (by decide) p hp D1 hD H3 lefts e3 hl ll pos
  | cons n r =>
    refine ⟨.list ((n :: r).map PyData.int), .list [], .lst (e1.seq hS) (dp_ints _), .lst (SqL.of upd_same) .nil, shaped_ints _, by decide +kernel, _, rfl, itT (by rw [eqv_cons]; rfl) ⟨_, rfl, a, _, rfl, .inl (e1.seq hS), fun cs ncs => ?_⟩⟩
    have e2 := same_new ncs (.lst ((n :: r).map V.int))
    refine fun p hp => ⟨_, rfl, _, rfl, cs, rfl, ⟨_, SqL.of ((same_new hp _) _ _ upd_same)⟩, fun D1 hD => ?_⟩
    exact rest cs (n :: r) _ upd_same hlen p hp D1 hD _ fun H3 lefts e3 hl ll pos => last cs (n :: r) _ (e1.trans e2) upd_same (by simp) p hp D1 hD H3 lefts e3 hl ll pos
end
end K76
set_option Elab.async false
set_option linter.all false
set_option maxRecDepth 100000
set_option maxHeartbeats 4000000
namespace K76
open PySem PySem.Spec PyProof.Rows L2
theorem kp_upd {st ls p : Addr} {H H' : Hp} {o : HO} (k : Kp st ls H H') (h : H p = none) : Kp st ls H (upd H' p o) := fun b u h1 h2 q => by
  rw [upd_ne (ne_of_none q h)]
  exact k b u h1 h2 q
def lcScope : Expr → Scope
  | .ListComp _ _ s _ => s
  | _ => defScope (.Pass ⟨0, 0, 0, 0⟩)
def arg0 : Expr → Expr
  | .Call _ (a :: _) _ _ => a
  | e => e
def retE : Stmt → Expr
  | .Return (some e) _ => e
  | _ => .Constant .none 0 ⟨0, 0, 0, 0⟩
def stAt (b : List Stmt) (i : Nat) : Stmt := b.getD i (.Pass ⟨0, 0, 0, 0⟩)
section
variable {P : Program} {w : World} {K : PySem.W.Frag} {mg : Str → Option Value} {base : Heap}
/-! ### _law_grid -/
abbrev s_lgrid : Stmt := top 47
def spLGrid (K : PySem.W.Frag) : Sp := fun vs H Q _ => ∃ (st cs ls : Addr) (n : Int), vs = [.ref st, .int 4, .int 4, .int 3] ∧ St0 H st cs ls n ∧ n ≤ 900000 ∧
  ∀ (gr : List (List Int)) (R C : Nat) (gv : V) (m : Int) (H' : Hp), GOk gr R C → GAt K H' gv gr → St0 H' st cs ls m → m ≤ n + 100 → Kp st ls H H' → Q gv H'
abbrev nLGrid : List Str := ["_law_state", "_law_high", "_law_wide", "_law_kinds", "_law_down", "_law_across", "_law_line", "_law_spot"]
theorem sc_lgrid : FnScope nLGrid ["_law_state", "_law_high", "_law_wide", "_law_kinds"] (defScope s_lgrid) := ⟨rfl, rfl, rfl, by decide +kernel, rfl, by decide +kernel, by decide +kernel⟩
theorem ok_lgrid (T' : Txt K mg) (D : Df K mg "_law_grid" s_lgrid) (cD : Cal P w K mg base "_law_draw" 2 ["_law_state", "_law_limit"] spDraw) : Cal P w K mg base "_law_grid" 3 ["_law_state", "_law_high", "_law_wide", "_law_kinds"] (spLGrid K) := by
  refine cal_mk D sc_lgrid (fun vs H Q E h => ?_) (fun _ _ _ _ _ _ us hl => match us, hl with | [_, _, _, _], _ => rfl) (fun f cdv A outer s H vs Q E hr h => ?_)
  · obtain ⟨_, _, _, _, rfl, _⟩ := h
    rfl
  obtain ⟨st, cs, ls, n, rfl, S, n1, q⟩ := h
  refine ⟨_, pss_cons (ps_asg (pe_tup (pa_cons (pe_op op_add pe_int (pe_cal cD hr (by decide) (by rfl) (pa_cons (pv 0) (pa_cons (pv 1) pa_nil)))) (pa_cons (pe_op op_add pe_int (pe_cal cD hr (by decide) (by rfl) (pa_cons (pv 0) (pa_cons (pv 2) pa_nil)))) pa_nil)))
      (pg_tup rfl (pgs_cons (pg_name (i := 4) sc_lgrid.nd rfl (Or.inl rfl)) (pgs_cons (pg_name (i := 5) sc_lgrid.nd rfl (Or.inr rfl)) pgs_nil))))
    (pss_one (ps_ret (pe_callTy call_tuple_of (by rfl) T'.tuple (by decide +kernel) (pa_cons (pe_lc (own := [("_law_line", 6)]) (g := gName 6) (tt := tYes)
        (te := tCB (fun xs H Q => ∃ p ys, xs = [.ref p] ∧ ((SqL K H p ys ∧ ∀ l, H l = none → Q (.ref l) (upd H l (.tup ys))) ∨ (SqT K H p ys ∧ Q (.ref p) H))) (tCons (tLc (iRng1 (tCons (tVar 5) tNil)) (gName 7) tYes (tCall spDraw [] E0 (tCons (tVar 0) (tCons (tVar 3) tNil))) [7]) tNil))
        rfl sc_lgrid.nd (pi_range1 (by rfl) T'.range (pa_cons (pv 4) pa_nil)) (blkOk_by (own := [("_law_line", 6)]) (N := nLGrid) (sc := defScope s_lgrid) (by decide +kernel))
        (fun _ _ _ _ _ => pg_name (i := 6) sc_lgrid.nd rfl (Or.inl rfl)) (fun _ _ _ _ _ => pts_nil)
        (fun _ _ _ _ _ => pe_callTy call_tuple_of (by rfl) T'.tuple (by decide +kernel) (pa_cons (pe_lc (own := [("_law_spot", 7)]) (g := gName 7) (tt := tYes) (te := tCall spDraw [] E0 (tCons (tVar 0) (tCons (tVar 3) tNil)))
          rfl sc_lgrid.nd (pi_range1 (by rfl) T'.range (pa_cons (pv 5) pa_nil)) (blkOk_by (own := [("_law_spot", 7)]) (N := nLGrid) (sc := relS (lcScope (arg0 (retE (stAt (defBody s_lgrid) 1)))) (defScope s_lgrid)) (by decide +kernel))
          (fun _ _ _ _ _ => pg_name (i := 7) sc_lgrid.nd rfl (Or.inl rfl)) (fun _ _ _ _ _ => pts_nil)
          (fun _ _ _ _ _ => pe_cal cD hr (by decide) (by rfl) (pa_cons (pv 0) (pa_cons (pv 3) pa_nil)))) pa_nil))) pa_nil)))), ?_⟩
  refine ⟨_, rfl, _, rfl, st, cs, ls, n, 4, rfl, S, by decide, by decide, by omega, fun r H1 r0 r4 S1 k1 => ⟨_, _, rfl, rfl, ?_⟩⟩
  refine ⟨_, rfl, _, rfl, st, cs, ls, _, 4, rfl, S1, by decide, by decide, by omega, fun c H2 c0 c4 S2 k2 => ⟨_, _, rfl, rfl, two_line _ _, fun p hp => ?_⟩⟩
  have S3 := S2.same (same_new hp (.tup [.int (1 + r), .int (1 + c)]))
  have k3 : Kp st ls H (upd H2 p (.tup [.int (1 + r), .int (1 + c)])) := k1.trans (k2.trans (same_new hp _).kp)
  refine ⟨p, _, rfl, sqt_new, rfl, _, _, rfl, _, _, rfl, rfl, ?_⟩
  generalize upd H2 p (.tup [.int (1 + r), .int (1 + c)]) = H3 at S3 k3
  obtain ⟨R, eR⟩ : ∃ R : Nat, (1 : Int) + r = (R : Int) := ⟨(1 + r).toNat, by omega⟩
  obtain ⟨C, eC⟩ : ∃ C : Nat, (1 : Int) + c = (C : Int) := ⟨(1 + c).toNat, by omega⟩
  refine ⟨_, rfl, _, rfl, by omega, by omega, ?_⟩
  have eR2 : ((1 : Int) + r).toNat = R := by omega
  rw [eR2]
  refine fun D1 hD => lc_it (walk_rng (n := R)) (fun i H' => ∃ (us : List V) (rows : List (List Int)) (m : Int), H' D1 = some (.lst us) ∧ All2 (RowAt K H') us rows ∧ rows.length = i ∧ (∀ row ∈ rows, row.length = C ∧ ∀ x ∈ row, 0 ≤ x ∧ x ≤ 9) ∧ St0 H' st cs ls m ∧ m ≤ n + 2 + 4 * (i : Int) ∧ Kp st ls H3 H')
    ⟨[], [], _, upd_same, .nil, rfl, (fun _ h => nomatch h), S3.same (same_new hD _), by omega, (same_new hD _).kp⟩ (fun _ _ _ _ => trivial) ?_ ?_
  · rintro i x H4 H5 hi ⟨us, rows, m, hus, hA, hl, hrow, S4, hm, k4⟩ ⟨rfl, rfl⟩
    obtain ⟨d1, d2, d3⟩ := S3.apart hD
    have hul : us.length = i := by rw [hA.len, hl]
    refine ⟨rfl, _, rfl, _, rfl, by omega, by omega, ?_⟩
    have eC2 : ((1 : Int) + c).toNat = C := by omega
    rw [eC2]
    refine fun D2 hD2 => lc_it (walk_rng (n := C)) (fun j H' => ∃ (row : List Int) (m' : Int), H' D2 = some (.lst (row.map V.int)) ∧ row.length = j ∧ (∀ x ∈ row, 0 ≤ x ∧ x ≤ 9) ∧ St0 H' st cs ls m' ∧ m' ≤ m + (j : Int) ∧ Kp st ls H5 H')
      ⟨[], m, upd_same, rfl, (fun _ h => nomatch h), S4.same (same_new hD2 _), by omega, (same_new hD2 _).kp⟩ (fun _ _ _ _ => trivial) ?_ ?_
    · rintro j x H6 H7 hj ⟨row, m', hr2, hrl, hb, S6, hm', k6⟩ ⟨rfl, rfl⟩
      obtain ⟨a1, a2, a3⟩ := S4.apart hD2
      refine ⟨rfl, _, rfl, _, rfl, st, cs, ls, m', 3, rfl, S6, by decide, by decide, by omega, fun v H8 v0 v3 S8 k8 => ?_⟩
      have h8 := k8 _ _ a1 a2 hr2
      refine ⟨row.map V.int, h8, by rw [List.length_map]; exact Nat.lt_of_le_of_lt (by omega : row.length ≤ 4) (by decide), row ++ [v], m' + 1, by rw [upd_same, List.map_append]; rfl, by rw [List.length_append, hrl]; rfl, fun x hx => ?_, S8.upd a1 a2 a3 _, by omega, kp_upd (k6.trans k8) hD2⟩
      rcases List.mem_append.mp hx with hx | hx
      · exact hb x hx
      · have z : x = v := by simpa using hx
        rw [z]; omega
    · rintro H6 ⟨row, m', hr2, hrl, hb, S6, hm', k6⟩
      refine ⟨D2, _, rfl, .inl ⟨SqL.of hr2, fun q2 hq2 => ?_⟩⟩
      have hus6 : H6 D1 = some (.lst us) := k6 _ _ d1 d2 hus
      have e7 := same_new hq2 (.tup (row.map V.int))
      have tkA : TK K H5 (upd H6 q2 (.tup (row.map V.int))) := (k6.tk S4).trans e7.tk
      have tkB := tk_list (K := K) (ys := us ++ [.ref q2]) (e7 _ _ hus6)
      refine ⟨us, e7 _ _ hus6, Nat.lt_of_le_of_lt (by omega : us.length ≤ 4) (by decide), us ++ [.ref q2], rows ++ [row], m', upd_same, ?_, by rw [List.length_append, hl]; rfl, fun r' hr' => ?_, (S6.same e7).upd d1 d2 d3 _, by omega, kp_upd (k4.trans (k6.trans e7.kp)) hD⟩
      · exact (hA.mono fun _ _ z => z.tk (tkA.trans tkB)).snoc ⟨q2, rfl, tkB _ _ sqt_new⟩
      · rcases List.mem_append.mp hr' with hr' | hr'
        · exact hrow r' hr'
        · have z : r' = row := by simpa using hr'
          rw [z]
          exact ⟨by omega, hb⟩
  · rintro H4 ⟨us, rows, m, hus, hA, hl, hrow, S4, hm, k4⟩
    refine ⟨D1, us, rfl, .inl ⟨SqL.of hus, fun q2 hq2 => ?_⟩⟩
    have e7 := same_new hq2 (.tup us)
    exact q rows R C (.ref q2) m _ ⟨hl, hrow, by omega, by omega, by omega, by omega⟩ ⟨q2, us, rfl, sqt_new, hA.mono fun _ _ z => z.tk e7.tk⟩ (S4.same e7) (by omega) (k3.trans (k4.trans e7.kp))
end
end K76
set_option Elab.async false
set_option linter.all false
set_option maxRecDepth 100000
set_option maxHeartbeats 4000000
namespace K76
open PySem PySem.Spec PyProof.Rows L2
/-- so many draws at most -/
def dr : Nat → Int
  | 0 => 1
  | m + 1 => 6 + 2 * dr m
theorem dr_pos : ∀ m, 1 ≤ dr m
  | 0 => by decide
  | m + 1 => by have := dr_pos m; show 1 ≤ 6 + 2 * dr m; omega
section
variable {P : Program} {w : World} {K : PySem.W.Frag} {mg : Str → Option Value} {base : Heap}
/-! ### _law_speech -/
abbrev s_lspeech : Stmt := top 48
def spLSpeech (K : PySem.W.Frag) (lim : Nat) : Sp := fun vs H Q _ => ∃ (st cs ls : Addr) (n : Int) (R C most : Nat), vs = [.ref st, .int R, .int C, .int most, .int 3] ∧ most < lim ∧ 1 ≤ R ∧ R ≤ 4 ∧ 1 ≤ C ∧ C ≤ 4 ∧ St0 H st cs ls n ∧ n + dr most ≤ 1000000 ∧
  ∀ (v : V) (t : T) (m : Int) (H' : Hp), TAt K H' v t → t.ok R C → t.dep ≤ most → St0 H' st cs ls m → m ≤ n + dr most → Kp st ls H H' → Q v H'
abbrev nLSpeech : List Str := ["_law_state", "_law_down", "_law_across", "_law_most", "_law_kinds", "_law_first", "_law_left", "_law_near", "_law_one"]
abbrev pLSpeech : List Str := ["_law_state", "_law_down", "_law_across", "_law_most", "_law_kinds"]
theorem sc_lspeech : FnScope nLSpeech pLSpeech (defScope s_lspeech) := ⟨rfl, rfl, rfl, by decide +kernel, rfl, by decide +kernel, by decide +kernel⟩
theorem str_if {r : Bool} {σ : L2.St} {H : Hp} {Q : VK} (q : Q (.str (word r)) H) : if r = true then tC (.str "row") σ H Q else tC (.str "column") σ H Q := by
  cases r
  · exact q
  · exact q
theorem step_lspeech {k : Nat} (T' : Txt K mg) (D : Df K mg "_law_speech" s_lspeech) (cD : Cal P w K mg base "_law_draw" 2 ["_law_state", "_law_limit"] spDraw) (cR : Cal P w K mg base "_law_speech" (2 + k) pLSpeech (spLSpeech K k)) :
    Cal P w K mg base "_law_speech" (2 + k + 1) pLSpeech (spLSpeech K (k + 1)) := by
  refine cal_mk D sc_lspeech (fun vs H Q E h => ?_) (fun _ _ _ _ _ _ us hl => match us, hl with | [_, _, _, _, _], _ => rfl) (fun f cdv A outer s H vs Q E hr h => ?_)
  · obtain ⟨_, _, _, _, _, _, _, rfl, _⟩ := h
    rfl
  obtain ⟨st, cs, ls, n, R, C, most, rfl, hm, r1, r4, c1, c4, S, n1, q⟩ := h
  have h2k : 2 ≤ 2 + k := by omega
  have selfk : 2 + k ≤ 2 + k := Nat.le_refl _
  refine ⟨_, pss_cons (ps_if (PW.pt (pw_or (pt_cmpR op_eq (pv 3) pe_int (nomark _)) (pw_or1 (pt_cmpR op_eq (pe_cal cD hr h2k (by rfl) (pa_cons (pv 0) (pa_cons pe_int pa_nil))) pe_int (nomark _)))))
      (pss_one (ps_ret (pe_cal cD hr h2k (by rfl) (pa_cons (pv 0) (pa_cons (pv 4) pa_nil))))) pss_nil)
    (pss_cons (ps_set (i := 5) sc_lspeech.nd rfl (.inl rfl) (pe_cmpR op_eq (pe_cal cD hr h2k (by rfl) (pa_cons (pv 0) (pa_cons pe_int pa_nil))) pe_int (nomark _)))
    (pss_cons (ps_set (i := 6) sc_lspeech.nd rfl (.inl rfl) (pe_callTy call_tuple_of (by rfl) T'.tuple (by decide +kernel) (pa_cons (pe_lc (own := [("_law_one", 8)]) (g := gName 8)
        (tt := tTest (tOp rEq (tCall spDraw [] E0 (tCons (tVar 0) (tCons (tC (.int 2)) tNil))) (tC (.int 0)))) (te := tVar 8)
        rfl sc_lspeech.nd (pi_range1 (by rfl) T'.range (pa_cons (pe_ifExp (pt_val (pv 5)) (pv 1) (pv 2)) pa_nil)) (blkOk_by (own := [("_law_one", 8)]) (N := nLSpeech) (sc := defScope s_lspeech) (by decide +kernel))
        (fun _ _ _ _ _ => pg_name (i := 8) sc_lspeech.nd rfl (Or.inl rfl)) (fun _ _ _ _ _ => pts_one (pt_cmpR op_eq (pe_cal cD hr h2k (by rfl) (pa_cons (pv 0) (pa_cons pe_int pa_nil))) pe_int (nomark _)))
        (fun _ _ _ _ _ => pv 8)) pa_nil)))
    (pss_cons (ps_set (i := 7) sc_lspeech.nd rfl (.inl rfl) (pe_cal cR hr selfk (by rfl) (pa_cons (pv 0) (pa_cons (pv 1) (pa_cons (pv 2) (pa_cons (pe_op op_sub (pv 3) pe_int) (pa_cons (pv 4) pa_nil)))))))
    (pss_one (ps_ret (pe_tup (pa_cons (pe_ifExp (pt_val (pv 5)) pe_str pe_str) (pa_cons (pv 6) (pa_cons (pv 7) (pa_cons (pe_cal cR hr selfk (by rfl) (pa_cons (pv 0) (pa_cons (pv 1) (pa_cons (pv 2) (pa_cons (pe_op op_sub (pv 3) pe_int) (pa_cons (pv 4) pa_nil)))))) pa_nil)))))))))), ?_⟩
  -- an end
  have fin : ∀ (H1 : Hp) (m : Int), St0 H1 st cs ls m → m + 1 ≤ n + dr most → m ≤ 1000000 → Kp st ls H H1 → spDraw [.ref st, .int 3] H1 Q E0 := fun H1 m S1 hm1 hm2 k1 =>
    ⟨st, cs, ls, m, 3, rfl, S1, by decide, by decide, hm2, fun v H2 v0 v3 S2 k2 => q (.int v) (.e v) _ _ rfl ⟨v0, by omega⟩ (Nat.zero_le _) S2 (by omega) (k1.trans k2)⟩
  have dp := dr_pos most
  refine ⟨_, rfl, rfl, _, rfl, ?_⟩
  by_cases z : (most : Int) = 0
  · refine itT (decide_eq_true (by rw [z])) (itT rfl ⟨_, rfl, _, rfl, fin H n S (by omega) (by omega) (Kp.refl _)⟩)
  have mpos : 0 < most := by omega
  obtain ⟨m', rfl⟩ : ∃ m', most = m' + 1 := ⟨most - 1, by omega⟩
  have dd : dr (m' + 1) = 6 + 2 * dr m' := rfl
  have dp' := dr_pos m'
  refine itF (decide_eq_false (fun e => z (V.int.inj e))) ⟨_, rfl, st, cs, ls, n, 4, rfl, S, by decide, by decide, by omega, fun v H1 v0 v4 S1 k1 => ⟨rfl, _, rfl, ?_⟩⟩
  by_cases vz : v = 0
  · exact itT (decide_eq_true (by rw [vz])) ⟨_, rfl, _, rfl, fin H1 _ S1 (by omega) (by omega) k1⟩
  refine itF (decide_eq_false (fun e => vz (V.int.inj e))) ?_
  -- which hand
  refine ⟨_, rfl, st, cs, ls, _, 2, rfl, S1, by decide, by decide, by omega, fun v2 H2 v20 v22 S2 k2 => ⟨rfl, ?_⟩⟩
  generalize decide (V.int v2 = V.int 0) = r
  have kH2 := k1.trans k2
  refine ⟨_, rfl, r, rfl, pick rfl rfl ?_⟩
  obtain ⟨sz, esz⟩ : ∃ sz : Nat, (if r then R else C) = sz := ⟨_, rfl⟩
  have esz2 : (if r = true then (R : Int) else (C : Int)) = (sz : Int) := by rw [← esz]; cases r <;> rfl
  have sz4 : sz ≤ 4 := by rw [← esz]; cases r <;> simp <;> omega
  rw [esz2]
  refine ⟨_, rfl, by omega, by omega, ?_⟩
  have esz3 : ((sz : Nat) : Int).toNat = sz := by omega
  rw [esz3]
  refine fun D1 hD => lc_it (walk_rng (n := sz)) (fun i H' => ∃ (lot : List Int) (m : Int), H' D1 = some (.lst (lot.map V.int)) ∧ (∀ x ∈ lot, 0 ≤ x ∧ x < (i : Int)) ∧ lot.Pairwise (· < ·) ∧ lot.length ≤ i ∧ St0 H' st cs ls m ∧ m ≤ n + 2 + (i : Int) ∧ Kp st ls H2 H')
    ⟨[], _, upd_same, (fun _ h => nomatch h), .nil, Nat.le_refl _, S2.same (same_new hD _), by omega, (same_new hD _).kp⟩ (fun _ _ _ _ => trivial) ?_ ?_
  · rintro i x H3 H4 hi ⟨lot, m, hl, hb, hp, hll, S3, hm3, k3⟩ ⟨rfl, rfl⟩
    obtain ⟨d1, d2, d3⟩ := S2.apart hD
    refine ⟨rfl, _, rfl, st, cs, ls, m, 2, rfl, S3, by decide, by decide, by omega, fun v3 H5 v30 v32 S5 k5 => ⟨rfl, _, rfl, ?_⟩⟩
    have hl5 := k5 _ _ d1 d2 hl
    by_cases c : v3 = 0
    · refine itT (decide_eq_true (by rw [c])) ⟨_, rfl, _, hl5, by rw [List.length_map]; exact Nat.lt_of_le_of_lt (by omega : lot.length ≤ 4) (by decide), lot ++ [(i : Int)], m + 1, by rw [upd_same, List.map_append]; rfl, fun x hx => ?_, ?_, by rw [List.length_append]; exact Nat.succ_le_succ hll, S5.upd d1 d2 d3 _, by omega, kp_upd (k3.trans k5) hD⟩
      · rcases List.mem_append.mp hx with hx | hx
        · have := hb x hx; omega
        · have z : x = (i : Int) := by simpa using hx
          rw [z]; omega
      · rw [List.pairwise_append]
        refine ⟨hp, List.pairwise_singleton _ _, fun x hx y hy => ?_⟩
        have z : y = (i : Int) := by simpa using hy
        rw [z]
        exact (hb x hx).2
    · exact itF (decide_eq_false (fun e => c (V.int.inj e))) ⟨lot, m + 1, hl5, fun x hx => by have := hb x hx; omega, hp, Nat.le_succ_of_le hll, S5, by omega, k3.trans k5⟩
  rintro H3 ⟨lot, m, hl, hb, hp, hll, S3, hm3, k3⟩
  refine ⟨D1, _, rfl, .inl ⟨SqL.of hl, fun lt hlt => ?_⟩⟩
  have e4 := same_new hlt (.tup (lot.map V.int))
  have S4 := S3.same e4
  have kH4 : Kp st ls H (upd H3 lt (.tup (lot.map V.int))) := kH2.trans (k3.trans e4.kp)
  have hlot : SqT K (upd H3 lt (.tup (lot.map V.int))) lt (lot.map V.int) := sqt_new
  generalize upd H3 lt (.tup (lot.map V.int)) = H4 at S4 kH4 hlot
  have em : ((m' + 1 : Nat) : Int) - 1 = (m' : Int) := by omega
  have earg : [V.ref st, V.int (R : Int), V.int (C : Int), V.int (((m' + 1 : Nat) : Int) - 1), V.int 3] = [V.ref st, V.int (R : Int), V.int (C : Int), V.int (m' : Int), V.int 3] := by rw [em]
  refine ⟨_, rfl, _, rfl, _, rfl, _, rfl, _, _, rfl, rfl, _, rfl, st, cs, ls, m, R, C, m', earg, by omega, r1, r4, c1, c4, S4, by omega, fun va a ma H5 ha oka da S5 hma k5 => ?_⟩
  refine ⟨_, rfl, r, rfl, str_if ?_⟩
  refine ⟨_, rfl, _, rfl, _, rfl, _, rfl, _, rfl, _, rfl, _, _, rfl, rfl, _, rfl, st, cs, ls, ma, R, C, m', earg, by omega, r1, r4, c1, c4, S5, by omega, fun vb b mb H6 hb' okb db S6 hmb k6 => ?_⟩
  refine ⟨four_line _ _ _ _, fun p hp' => ?_⟩
  have e7 := same_new hp' (.tup [.str (word r), .ref lt, va, vb])
  refine q (.ref p) (.n r lot a b) mb _ ⟨p, lt, va, vb, rfl, sqt_new, e7.sqt (k6.tk S5 _ _ (k5.tk S4 _ _ hlot)), (ha.tk (k6.tk S5)).tk e7.tk, hb'.tk e7.tk⟩ ⟨⟨?_, hp, by omega⟩, oka, okb⟩ ?_ (S6.same e7) (by omega) (kH4.trans (k5.trans (k6.trans e7.kp)))
  · intro x hx
    have := hb x hx
    rw [esz]
    exact this
  · show max a.dep b.dep + 1 ≤ m' + 1
    omega
theorem ok_lspeech (T' : Txt K mg) (D : Df K mg "_law_speech" s_lspeech) (cD : Cal P w K mg base "_law_draw" 2 ["_law_state", "_law_limit"] spDraw) : ∀ k : Nat, Cal P w K mg base "_law_speech" (2 + k) pLSpeech (spLSpeech K k)
  | 0 => by
    have no : ∀ vs H Q E, ¬ spLSpeech K 0 vs H Q E := fun vs H Q E h => by
      obtain ⟨_, _, _, _, _, _, _, _, h, _⟩ := h
      exact absurd h (Nat.not_lt_zero _)
    obtain ⟨f, fd, h1, F⟩ := D.ex
    exact ⟨f, fd, h1, F.kp, F.binds (ps := pLSpeech) (fun _ _ _ _ _ _ us hl => match us, hl with | [_, _, _, _, _], _ => rfl), ⟨fun vs H Q E h => absurd h (no vs H Q E), fun A outer s H args us vs Q E _ _ _ _ h => absurd h (no vs H Q E)⟩⟩
  | k + 1 => step_lspeech T' D cD (ok_lspeech T' D cD k)
end
end K76
set_option Elab.async false
set_option linter.all false
set_option maxRecDepth 100000
set_option maxHeartbeats 4000000
namespace K76
open PySem PySem.Spec PyProof.Rows L2
/-- what the law tells as the least weight -/
def BestAt (K : PySem.W.Frag) (H : Hp) (v : V) : Option (Int × Cell) → Prop
  | none => v = .non
  | some (x, c) => ∃ (p q : Addr), v = .ref p ∧ SqT K H p [.int x, .ref q] ∧ SqT K H q [.int c.1, .int c.2]
theorem BestAt.tk {K : PySem.W.Frag} {H H' : Hp} {v : V} {o : Option (Int × Cell)} (h : BestAt K H v o) (e : TK K H H') : BestAt K H' v o := by
  cases o with
  | none => exact h
  | some d =>
    obtain ⟨x, c⟩ := d
    obtain ⟨p, q, h1, h2, h3⟩ := h
    exact ⟨p, q, h1, e _ _ h2, e _ _ h3⟩
theorem zip_get {α β : Type} : ∀ {l : List α} {m : List β} {i : Nat} {a : α} {b : β}, l[i]? = some a → m[i]? = some b → (l.zip m)[i]? = some (a, b)
  | [], _, _, _, _, h, _ => by simp at h
  | _ :: _, [], _, _, _, _, h => by simp at h
  | x :: l, y :: m, 0, a, b, h1, h2 => by
    have e1 : x = a := by simpa using h1
    have e2 : y = b := by simpa using h2
    subst e1 e2
    simp
  | x :: l, y :: m, i + 1, a, b, h1, h2 => by
    have z := zip_get (l := l) (m := m) (i := i) (by simpa using h1) (by simpa using h2)
    simpa using z
section
variable {P : Program} {w : World} {K : PySem.W.Frag} {mg : Str → Option Value} {base : Heap}
/-! ### _law_divisor -/
abbrev s_div : Stmt := top 49
def spDiv : Sp := fun vs H Q _ => ∃ a b : Int, vs = [.int a, .int b] ∧ 0 ≤ a ∧ 0 ≤ b ∧ b ≤ 3999 ∧ Q (.int (g a b)) H
theorem sc_div : FnScope ["_law_one", "_law_beside", "_law_step"] ["_law_one", "_law_beside"] (defScope s_div) := ⟨rfl, rfl, rfl, by decide +kernel, rfl, by decide +kernel, by decide +kernel⟩
theorem ok_div (T' : Txt K mg) (D : Df K mg "_law_divisor" s_div) : Cal P w K mg base "_law_divisor" 1 ["_law_one", "_law_beside"] spDiv := by
  refine cal_mk D sc_div (fun vs H Q E h => ?_) (fun _ _ _ _ _ _ us hl => match us, hl with | [_, _], _ => rfl) (fun f cdv A outer s H vs Q E hr h => ?_)
  · obtain ⟨_, _, rfl, _⟩ := h
    rfl
  obtain ⟨a, b, rfl, a0, b0, b4, q⟩ := h
  refine ⟨_, pss_cons (ps_for PassesOwn.never rfl (pi_range1 (by rfl) T'.range (pa_cons pe_int pa_nil)) (pg_name (i := 2) sc_div.nd rfl (Or.inl rfl))
      (pss_cons (ps_if (pt_cmpR op_eq (pv 1) pe_int (nomark _)) (pss_one (ps_ret (pv 0))) pss_nil)
      (pss_one (ps_par (i := 0) (j := 1) rfl sc_div.nd rfl rfl (by decide) rfl rfl (pa_cons (pv 1) (pa_cons (pe_op op_modN (pv 0) (pv 1)) pa_nil)) (by rfl)))))
    (pss_one (ps_ret (pv 0))), ?_⟩
  refine ⟨4000, rfl, by decide, by decide, for_it (walk_rng (n := 4000)) (fun i σ H' => H' = H ∧ ∃ (x y : Int) (s : Option V), σ = [some (.int x), some (.int y), s] ∧ 0 ≤ x ∧ 0 ≤ y ∧ y + (i : Int) ≤ 3999 ∧ g x y = g a b) ⟨rfl, a, b, none, rfl, a0, b0, by omega, rfl⟩ (fun _ _ _ _ _ => trivial) ?_ ?_⟩
  · rintro i v σ H1 H2 hi ⟨rfl, x, y, s, rfl, x0, y0, hy, hg⟩ ⟨rfl, rfl⟩
    refine ⟨_, rfl, rfl, _, rfl, ?_⟩
    by_cases z : y = 0
    · refine itT (decide_eq_true (by rw [z])) ⟨_, rfl, ?_⟩
      have e : x = g a b := by rw [← hg, z, g_zero x0]
      rw [e]
      exact q
    · refine itF (decide_eq_false (fun e => z (V.int.inj e))) ⟨_, rfl, _, rfl, _, rfl, _, _, rfl, rfl, z, _, _, rfl, rfl, y, x.fmod y, _, rfl, y0, ?_, ?_, ?_⟩
      · exact (fm (by omega)).1
      · have := (fm (a := x) (b := y) (by omega)).2
        omega
      · rw [g_step x0 (by omega), hg]
  · rintro σ H1 ⟨rfl, x, y, s, rfl, x0, y0, hy, hg⟩
    omega
/-! ### _law_share -/
abbrev s_share : Stmt := top 50
def spShare : Sp := fun vs H Q _ => ∃ a b : Int, vs = [.int a, .int b] ∧ 0 ≤ a ∧ 0 < b ∧ b ≤ 3999 ∧ ∀ p H', Same H H' → H' p = some (.tup [.int (red a b).1, .int (red a b).2]) → Q (.ref p) H'
theorem sc_share : FnScope ["_law_above", "_law_below", "_law_told"] ["_law_above", "_law_below"] (defScope s_share) := ⟨rfl, rfl, rfl, by decide +kernel, rfl, by decide +kernel, by decide +kernel⟩
theorem ok_share (D : Df K mg "_law_share" s_share) (cD : Cal P w K mg base "_law_divisor" 1 ["_law_one", "_law_beside"] spDiv) : Cal P w K mg base "_law_share" 2 ["_law_above", "_law_below"] spShare := by
  refine cal_mk D sc_share (fun vs H Q E h => ?_) (fun _ _ _ _ _ _ us hl => match us, hl with | [_, _], _ => rfl) (fun f cdv A outer s H vs Q E hr h => ?_)
  · obtain ⟨_, _, rfl, _⟩ := h
    rfl
  obtain ⟨a, b, rfl, a0, b0, b4, q⟩ := h
  refine ⟨_, pss_cons (ps_set (i := 2) sc_share.nd rfl (.inl rfl) (pe_cal cD hr (by decide) (by rfl) (pa_cons (pv 0) (pa_cons (pv 1) pa_nil))))
    (pss_one (ps_ret (pe_tup (pa_cons (pe_op op_fdivN (pv 0) (pv 2)) (pa_cons (pe_op op_fdivN (pv 1) (pv 2)) pa_nil))))), ?_⟩
  have g0 := g_pos (a := a) b0
  have g1 := g_le (a := a) b0
  have gok : g a b ≠ 0 ∧ (g a b).natAbs < 1073741824 := ⟨by omega, by omega⟩
  refine ⟨_, rfl, _, rfl, a, b, rfl, a0, by omega, b4, ?_⟩
  refine ⟨_, rfl, _, rfl, a, g a b, rfl, rfl, gok, _, rfl, _, rfl, b, g a b, rfl, rfl, gok, two_line _ _, fun p hp => ?_⟩
  refine q p _ (same_new hp _) ?_
  rw [upd_same]
  show some (HO.tup [V.int (a.fdiv (g a b)), V.int (b.fdiv (g a b))]) = _
  rw [Int.fdiv_eq_ediv_of_nonneg _ (Int.le_of_lt g0), Int.fdiv_eq_ediv_of_nonneg _ (Int.le_of_lt g0)]
  rfl
/-! ### _law_end -/
abbrev s_end : Stmt := top 51
def spEnd (K : PySem.W.Frag) : Sp := fun vs H Q _ => ∃ (tv : V) (i j : Int) (t : T), vs = [tv, .int i, .int j] ∧ TAt K H tv t ∧ t.dep ≤ 3 ∧ Q (.int (t.go i j)) H
theorem sc_end : FnScope ["_law_told_so", "_law_line", "_law_spot", "_law_step"] ["_law_told_so", "_law_line", "_law_spot"] (defScope s_end) := ⟨rfl, rfl, rfl, by decide +kernel, rfl, by decide +kernel, by decide +kernel⟩
theorem ok_end (T' : Txt K mg) (D : Df K mg "_law_end" s_end) : Cal P w K mg base "_law_end" 1 ["_law_told_so", "_law_line", "_law_spot"] (spEnd K) := by
  refine cal_mk D sc_end (fun vs H Q E h => ?_) (fun _ _ _ _ _ _ us hl => match us, hl with | [_, _, _], _ => rfl) (fun f cdv A outer s H vs Q E hr h => ?_)
  · obtain ⟨_, _, _, _, rfl, _⟩ := h
    rfl
  obtain ⟨tv, i, j, t, rfl, ht, td, q⟩ := h
  refine ⟨_, pss_cons (ps_for PassesOwn.never rfl (pi_range1 (by rfl) T'.range (pa_cons pe_int pa_nil)) (pg_name (i := 3) sc_end.nd rfl (Or.inl rfl))
      (pss_one (ps_if (pt_not (pt_val (pe_isi (n := "int") (pv 0) T'.isi (by rfl) (by rfl) T'.int (by decide +kernel))))
        (pss_one (ps_set (i := 0) sc_end.nd rfl (.inl rfl) (pe_ifExp (pt_cmpR op_in_seq (pe_ifExp (pt_cmpR op_eq (px 0) pe_str (nomark _)) (pv 1) (pv 2)) (px 0) (by rfl)) (px 0) (px 0)))) pss_nil)))
    (pss_one (ps_ret (pv 0))), ?_⟩
  refine ⟨3, rfl, by decide, by decide, for_it (walk_rng (n := 3)) (fun k σ H' => H' = H ∧ ∃ (v : V) (t' : T) (y : Option V), σ = [some v, some (.int i), some (.int j), y] ∧ TAt K H v t' ∧ t'.go i j = t.go i j ∧ t'.dep + k ≤ 3) ⟨rfl, tv, t, none, rfl, ht, rfl, td⟩ (fun _ _ _ _ _ => trivial) ?_ ?_⟩
  · rintro k v0 σ H1 H2 hk ⟨rfl, v, t', y, rfl, hv, hgo, hd⟩ ⟨rfl, rfl⟩
    cases t' with
    | e n =>
      have hv' : v = .int n := hv
      subst hv'
      have dd : (T.e n).dep = 0 := rfl
      exact ⟨_, rfl, _, _, _, _, _, rfl, .ty _, ty_int n, kit_ty k_ii, _, rfl, itF rfl ⟨rfl, _, .e n, _, rfl, rfl, hgo, by omega⟩⟩
    | n r lot a b =>
      obtain ⟨p, p2, va, vb, rfl, h1, h2, h3, h4⟩ := hv
      have dd : (T.n r lot a b).dep = max a.dep b.dep + 1 := rfl
      have go : (T.n r lot a b).go i j = if (if r then i else j) ∈ lot then a.go i j else b.go i j := rfl
      rw [go] at hgo
      refine ⟨_, rfl, _, _, _, _, _, rfl, .ty _, ty_tup h1, kit_ty k_ti, _, rfl, itT rfl ?_⟩
      refine rx rfl h1 rfl ⟨rfl, _, rfl, itD (word_row r) (pick rfl rfl (rx rfl h1 rfl ⟨p2, _, rfl, .inr h2, rfl, flat_ints lot, _, rfl, itD (r := decide ((if r then i else j) ∈ lot)) ?_ ?_⟩))⟩
      · rw [if_neg Bool.false_ne_true]
        exact inV_int _ _
      generalize (if r then i else j) = n at hgo
      by_cases hm : n ∈ lot
      · rw [if_pos hm] at hgo
        exact itT (decide_eq_true hm) (rx rfl h1 rfl ⟨rfl, va, a, _, rfl, h3, hgo, by omega⟩)
      · rw [if_neg hm] at hgo
        exact itF (decide_eq_false hm) (rx rfl h1 rfl ⟨rfl, vb, b, _, rfl, h4, hgo, by omega⟩)
  · rintro σ H1 ⟨rfl, v, t', y, rfl, hv, hgo, hd⟩
    cases t' with
    | e n =>
      have hv' : v = .int n := hv
      subst hv'
      refine ⟨_, rfl, ?_⟩
      rw [← hgo] at q
      exact q
    | n r lot a b =>
      have dd : (T.n r lot a b).dep = max a.dep b.dep + 1 := rfl
      omega
/-! ### _law_mix -/
abbrev s_lmix : Stmt := top 53
def spLMix (K : PySem.W.Frag) : Sp := fun vs H Q _ => ∃ (pw ps : Addr) (ws : List Int) (us : List V) (ts : List T), vs = [.ref pw, .ref ps] ∧ SqL K H pw (ws.map V.int) ∧ SqL K H ps us ∧ All2 (TAt K H) us ts ∧ ws.length = ts.length ∧ ws.length ≤ 400 ∧ 0 < ws.length ∧ (∀ x ∈ ws, 0 < x) ∧ ws.sum ≤ 3999 ∧
  ∀ v H', Same H H' → MAt K H' ws.sum v (ws.zip ts) → Q v H'
theorem sc_lmix : FnScope ["_law_weights_so", "_law_some", "_law_whole", "_law_weight", "_law_told_so"] ["_law_weights_so", "_law_some"] (defScope s_lmix) := ⟨rfl, rfl, rfl, by decide +kernel, rfl, by decide +kernel, by decide +kernel⟩
theorem sum_pos : ∀ {l : List Int}, (∀ x ∈ l, 0 < x) → 0 < l.length → 0 < l.sum
  | [], _, h => absurd h (by decide)
  | x :: l, h, _ => by
    have a := sum_nonneg (l := l) fun y hy => Int.le_of_lt (h y (List.mem_cons_of_mem _ hy))
    have b := h x List.mem_cons_self
    rw [List.sum_cons]; omega
theorem ok_lmix (T' : Txt K mg) (D : Df K mg "_law_mix" s_lmix) (cS : Cal P w K mg base "_law_share" 2 ["_law_above", "_law_below"] spShare) : Cal P w K mg base "_law_mix" 3 ["_law_weights_so", "_law_some"] (spLMix K) := by
  refine cal_mk D sc_lmix (fun vs H Q E h => ?_) (fun _ _ _ _ _ _ us hl => match us, hl with | [_, _], _ => rfl) (fun f cdv A outer s H vs Q E hr h => ?_)
  · obtain ⟨_, _, _, _, _, rfl, _⟩ := h
    rfl
  obtain ⟨pw, ps, ws, us, ts, rfl, hw, hs, hA, hl, h400, hne, hpos, hsum, q⟩ := h
  refine ⟨_, pss_cons (ps_set (i := 2) sc_lmix.nd rfl (.inr rfl) (pe_callB (cr_sum rfl) (by rfl) T'.sum (by decide +kernel) (pa_cons (pv 0) pa_nil)))
    (pss_one (ps_ret (pe_callTy call_tuple_of (by rfl) T'.tuple (by decide +kernel) (pa_cons (pe_lc (own := [("_law_weight", 3), ("_law_told_so", 4)]) (g := gTup K 2 (gCons (gName 3) (gCons (gName 4) gNil))) (tt := tYes)
        (te := tTup (tCons (tCall spShare [] E0 (tCons (tVar 3) (tCons (tVar 2) tNil))) (tCons (tVar 4) tNil)))
        rfl sc_lmix.nd (pi_zip (by rfl) T'.zip (pa_cons (pv 0) (pa_cons (pv 1) pa_nil))) (blkOk_by (own := [("_law_weight", 3), ("_law_told_so", 4)]) (N := ["_law_weights_so", "_law_some", "_law_whole", "_law_weight", "_law_told_so"]) (sc := defScope s_lmix) (by decide +kernel))
        (fun _ _ _ _ _ => pg_tup rfl (pgs_cons (pg_name (i := 3) sc_lmix.nd rfl (Or.inl rfl)) (pgs_cons (pg_name (i := 4) sc_lmix.nd rfl (Or.inl rfl)) pgs_nil)))
        (fun _ _ _ _ _ => pts_nil) (fun _ _ _ _ _ => pe_tup (pa_cons (pe_cal cS hr (by decide) (by rfl) (pa_cons (pv 3) (pa_cons (pv 2) pa_nil))) (pa_cons (pv 4) pa_nil)))) pa_nil)))), ?_⟩
  have S0 := sum_pos hpos hne
  have hul := hA.len
  refine ⟨_, rfl, pw, ws, rfl, hw, ?_⟩
  refine ⟨_, rfl, _, rfl, pw, ps, _, _, rfl, hw, hs, fun D1 hD => lc_it (walk_zip (K := K) (a := pw) (b := ps) (xs := ws.map V.int) (ys := us) (n := ws.length) (by rw [List.length_map]; omega))
    (fun i H' => ∃ es, Same H H' ∧ H' D1 = some (.lst es) ∧ All2 (MxE K H' ws.sum) es ((ws.zip ts).take i) ∧ es.length = i) ⟨[], same_new hD _, upd_same, .nil, rfl⟩ (fun i H' _ ⟨_, e, _⟩ => ⟨e.seq hw, e.seq hs⟩) ?_ ?_⟩
  · rintro i v H1 H2 hi ⟨es, e, hes, hE, hel⟩ ⟨Tp, x, y, rfl, hT, rfl, hx, hy⟩
    obtain ⟨n, hn, rfl⟩ := get_int (l := ws) (i := i) hx
    obtain ⟨t, ht, hty⟩ := hA.get (i := i) (a := y) hy
    have n0 := hpos n (List.mem_of_getElem? hn)
    have e1 := e.trans (same_new hT (.tup [.int n, y]))
    have e01 := same_new hT (.tup [.int n, y])
    refine ⟨Tp, _, rfl, sqt_new, rfl, _, _, rfl, _, _, rfl, rfl, rfl, _, rfl, _, rfl, n, ws.sum, rfl, by omega, S0, hsum, fun p H3 e3 hp => ⟨_, rfl, two_line _ _, fun q2 hq2 => ?_⟩⟩
    have e4 := same_new hq2 (.tup [.ref p, y])
    have hes4 := (e01.trans (e3.trans e4)) _ _ hes
    have tk4 := tk_list (K := K) (ys := es ++ [.ref q2]) hes4
    refine ⟨es, hes4, Nat.lt_of_le_of_lt (by omega : es.length ≤ 400) (by decide), es ++ [.ref q2], same_upd (e1.trans (e3.trans e4)) hD, upd_same, ?_, by rw [List.length_append, hel]; rfl⟩
    rw [take_snoc (zip_get hn ht)]
    exact (hE.mono fun _ _ z => z.tk ((e01.trans (e3.trans e4)).tk.trans tk4)).snoc ⟨q2, .ref p, y, rfl, tk4 _ _ sqt_new, ⟨p, rfl, tk4 _ _ (e4.sqt (.inl (.inl hp)))⟩, hty.tk ((e1.trans (e3.trans e4)).tk.trans tk4)⟩
  · rintro H1 ⟨es, e, hes, hE, hel⟩
    rw [List.take_of_length_le (by rw [List.length_zip]; omega)] at hE
    refine ⟨D1, es, rfl, .inl ⟨SqL.of hes, fun l hl' => q (.ref l) _ (e.trans (same_new hl' _)) ⟨l, es, rfl, sqt_new, hE.mono fun _ _ z => z.tk (same_new hl' _).tk⟩⟩⟩
end
end K76
set_option Elab.async false
set_option linter.all false
set_option maxRecDepth 100000
set_option maxHeartbeats 4000000
namespace K76
open PySem PySem.Spec PyProof.Rows L2
section
variable {P : Program} {w : World} {K : PySem.W.Frag} {mg : Str → Option Value} {base : Heap}
/-! ### _law_least -/
abbrev s_lleast : Stmt := top 52
def spLLeast (K : PySem.W.Frag) : Sp := fun vs H Q _ => ∃ (gv : V) (pw ps : Addr) (gr : List (List Int)) (R C : Nat) (ws : List Int) (us : List V) (ts : List T), vs = [gv, .ref pw, .ref ps] ∧ GAt K H gv gr ∧ GOk gr R C ∧ SqL K H pw (ws.map V.int) ∧ SqL K H ps us ∧ All2 (TAt K H) us ts ∧
  ws.length = ts.length ∧ (∀ t ∈ ts, t.dep ≤ 3) ∧ ∀ v H', Same H H' → BestAt K H' v (best (rat gr (ws.zip ts)) (cells R C)) → Q v H'
abbrev nLLeast : List Str := ["_law_told_grid", "_law_weights_so", "_law_some", "_law_best", "_law_line", "_law_spot", "_law_here", "_law_weight", "_law_told_so"]
theorem sc_lleast : FnScope nLLeast ["_law_told_grid", "_law_weights_so", "_law_some"] (defScope s_lleast) := ⟨rfl, rfl, rfl, by decide +kernel, rfl, by decide +kernel, by decide +kernel⟩
theorem ok_lleast (T' : Txt K mg) (D : Df K mg "_law_least" s_lleast) (cE : Cal P w K mg base "_law_end" 1 ["_law_told_so", "_law_line", "_law_spot"] (spEnd K)) : Cal P w K mg base "_law_least" 2 ["_law_told_grid", "_law_weights_so", "_law_some"] (spLLeast K) := by
  refine cal_mk D sc_lleast (fun vs H Q E h => ?_) (fun _ _ _ _ _ _ us hl => match us, hl with | [_, _, _], _ => rfl) (fun f cdv A outer s H vs Q E hr h => ?_)
  · obtain ⟨_, _, _, _, _, _, _, _, _, rfl, _⟩ := h
    rfl
  obtain ⟨gv, pw, ps, gr, R, C, ws, us, ts, rfl, ⟨pg, rs, rfl, hg, hrows⟩, ok, hw, hs, hA, hl, hdep, q⟩ := h
  have hlen : rs.length = R := by rw [hrows.len, ok.len]
  have r0 := ok.r0
  have r4 := ok.r4
  have c4 := ok.c4
  obtain ⟨ca, row0, f1, f2, f3, f4, _⟩ := grid_row hrows ok (i := 0) (by omega)
  have l2 : (row0.map V.int).length = C := by rw [List.length_map, f4]
  have hul := hA.len
  refine ⟨_, pss_cons (ps_set (i := 3) sc_lleast.nd rfl (.inl rfl) pe_non)
    (pss_cons (ps_for PassesOwn.never rfl (pi_range1 (by rfl) T'.range (pa_cons (pe_callB call_len_seq (by rfl) T'.len PySem.boot_len (pa_cons (pv 0) pa_nil)) pa_nil)) (pg_name (i := 4) sc_lleast.nd rfl (Or.inl rfl))
      (pss_one (ps_for PassesOwn.never rfl (pi_range1 (by rfl) T'.range (pa_cons (pe_callB call_len_seq (by rfl) T'.len PySem.boot_len (pa_cons (px 0) pa_nil)) pa_nil)) (pg_name (i := 5) sc_lleast.nd rfl (Or.inl rfl))
        (pss_cons (ps_set (i := 6) sc_lleast.nd rfl (.inl rfl) pe_int)
        (pss_cons (ps_for PassesOwn.never rfl (pi_zip (by rfl) T'.zip (pa_cons (pv 1) (pa_cons (pv 2) pa_nil))) (pg_tup rfl (pgs_cons (pg_name (i := 7) sc_lleast.nd rfl (Or.inl rfl)) (pgs_cons (pg_name (i := 8) sc_lleast.nd rfl (Or.inl rfl)) pgs_nil)))
          (pss_one (ps_if (pt_cmpR op_eq (pe_cal cE hr (by decide) (by rfl) (pa_cons (pv 8) (pa_cons (pv 4) (pa_cons (pv 5) pa_nil)))) (pe_ix ix_tup (pe_ix ix_tup (pv 0) (pv 4) (fun _ _ => rfl)) (pv 5) (fun _ _ => rfl)) (nomark _))
            (pss_one (ps_set (i := 6) sc_lleast.nd rfl (.inl rfl) (pe_op op_add (pv 6) (pv 7)))) pss_nil)))
        (pss_one (ps_if (PW.pt (pw_or (pt_cmpR op_isN (pv 3) pe_non (nomark _)) (pw_or1 (pt_cmpR op_lt (pv 6) (px 3) (nomark _)))))
          (pss_one (ps_set (i := 3) sc_lleast.nd rfl (.inl rfl) (pe_tup (pa_cons (pv 6) (pa_cons (pe_tup (pa_cons (pv 4) (pa_cons (pv 5) pa_nil))) pa_nil))))) pss_nil)))))))
    (pss_one (ps_ret (pv 3)))), ?_⟩
  refine ⟨_, rfl, _, _, rfl, .inr hg, _, rfl, by omega, by omega, ?_⟩
  have eR : ((rs.length : Nat) : Int).toNat = R := by omega
  rw [eR]
  refine for_it (walk_rng (n := R)) (fun i σ H' => ∃ (v : V) (y4 y5 y6 y7 y8 : Option V), σ = [some (.ref pg), some (.ref pw), some (.ref ps), some v, y4, y5, y6, y7, y8] ∧ Same H H' ∧ BestAt K H' v (best (rat gr (ws.zip ts)) (cells i C))) ⟨.non, none, none, none, none, none, rfl, Same.refl _, rfl⟩ (fun _ _ _ _ _ => trivial) ?_ ?_
  · rintro i x σ H1 H2 hi ⟨v, y4, y5, y6, y7, y8, rfl, e, hv⟩ ⟨rfl, rfl⟩
    refine rx rfl (e.sqt hg) (at0 f1) ⟨_, _, rfl, .inr (e.sqt f3), _, rfl, by omega, by omega, ?_⟩
    have eC : (((row0.map V.int).length : Nat) : Int).toNat = C := by omega
    rw [eC]
    refine for_it (walk_rng (n := C)) (fun j σ H' => ∃ (v : V) (y5 y6 y7 y8 : Option V), σ = [some (.ref pg), some (.ref pw), some (.ref ps), some v, some (.int (i : Nat)), y5, y6, y7, y8] ∧ Same H H' ∧ BestAt K H' v (best (rat gr (ws.zip ts)) (cells i C ++ rowCells j i))) ⟨v, _, _, _, _, rfl, e, ?_⟩ (fun _ _ _ _ _ => trivial) ?_ ?_
    · have z : rowCells 0 i = [] := rfl
      rw [z, List.append_nil]
      exact hv
    · rintro j x σ H3 H4 hj ⟨v, y5, y6, y7, y8, rfl, e, hv⟩ ⟨rfl, rfl⟩
      obtain ⟨cr, row, g1, g2, g3, g4, g5⟩ := grid_row hrows ok hi
      have hjr : j < row.length := by omega
      have g6 : row[j]? = some row[j] := List.getElem?_eq_getElem hjr
      have hgat := gat_of g2 g6
      generalize row[j] = item at g6 hgat
      have g7 : (row.map V.int)[j]? = some (.int item) := by rw [List.getElem?_map, g6]; rfl
      refine ⟨_, rfl, _, rfl, pw, ps, _, _, rfl, e.seq hw, e.seq hs, ?_⟩
      refine for_it (walk_zip (K := K) (a := pw) (b := ps) (xs := ws.map V.int) (ys := us) (n := ws.length) (by rw [List.length_map]; omega))
        (fun k σ H' => ∃ (y7 y8 : Option V), σ = [some (.ref pg), some (.ref pw), some (.ref ps), some v, some (.int (i : Nat)), some (.int (j : Nat)), some (.int (wsum (fun t => decide (t.go i j = item)) ((ws.zip ts).take k))), y7, y8] ∧ Same H4 H') ⟨_, _, rfl, Same.refl _⟩ (fun k σ H' _ ⟨_, _, _, e2⟩ => ⟨(e.trans e2).seq hw, (e.trans e2).seq hs⟩) ?_ ?_
      · rintro k v0 σ H5 H6 hk ⟨y7, y8, rfl, e2⟩ ⟨Tp, x, y, rfl, hT, rfl, hx, hy⟩
        obtain ⟨n, hn, rfl⟩ := get_int (l := ws) (i := k) hx
        obtain ⟨t, ht, hty⟩ := hA.get (i := k) (a := y) hy
        have e3 := e2.trans (same_new hT (.tup [.int n, y]))
        have e4 := e.trans e3
        refine ⟨Tp, _, rfl, sqt_new, rfl, _, _, rfl, _, _, rfl, rfl, ?_⟩
        refine ⟨_, rfl, _, rfl, _, rfl, y, i, j, t, rfl, hty.tk e4.tk, hdep t (List.mem_of_getElem? ht), _, rfl, _, rfl, pg, rs, _, _, rfl, rfl, e4.sqt hg, atI_nat g1, _, rfl, cr, _, _, _, rfl, rfl, e4.sqt g3, atI_nat g7, rfl, _, rfl, ?_⟩
        rw [take_snoc (zip_get hn ht), wsum_append]
        by_cases c : t.go i j = item
        · have ew : wsum (fun t => decide (t.go i j = item)) [(n, t)] = n := by
            show (if decide (t.go i j = item) = true then n else 0) + 0 = n
            rw [if_pos (decide_eq_true c), Int.add_zero]
          rw [ew]
          exact itT (decide_eq_true (by rw [c])) ⟨_, rfl, _, rfl, _, _, rfl, rfl, _, _, rfl, e3⟩
        · have ew : wsum (fun t => decide (t.go i j = item)) [(n, t)] = 0 := by
            show (if decide (t.go i j = item) = true then n else 0) + 0 = 0
            rw [if_neg (by rw [decide_eq_false c]; exact Bool.false_ne_true)]
            rfl
          rw [ew, Int.add_zero]
          exact itF (decide_eq_false (fun z => c (V.int.inj z))) ⟨_, _, rfl, e3⟩
      · rintro σ H5 ⟨y7, y8, rfl, e2⟩
        rw [List.take_of_length_le (by rw [List.length_zip]; omega)]
        have e5 := e.trans e2
        have hv5 := hv.tk e2.tk
        have ex : wsum (fun t => decide (t.go i j = item)) (ws.zip ts) = rat gr (ws.zip ts) (i, j) := by
          show _ = wsum (fun t => decide (t.go i j = gat gr (i, j))) (ws.zip ts)
          rw [hgat]
        rw [ex]
        have snoc : cells i C ++ rowCells (j + 1) i = (cells i C ++ rowCells j i) ++ [(i, j)] := by rw [rowCells_succ, List.append_assoc]
        rw [snoc, best_snoc]
        have fin : ∀ p1 p2, H5 p1 = none → upd H5 p1 (.tup [.int (i : Nat), .int (j : Nat)]) p2 = none → Same H (upd (upd H5 p1 (.tup [.int (i : Nat), .int (j : Nat)])) p2 (.tup [.int (rat gr (ws.zip ts) (i, j)), .ref p1])) ∧
            BestAt K (upd (upd H5 p1 (.tup [.int (i : Nat), .int (j : Nat)])) p2 (.tup [.int (rat gr (ws.zip ts) (i, j)), .ref p1])) (.ref p2) (some (rat gr (ws.zip ts) (i, j), (i, j))) := fun p1 p2 n1 n2 =>
          ⟨e5.trans ((same_new n1 _).trans (same_new n2 _)), p2, p1, rfl, sqt_new, (same_new n2 _).sqt sqt_new⟩
        rcases best_spec (rat gr (ws.zip ts)) (cells i C ++ rowCells j i) with ⟨_, eb⟩ | ⟨x, c0, eb, _, ex0, _⟩
        · rw [eb] at hv5 ⊢
          have hv6 : v = .non := hv5
          subst hv6
          refine ⟨_, rfl, rfl, _, rfl, itT (by decide) (itT rfl ⟨_, rfl, _, rfl, _, rfl, two_line _ _, fun p1 n1 => ⟨two_line _ _, fun p2 n2 => ?_⟩⟩)⟩
          obtain ⟨fe, fb⟩ := fin p1 p2 n1 n2
          exact ⟨_, _, _, _, _, rfl, fe, fb⟩
        · rw [eb] at hv5 ⊢
          obtain ⟨p, q2, rfl, h1, h2⟩ := hv5
          refine ⟨_, rfl, rfl, _, rfl, itF (decide_eq_false (fun z => by cases z)) ⟨_, rfl, rx rfl h1 rfl ⟨_, _, rfl, rfl, _, rfl, ?_⟩⟩⟩
          by_cases lt : rat gr (ws.zip ts) (i, j) < x
          · have es : stepB (rat gr (ws.zip ts)) (some (x, c0)) (i, j) = some (rat gr (ws.zip ts) (i, j), (i, j)) := by show (if _ then _ else _) = _; rw [if_pos lt]
            rw [es]
            refine itT (decide_eq_true lt) ⟨_, rfl, _, rfl, _, rfl, two_line _ _, fun p1 n1 => ⟨two_line _ _, fun p2 n2 => ?_⟩⟩
            obtain ⟨fe, fb⟩ := fin p1 p2 n1 n2
            exact ⟨_, _, _, _, _, rfl, fe, fb⟩
          · have es : stepB (rat gr (ws.zip ts)) (some (x, c0)) (i, j) = some (x, c0) := by show (if _ then _ else _) = _; rw [if_neg lt]
            rw [es]
            exact itF (decide_eq_false lt) ⟨_, _, _, _, _, rfl, e5, p, q2, rfl, h1, h2⟩
    · rintro σ H3 ⟨v, y5, y6, y7, y8, rfl, e, hv⟩
      exact ⟨v, _, _, _, _, _, rfl, e, hv⟩
  · rintro σ H1 ⟨v, y4, y5, y6, y7, y8, rfl, e, hv⟩
    exact ⟨v, rfl, q v _ e hv⟩
/-! ### _law_drawn -/
abbrev s_drawn : Stmt := top 55
/-- drawn speeches and weights -/
structure DrawnOk (ws : List Int) (ts : List T) (R C most : Nat) : Prop where
  len : ws.length = ts.length
  l1 : 1 ≤ ws.length
  l6 : ws.length ≤ 6
  w : ∀ x ∈ ws, 1 ≤ x ∧ x ≤ 7
  t : ∀ t ∈ ts, t.ok R C ∧ t.dep ≤ most
def spDrawn (K : PySem.W.Frag) : Sp := fun vs H Q _ => ∃ (st cs ls : Addr) (n : Int) (gv : V) (gr : List (List Int)) (R C most : Nat), vs = [.ref st, gv, .int most] ∧ GAt K H gv gr ∧ GOk gr R C ∧ most ≤ 2 ∧ St0 H st cs ls n ∧ n ≤ 900000 ∧
  ∀ (p pw ps : Addr) (ws : List Int) (us : List V) (ts : List T) (m : Int) (H' : Hp), SqT K H' p [.ref pw, .ref ps] → H' pw = some (.lst (ws.map V.int)) → H' ps = some (.lst us) → H pw = none → H ps = none → All2 (TAt K H') us ts → DrawnOk ws ts R C most →
    St0 H' st cs ls m → m ≤ n + 1000 → Kp st ls H H' → Q (.ref p) H'
abbrev nDrawn : List Str := ["_law_state", "_law_told_grid", "_law_most", "_law_some", "_law_step", "_law_told_so"]
theorem sc_drawn : FnScope nDrawn ["_law_state", "_law_told_grid", "_law_most"] (defScope s_drawn) := ⟨rfl, rfl, rfl, by decide +kernel, rfl, by decide +kernel, by decide +kernel⟩
theorem ok_drawn (T' : Txt K mg) (D : Df K mg "_law_drawn" s_drawn) (cD : Cal P w K mg base "_law_draw" 2 ["_law_state", "_law_limit"] spDraw) (cS : Cal P w K mg base "_law_speech" 5 pLSpeech (spLSpeech K 3)) :
    Cal P w K mg base "_law_drawn" 6 ["_law_state", "_law_told_grid", "_law_most"] (spDrawn K) := by
  refine cal_mk D sc_drawn (fun vs H Q E h => ?_) (fun _ _ _ _ _ _ us hl => match us, hl with | [_, _, _], _ => rfl) (fun f cdv A outer s H vs Q E hr h => ?_)
  · obtain ⟨_, _, _, _, _, _, _, _, _, rfl, _⟩ := h
    rfl
  obtain ⟨st, cs, ls, n, gv, gr, R, C, most, rfl, ⟨pg, rs, rfl, hg, hrows⟩, ok, hm, S, n1, q⟩ := h
  refine ⟨_, pss_cons (ps_set (i := 3) sc_drawn.nd rfl (.inl rfl) (pe_lst pa_nil))
    (pss_cons (ps_for PassesOwn.never rfl (pi_range1 (by rfl) T'.range (pa_cons (pe_op op_add pe_int (pe_cal cD hr (by decide) (by rfl) (pa_cons (pv 0) (pa_cons pe_int pa_nil)))) pa_nil)) (pg_name (i := 4) sc_drawn.nd rfl (Or.inl rfl))
      (pss_one (ps_expr (pe_bm PySem.F.plainAttrs_list PySem.F.slot_list_append PySem.F.type_list_append mt_append (pv 3) (pa_cons (pe_cal cS hr (by decide) (by rfl) (pa_cons (pv 0) (pa_cons (pe_callB call_len_seq (by rfl) T'.len PySem.boot_len (pa_cons (pv 1) pa_nil)) (pa_cons (pe_callB call_len_seq (by rfl) T'.len PySem.boot_len (pa_cons (px 1) pa_nil)) (pa_cons (pv 2) (pa_cons pe_int pa_nil)))))) pa_nil)))))
    (pss_cons (ps_if (pt_cmpR op_eq (pe_cal cD hr (by decide) (by rfl) (pa_cons (pv 0) (pa_cons pe_int pa_nil))) pe_int (nomark _))
      (pss_one (ps_expr (pe_bm PySem.F.plainAttrs_list PySem.F.slot_list_append PySem.F.type_list_append mt_append (pv 3) (pa_cons (pe_ix ix_list (pv 3) pe_int (fun _ _ => rfl)) pa_nil)))) pss_nil)
    (pss_one (ps_ret (pe_tup (pa_cons (pe_lc (own := [("_law_told_so", 5)]) (g := gName 5) (tt := tYes) (te := tOp (rI0 fun i j => .int (i + j)) (tC (.int 1)) (tCall spDraw [] E0 (tCons (tVar 0) (tCons (tC (.int 7)) tNil))))
        rfl sc_drawn.nd (pi_list (pv 3)) (blkOk_by (own := [("_law_told_so", 5)]) (N := nDrawn) (sc := defScope s_drawn) (by decide +kernel))
        (fun _ _ _ _ _ => pg_name (i := 5) sc_drawn.nd rfl (Or.inl rfl)) (fun _ _ _ _ _ => pts_nil) (fun _ _ _ _ _ => pe_op op_add pe_int (pe_cal cD hr (by decide) (by rfl) (pa_cons (pv 0) (pa_cons pe_int pa_nil))))) (pa_cons (pv 3) pa_nil))))))), ?_⟩
  have hlen : rs.length = R := by rw [hrows.len, ok.len]
  have r0 := ok.r0
  have r4 := ok.r4
  have c0 := ok.c0
  have c4 := ok.c4
  obtain ⟨ca, row0, f1, f2, f3, f4, _⟩ := grid_row hrows ok (i := 0) (by omega)
  have l2 : (row0.map V.int).length = C := by rw [List.length_map, f4]
  have dm : dr most ≤ 22 := by
    match most, hm with
    | 0, _ => decide
    | 1, _ => decide
    | 2, _ => decide
  refine ⟨none_line, fun L nL => ?_⟩
  obtain ⟨a1, a2, a3⟩ := S.apart nL
  have S1 := S.same (same_new nL (.lst []))
  refine ⟨_, rfl, st, cs, ls, n, 5, rfl, S1, by decide, by decide, by omega, fun v H2 v0 v5 S2 k2 => ⟨_, _, rfl, rfl, _, rfl, by omega, by omega, ?_⟩⟩
  have hL2 : H2 L = some (.lst []) := k2 _ _ a1 a2 upd_same
  have kH2 : Kp st ls H H2 := (same_new nL (.lst [])).kp.trans k2
  obtain ⟨N, eN⟩ : ∃ N : Nat, (1 : Int) + v = (N : Int) := ⟨(1 + v).toNat, by omega⟩
  have eN2 : ((1 : Int) + v).toNat = N := by omega
  rw [eN2]
  -- the weights, and the answer
  have tail : ∀ (y4 : Option V) (H3 : Hp) (us : List V) (ts : List T) (m : Int), H3 L = some (.lst us) → All2 (TAt K H3) us ts → 1 ≤ ts.length → ts.length ≤ 6 → (∀ t ∈ ts, t.ok R C ∧ t.dep ≤ most) → St0 H3 st cs ls m → m ≤ n + 900 → Kp st ls H H3 →
      tTup (tCons (tLc (iList K (tVar 3)) (gName 5) tYes (tOp (rI0 fun i j => .int (i + j)) (tC (.int 1)) (tCall spDraw [] E0 (tCons (tVar 0) (tCons (tC (.int 7)) tNil)))) [5]) (tCons (tVar 3) tNil)) [some (.ref st), some (.ref pg), some (.int most), some (.ref L), y4, none] H3 Q := by
    intro y4 H3 us ts m hL hA t1 t6 hts S3 hm3 k3
    have hul := hA.len
    refine ⟨_, rfl, L, rfl, ⟨us, SqL.of hL⟩, fun D1 hD => ?_⟩
    obtain ⟨d1, d2, d3⟩ := S3.apart hD
    refine lc_it (walk_list (K := K) (a := L) (xs := us)) (fun i H' => ∃ (ws : List Int) (m' : Int), H' D1 = some (.lst (ws.map V.int)) ∧ ws.length = i ∧ (∀ x ∈ ws, 1 ≤ x ∧ x ≤ 7) ∧ St0 H' st cs ls m' ∧ m' ≤ m + (i : Int) ∧ Kp st ls H3 H')
      ⟨[], m, upd_same, rfl, (fun _ h => nomatch h), S3.same (same_new hD _), by omega, (same_new hD _).kp⟩ (fun i H' _ ⟨_, _, _, _, _, _, _, k⟩ => SqL.of (k _ _ a1 a2 hL)) ?_ ?_
    · rintro i x H4 H5 hi ⟨ws, m', hw, hwl, hb, S4, hm4, k4⟩ ⟨rfl, _⟩
      refine ⟨rfl, _, rfl, st, cs, ls, m', 7, rfl, S4, by decide, by decide, by omega, fun v H6 v0 v7 S6 k6 => ⟨_, _, rfl, rfl, ?_⟩⟩
      refine ⟨_, k6 _ _ d1 d2 hw, by rw [List.length_map]; exact Nat.lt_of_le_of_lt (by omega : ws.length ≤ 6) (by decide), ws ++ [1 + v], m' + 1, by rw [upd_same, List.map_append]; rfl, by rw [List.length_append, hwl]; rfl, fun x hx => ?_, S6.upd d1 d2 d3 _, by omega, kp_upd (k4.trans k6) hD⟩
      rcases List.mem_append.mp hx with hx | hx
      · exact hb x hx
      · have z : x = 1 + v := by simpa using hx
        rw [z]; omega
    · rintro H4 ⟨ws, m', hw, hwl, hb, S4, hm4, k4⟩
      refine ⟨_, rfl, two_line _ _, fun p hp => ?_⟩
      have e5 := same_new hp (.tup [.ref D1, .ref L])
      refine q p D1 L ws us ts m' _ sqt_new (e5 _ _ hw) (e5 _ _ (k4 _ _ a1 a2 hL)) (Kp.free' (n := 0) k3 S3 hD) nL (hA.mono fun _ _ z => (z.tk (k4.tk S3)).tk e5.tk) ⟨by omega, by omega, by omega, hb, hts⟩ (S4.same e5) (by omega) (k3.trans (k4.trans e5.kp))
  refine for_it (walk_rng (n := N)) (fun i σ H' => ∃ (us : List V) (ts : List T) (m : Int) (y4 : Option V), σ = [some (.ref st), some (.ref pg), some (.int most), some (.ref L), y4, none] ∧ H' L = some (.lst us) ∧ All2 (TAt K H') us ts ∧ ts.length = i ∧ (∀ t ∈ ts, t.ok R C ∧ t.dep ≤ most) ∧ St0 H' st cs ls m ∧ m ≤ n + 1 + 30 * (i : Int) ∧ Kp st ls H H')
    ⟨[], [], _, none, rfl, hL2, .nil, rfl, (fun _ h => nomatch h), S2, by omega, kH2⟩ (fun _ _ _ _ _ => trivial) ?_ ?_
  · rintro i x σ H3 H4 hi ⟨us, ts, m, y4, rfl, hL, hA, hl, hts, S3, hm3, k3⟩ ⟨rfl, rfl⟩
    have tk3 := k3.tk (K := K) S
    have hul := hA.len
    refine ⟨_, rfl, .inl ⟨rfl, _, SqL.of hL⟩, _, rfl, _, rfl, _, _, rfl, .inr (tk3 _ _ hg), rx rfl (tk3 _ _ hg) (at0 f1) ⟨_, _, rfl, .inr (tk3 _ _ f3), _, rfl, st, cs, ls, m, R, C, most, ?_, by omega, r0, r4, c0, c4, S3, by omega, fun u t m' H5 ht okt dt S5 hm5 k5 => ?_⟩⟩
    · rw [hlen, l2]
      rfl
    · have hL5 := k5 _ _ a1 a2 hL
      have tk6 := tk_list (K := K) (ys := us ++ [u]) hL5
      refine ⟨L, us, u, rfl, rfl, hL5, Nat.lt_of_le_of_lt (by omega : us.length ≤ 6) (by decide), us ++ [u], ts ++ [t], m', _, rfl, upd_same, (hA.mono fun _ _ z => z.tk ((k5.tk S3).trans tk6)).snoc (ht.tk tk6), by rw [List.length_append, hl]; rfl, fun t' ht' => ?_, S5.upd a1 a2 a3 _, by omega, kp_upd (k3.trans k5) nL⟩
      rcases List.mem_append.mp ht' with ht' | ht'
      · exact hts t' ht'
      · have z : t' = t := by simpa using ht'
        rw [z]
        exact ⟨okt, dt⟩
  · rintro σ H3 ⟨us, ts, m, y4, rfl, hL, hA, hl, hts, S3, hm3, k3⟩
    have hul := hA.len
    refine ⟨_, rfl, st, cs, ls, m, 3, rfl, S3, by decide, by decide, by omega, fun v3 H4 v30 v33 S4 k4 => ⟨rfl, _, rfl, ?_⟩⟩
    have hL4 := k4 _ _ a1 a2 hL
    have hA4 := hA.mono fun _ _ z => z.tk (k4.tk S3)
    have k34 := k3.trans k4
    by_cases c : v3 = 0
    · have n0 : 0 < us.length := by omega
      have u0 : us[0]? = some us[0] := List.getElem?_eq_getElem n0
      obtain ⟨t, ht, hty⟩ := hA4.get u0
      have tk5 := tk_list (K := K) (ys := us ++ [us[0]]) hL4
      refine itT (decide_eq_true (by rw [c])) ⟨_, rfl, .inl ⟨rfl, _, SqL.of hL4⟩, _, rfl, L, us, _, _, rfl, rfl, SqL.of hL4, at0 u0, L, us, _, rfl, rfl, hL4, Nat.lt_of_le_of_lt (by omega : us.length ≤ 6) (by decide), ?_⟩
      refine tail y4 _ (us ++ [us[0]]) (ts ++ [t]) (m + 1) upd_same ((hA4.mono fun _ _ z => z.tk tk5).snoc (hty.tk tk5)) (by rw [List.length_append]; omega) (by rw [List.length_append]; show ts.length + 1 ≤ 6; omega) (fun t' ht' => ?_) (S4.upd a1 a2 a3 _) (by omega) (kp_upd k34 nL)
      rcases List.mem_append.mp ht' with ht' | ht'
      · exact hts t' ht'
      · have z : t' = t := by simpa using ht'
        rw [z]
        exact hts t (List.mem_of_getElem? ht)
    · exact itF (decide_eq_false (fun e => c (V.int.inj e))) (tail y4 _ us ts (m + 1) hL4 hA4 (by omega) (by omega) hts S4 (by omega) k34)
end
end K76
set_option Elab.async false
set_option linter.all false
set_option maxRecDepth 100000
set_option maxHeartbeats 4000000
namespace K76
open PySem PySem.Spec PyProof.Rows L2
/-! ### what is shown is short -/
structure ShowOk (d : PyData) (n : Nat) : Prop where
  s : d.showable = true
  h : d.hasDict = false
  dp : d.depth ≤ 10
  l : d.shown.length ≤ n
theorem int_len {a : Int} (h0 : 0 ≤ a) (h : a ≤ 100000) : (PyData.shown (.int a)).length ≤ 12 := by
  have e := int_text_length_le10 (a := a) (k := 10) (by decide) (by omega)
  show (Str.ofString (toString a)).length ≤ 12
  rw [PySem.ofString_length]
  omega
theorem int_showable {a : Int} (h0 : 0 ≤ a) (h : a ≤ 100000) : (PyData.int a).showable = true := by
  have z : a.natAbs.log2 < 1920 := by
    by_cases e : a.natAbs = 0
    · rw [e]; decide
    · exact Nat.lt_trans ((Nat.log2_lt e).mpr (by omega : a.natAbs < 2 ^ 17)) (by decide)
  simp only [PyData.showable]
  exact decide_eq_true z
/-- two numbers, one fraction or cell -/
def dF (f : Int × Int) : PyData := .tuple [.int f.1, .int f.2]
def dR (f c : Int × Int) : PyData := .tuple [dF f, dF c]
def Few (f : Int × Int) : Prop := 0 ≤ f.1 ∧ f.1 ≤ 100000 ∧ 0 ≤ f.2 ∧ f.2 ≤ 100000
theorem show_F {f : Int × Int} (h : Few f) : ShowOk (dF f) 40 := by
  obtain ⟨a, b, c, d⟩ := h
  refine ⟨?_, rfl, by simp [dF, PyData.depth, PyData.depthAll], ?_⟩
  · simp only [dF, PyData.showable, PyData.showableAll]
    have e1 := int_showable a b
    have e2 := int_showable c d
    simp only [PyData.showable] at e1 e2
    rw [e1, e2]
    rfl
  · have e1 := int_len a b
    have e2 := int_len c d
    have z := tupleText_len_le [PyData.shown (.int f.1), PyData.shown (.int f.2)]
    have q : (dF f).shown = tupleText [PyData.shown (.int f.1), PyData.shown (.int f.2)] := by simp only [dF, PyData.shown, PyData.shownAll]
    rw [q]
    simp only [List.map_cons, List.map_nil, List.sum_cons, List.sum_nil, List.length_cons, List.length_nil] at z
    omega
theorem show_R {f c : Int × Int} (h : Few f) (h' : Few c) : ShowOk (dR f c) 100 := by
  have a := show_F h
  have b := show_F h'
  refine ⟨?_, rfl, ?_, ?_⟩
  · simp only [dR, PyData.showable, PyData.showableAll, a.s, b.s]
    rfl
  · simp [dR, dF, PyData.depth, PyData.depthAll]
  · have z := tupleText_len_le [(dF f).shown, (dF c).shown]
    have q : (dR f c).shown = tupleText [(dF f).shown, (dF c).shown] := by simp only [dR, PyData.shown, PyData.shownAll]
    rw [q]
    simp only [List.map_cons, List.map_nil, List.sum_cons, List.sum_nil, List.length_cons, List.length_nil] at z
    have e1 := a.l
    have e2 := b.l
    omega
theorem show_L {d e : PyData} (a : ShowOk d 100) (b : ShowOk e 100) (hd : d.depth ≤ 5) (he : e.depth ≤ 5) : ShowOk (.list [d, e]) 300 := by
  refine ⟨?_, ?_, ?_, ?_⟩
  · simp only [PyData.showable, PyData.showableAll, a.s, b.s]
    rfl
  · simp only [PyData.hasDict, PyData.hasDictAll, a.h, b.h]
    rfl
  · simp only [PyData.depth, PyData.depthAll]
    omega
  · have z := listText_len_le [d.shown, e.shown]
    have q : (PyData.list [d, e]).shown = listText [d.shown, e.shown] := by simp only [PyData.shown, PyData.shownAll]
    rw [q]
    simp only [List.map_cons, List.map_nil, List.sum_cons, List.sum_nil, List.length_cons, List.length_nil] at z
    have e1 := a.l
    have e2 := b.l
    omega
theorem depth_R (f c : Int × Int) : (dR f c).depth ≤ 5 := by simp [dR, dF, PyData.depth, PyData.depthAll]
section
variable {K : PySem.W.Frag} {H : Hp}
theorem dp_F {q : Addr} {f : Int × Int} (h : SqT K H q [.int f.1, .int f.2]) : Dp K H (.ref q) (dF f) := .tup h (.cons (.int _) (.cons (.int _) .nil))
theorem dp_R {p : Addr} {u v : V} {f c : Int × Int} (h : SqT K H p [u, v]) (hu : Dp K H u (dF f)) (hv : Dp K H v (dF c)) : Dp K H (.ref p) (dR f c) := .tup h (.cons hu (.cons hv .nil))
end
section
variable {P : Program} {w : World} {K : PySem.W.Frag} {mg : Str → Option Value} {base : Heap}
/-! ### _law_like -/
abbrev s_like : Stmt := top 54
def spLike (K : PySem.W.Frag) : Sp := fun vs H Q _ => ∃ (p q : Addr) (d : PyData) (n : Nat), vs = [.ref p, .ref q] ∧ Dp K H (.ref p) d ∧ Dp K H (.ref q) d ∧ ShowOk d n ∧ n ≤ 1000 ∧ Q (.bl true) H
theorem sc_like : FnScope ["_law_got", "_law_due"] ["_law_got", "_law_due"] (defScope s_like) := ⟨rfl, rfl, rfl, by decide +kernel, rfl, by decide +kernel, by decide +kernel⟩
theorem ok_like (T' : Txt K mg) (D : Df K mg "_law_like" s_like) : CalG P w K mg base "_law_like" 1 ["_law_got", "_law_due"] (spLike K) := by
  refine calG_mk D sc_like (fun vs H Q E h => ?_) (fun _ _ _ _ _ _ us hl => match us, hl with | [_, _], _ => rfl) (fun f cdv A outer s H vs Q E free hr h => ?_)
  · obtain ⟨_, _, _, _, rfl, _⟩ := h
    rfl
  obtain ⟨p, p2, d, n, rfl, h1, h2, ok, hn, q⟩ := h
  have hu := hr.units
  refine ⟨_, pss_one (ps_ret (pe_cmpR op_eq (pe_callB (call_repr free hu) (by rfl) T'.repr (by decide +kernel) (pa_cons (pv 0) pa_nil)) (pe_callB (call_repr free hu) (by rfl) T'.repr (by decide +kernel) (pa_cons (pv 1) pa_nil)) (nomark _))), ?_⟩
  have dl := ok.dp
  have ll : d.shown.length ≤ sizeLine := Nat.le_trans ok.l (small hn)
  refine ⟨_, rfl, p, d, rfl, h1, ok.s, ok.h, by omega, ll, _, rfl, p2, d, rfl, h2, ok.s, ok.h, by omega, ll, rfl, ?_⟩
  have z : decide (V.str d.shown = V.str d.shown) = true := decide_eq_true rfl
  show Q (.bl (decide (V.str d.shown = V.str d.shown))) H
  rw [z]
  exact q
end
end K76
set_option Elab.async false
set_option linter.all false
set_option maxRecDepth 100000
set_option maxHeartbeats 8000000
namespace K76
open PySem PySem.Spec PyProof.Rows L2
/-! ### the drawn mixes, and both by halves -/
theorem sum_le7 : ∀ {l : List Int}, (∀ x ∈ l, 1 ≤ x ∧ x ≤ 7) → (l.length : Int) ≤ l.sum ∧ l.sum ≤ 7 * (l.length : Int)
  | [], _ => by simp
  | x :: l, h => by
    have a := sum_le7 (l := l) fun y hy => h y (List.mem_cons_of_mem _ hy)
    have b := h x List.mem_cons_self
    rw [List.sum_cons, List.length_cons]
    omega
theorem sum_mul (k : Int) : ∀ l : List Int, (l.map (· * k)).sum = l.sum * k
  | [] => by simp
  | x :: l => by
    rw [List.map_cons, List.sum_cons, List.sum_cons, sum_mul k l, Int.add_mul]
theorem zip_fst {ws : List Int} {ts : List T} (h : ws.length = ts.length) : (ws.zip ts).map (·.1) = ws := List.map_fst_zip (by omega)
section
variable {ws : List Int} {ts : List T} {R C most : Nat}
theorem DrawnOk.s (d : DrawnOk ws ts R C most) : 1 ≤ ws.sum ∧ ws.sum ≤ 42 := by
  have a := sum_le7 d.w
  have b := d.l1
  have c := d.l6
  omega
theorem DrawnOk.zlen (d : DrawnOk ws ts R C most) : (ws.zip ts).length = ws.length := by
  have := d.len
  rw [List.length_zip]; omega
theorem DrawnOk.mix (d : DrawnOk ws ts R C most) (hm : most ≤ 2) : MixOk ws.sum (ws.zip ts) R C most := by
  have s := d.s
  have z := d.zlen
  refine ⟨by have := d.l1; omega, by have := d.l6; omega, fun e he => ?_, by rw [zip_fst d.len], by omega, by omega, hm⟩
  obtain ⟨x, t⟩ := e
  obtain ⟨hx, ht⟩ := List.of_mem_zip he
  have := d.w x hx
  exact ⟨by show 0 < x; omega, d.t t ht⟩
theorem zip_mul (k : Int) : ∀ (ws : List Int) (ts : List T), (ws.map (· * k)).zip ts = (ws.zip ts).map fun p => (p.1 * k, p.2)
  | [], _ => rfl
  | _ :: _, [] => rfl
  | x :: ws, t :: ts => by
    show (x * k, t) :: (ws.map (· * k)).zip ts = (x * k, t) :: (ws.zip ts).map fun p => (p.1 * k, p.2)
    rw [zip_mul k ws ts]
end
section
variable {ws1 ws2 : List Int} {ts1 ts2 : List T} {R C most : Nat}
/-- weights times the other sum -/
def joinW (ws1 ws2 : List Int) : List Int := ws1.map (· * ws2.sum) ++ ws2.map (· * ws1.sum)
theorem join_sum : (joinW ws1 ws2).sum = ws1.sum * ws2.sum + ws2.sum * ws1.sum := by
  unfold joinW
  rw [List.sum_append, sum_mul, sum_mul]
theorem join_sum_le (d1 : DrawnOk ws1 ts1 R C most) (d2 : DrawnOk ws2 ts2 R C most) : 0 < (joinW ws1 ws2).sum ∧ (joinW ws1 ws2).sum ≤ 3999 := by
  obtain ⟨a, b⟩ := d1.s
  obtain ⟨c, d⟩ := d2.s
  rw [join_sum, Int.mul_comm ws2.sum]
  have h1 := Int.mul_le_mul b d (by omega : 0 ≤ ws2.sum) (by omega : (0 : Int) ≤ 42)
  have h2 := Int.mul_pos (by omega : 0 < ws1.sum) (by omega : 0 < ws2.sum)
  omega
theorem join_zip (d1 : DrawnOk ws1 ts1 R C most) : (joinW ws1 ws2).zip (ts1 ++ ts2) = ((ws1.zip ts1).map fun p => (p.1 * ws2.sum, p.2)) ++ ((ws2.zip ts2).map fun p => (p.1 * ws1.sum, p.2)) := by
  unfold joinW
  rw [List.zip_append (by rw [List.length_map]; exact d1.len), zip_mul, zip_mul]
theorem join_pos (d1 : DrawnOk ws1 ts1 R C most) (d2 : DrawnOk ws2 ts2 R C most) : ∀ x ∈ joinW ws1 ws2, 0 < x := by
  intro x hx
  have a := d1.s
  have b := d2.s
  rcases List.mem_append.mp hx with hx | hx
  · obtain ⟨y, hy, rfl⟩ := List.mem_map.mp hx
    have := d1.w y hy
    exact Int.mul_pos (by omega) (by omega)
  · obtain ⟨y, hy, rfl⟩ := List.mem_map.mp hx
    have := d2.w y hy
    exact Int.mul_pos (by omega) (by omega)
theorem join_len (d1 : DrawnOk ws1 ts1 R C most) (d2 : DrawnOk ws2 ts2 R C most) : (joinW ws1 ws2).length = (ts1 ++ ts2).length ∧ 0 < (joinW ws1 ws2).length ∧ (joinW ws1 ws2).length ≤ 12 := by
  have a := d1.len
  have b := d2.len
  have c := d1.l1
  have d := d1.l6
  have e := d2.l6
  unfold joinW
  rw [List.length_append, List.length_append, List.length_map, List.length_map]
  omega
theorem join_mix (d1 : DrawnOk ws1 ts1 R C most) (d2 : DrawnOk ws2 ts2 R C most) (hm : most ≤ 2) : MixOk (joinW ws1 ws2).sum ((joinW ws1 ws2).zip (ts1 ++ ts2)) R C most := by
  obtain ⟨l1, l2, l3⟩ := join_len d1 d2
  obtain ⟨s1, s2⟩ := join_sum_le d1 d2
  have zl : ((joinW ws1 ws2).zip (ts1 ++ ts2)).length = (joinW ws1 ws2).length := by rw [List.length_zip]; omega
  refine ⟨by omega, by omega, fun e he => ?_, by rw [zip_fst l1], s1, by omega, hm⟩
  obtain ⟨x, t⟩ := e
  obtain ⟨hx, ht⟩ := List.of_mem_zip he
  refine ⟨join_pos d1 d2 x hx, ?_⟩
  rcases List.mem_append.mp ht with ht | ht
  · exact d1.t t ht
  · exact d2.t t ht
theorem join_rat (gr : List (List Int)) (d1 : DrawnOk ws1 ts1 R C most) (c : Cell) : rat gr ((joinW ws1 ws2).zip (ts1 ++ ts2)) c = rat gr (ws1.zip ts1) c * ws2.sum + rat gr (ws2.zip ts2) c * ws1.sum := by
  show wsum _ _ = wsum _ _ * _ + wsum _ _ * _
  rw [join_zip d1, wsum_append, wsum_mul, wsum_mul]
end
/-- what the least chance of a mix is: a weight within the sum, a cell -/
theorem best_mix {gr : List (List Int)} {ps : List (Int × T)} {S : Int} {R C most : Nat} (ok : GOk gr R C) (m : MixOk S ps R C most) : ∃ (x : Int) (c : Cell), best (rat gr ps) (cells R C) = some (x, c) ∧ 0 ≤ x ∧ x ≤ S ∧ c.1 < R ∧ c.2 < C := by
  obtain ⟨x, c, e, h1, h2, hx, _⟩ := best_some (rat gr ps) (R := R) (C := C) (by have := ok.r0; omega) (by have := ok.c0; omega)
  have nn : ∀ d ∈ ps, 0 ≤ d.1 := fun d hd => Int.le_of_lt (m.each d hd).1
  refine ⟨x, c, e, ?_, ?_, h1, h2⟩
  · rw [hx]; exact wsum_nonneg _ ps nn
  · rw [hx]
    have z := wsum_le (fun t => decide (t.go c.1 c.2 = gat gr c)) ps nn
    rw [m.sum] at z
    exact z
theorem few_red {x S : Int} (h0 : 0 ≤ x) (h1 : x ≤ S) (h2 : 0 < S) (h3 : S ≤ 5000) : Few (red x S) := by
  obtain ⟨a, b, c, d⟩ := red_ok h0 (by omega) h2 h3
  exact ⟨a, by omega, by omega, by omega⟩
theorem few_cell {c : Cell} {gr : List (List Int)} {R C : Nat} (ok : GOk gr R C) (h1 : c.1 < R) (h2 : c.2 < C) : Few ((c.1 : Int), (c.2 : Int)) := by
  have := ok.r4
  have := ok.c4
  exact ⟨by show (0 : Int) ≤ (c.1 : Int); omega, by show (c.1 : Int) ≤ 100000; omega, by show (0 : Int) ≤ (c.2 : Int); omega, by show (c.2 : Int) ≤ 100000; omega⟩
end K76
set_option Elab.async false
set_option linter.all false
set_option maxRecDepth 100000
set_option maxHeartbeats 8000000
namespace K76
open PySem PySem.Spec PyProof.Rows L2
section
variable {P : Program} {w : World} {K : PySem.W.Frag} {mg : Str → Option Value} {base : Heap}
/-! ### _law_right -/
abbrev s_right : Stmt := top 56
def spRight : Sp := fun vs H Q _ => ∃ (st cs ls : Addr) (n : Int), vs = [.ref st] ∧ St0 H st cs ls n ∧ n ≤ 800000 ∧ ∀ (m : Int) (H' : Hp), St0 H' st cs ls m → m ≤ n + 10000 → Q (.bl true) H'
abbrev nRight : List Str := ["_law_state", "_law_told_grid", "_law_most", "_law_first", "_law_near", "_law_second", "_law_far", "_law_one", "_law_two", "_law_got", "_law_due", "_law_joined", "_law_third", "_law_lone", "_law_weight"]
theorem sc_right : FnScope nRight ["_law_state"] (defScope s_right) := ⟨rfl, rfl, rfl, by decide +kernel, rfl, by decide +kernel, by decide +kernel⟩
/-- what _law_right calls -/
structure Rt (P : Program) (w : World) (K : PySem.W.Frag) (mg : Str → Option Value) (base : Heap) : Prop where
  cG : Cal P w K mg base "_law_grid" 3 ["_law_state", "_law_high", "_law_wide", "_law_kinds"] (spLGrid K)
  cD : Cal P w K mg base "_law_draw" 2 ["_law_state", "_law_limit"] spDraw
  cR : Cal P w K mg base "_law_drawn" 6 ["_law_state", "_law_told_grid", "_law_most"] (spDrawn K)
  cE : Cal P w K mg base "_law_least" 2 ["_law_told_grid", "_law_weights_so", "_law_some"] (spLLeast K)
  cC : Cal P w K mg base "least_chance" 8 ["grid", "bits", "mix"] (spLeast K)
  cM : Cal P w K mg base "_law_mix" 3 ["_law_weights_so", "_law_some"] (spLMix K)
  cS : Cal P w K mg base "_law_share" 2 ["_law_above", "_law_below"] spShare
  cL : CalG P w K mg base "_law_like" 1 ["_law_got", "_law_due"] (spLike K)
theorem sum_of {X : Cx} {mgs : X.mg "sum" = none} (hc : X.calm = true) {y : Str} {p p2 pos : Pos} {ty : TE} (hg : Gl X "sum") (hy : PE X (.Name y p2) ty) (hs : starEach [.Name y p2] X.env = (false, eval (.Name y p2) X.env) :: starEach [] X.env := by rfl) (hpl : (backTo pos (starEach [] X.env)).any (·.1) = false := by rfl) :
    PE X (.Call (.Name "sum" p) [.Name y p2] [] pos) (tCB (rSum X.K) (tCons ty tNil)) :=
  pe_callB (p := p) (pos := pos) (cr_sum hc) hg mgs (by decide +kernel) (pa_cons hy pa_nil hs) (by decide) (by decide) hs hpl
/-- the slots written out -/
theorem reS {t : TS} {D : Ends} {σ σ' : L2.St} {H : Hp} (e : σ = σ') (h : t D σ' H) : t D σ H := by rw [e]; exact h
theorem ok_right (T' : Txt K mg) (D : Df K mg "_law_right" s_right) (R' : Rt P w K mg base) : CalG P w K mg base "_law_right" 9 ["_law_state"] spRight := by
  refine calG_mk D sc_right (fun vs H Q E h => ?_) (fun _ _ _ _ _ _ us hl => match us, hl with | [_], _ => rfl) (fun f cdv A outer s H vs Q E free hr h => ?_)
  · obtain ⟨_, _, _, _, rfl, _⟩ := h
    rfl
  obtain ⟨st, cs, ls, n, rfl, S, n1, q⟩ := h
  obtain ⟨cG, cD, cR, cE, cC, cM, cS, cL⟩ := R'
  have hu65 : (A.deeper (envOfC "_law_right" (defScope s_right) s.heap.objs.size f cdv)).units + 65 < cLine := by have := hr.un; omega
  refine ⟨_, pss_cons (ps_par (i := 1) (j := 2) rfl sc_right.nd rfl rfl (by decide) rfl rfl (pa_cons (pe_cal cG hr (by decide) (by rfl) (pa_cons (pv 0) (pa_cons pe_int (pa_cons pe_int (pa_cons pe_int pa_nil))))) (pa_cons (pe_cal cD hr (by decide) (by rfl) (pa_cons (pv 0) (pa_cons pe_int pa_nil))) pa_nil)) (by rfl))
    (pss_cons (ps_asg (pe_cal cR hr (by decide) (by rfl) (pa_cons (pv 0) (pa_cons (pv 1) (pa_cons (pv 2) pa_nil)))) (pg_tup rfl (pgs_cons (pg_name (i := 3) sc_right.nd rfl (Or.inr rfl)) (pgs_cons (pg_name (i := 4) sc_right.nd rfl (Or.inl rfl)) pgs_nil))))
    (pss_cons (ps_asg (pe_cal cR hr (by decide) (by rfl) (pa_cons (pv 0) (pa_cons (pv 1) (pa_cons (pv 2) pa_nil)))) (pg_tup rfl (pgs_cons (pg_name (i := 5) sc_right.nd rfl (Or.inr rfl)) (pgs_cons (pg_name (i := 6) sc_right.nd rfl (Or.inl rfl)) pgs_nil))))
    (pss_cons (ps_par (i := 7) (j := 8) rfl sc_right.nd rfl rfl (by decide) rfl rfl (pa_cons (pe_cal cE hr (by decide) (by rfl) (pa_cons (pv 1) (pa_cons (pv 3) (pa_cons (pv 4) pa_nil)))) (pa_cons (pe_cal cE hr (by decide) (by rfl) (pa_cons (pv 1) (pa_cons (pv 5) (pa_cons (pv 6) pa_nil)))) pa_nil)) (by rfl))
    (pss_cons (ps_set (i := 9) sc_right.nd rfl (.inl rfl) (pe_lst (pa_cons (pe_cal cC hr (by decide) (by rfl) (pa_cons (pv 1) (pa_cons (pv 2) (pa_cons (pe_cal cM hr (by decide) (by rfl) (pa_cons (pv 3) (pa_cons (pv 4) pa_nil))) pa_nil))))
        (pa_cons (pe_cal cC hr (by decide) (by rfl) (pa_cons (pv 1) (pa_cons (pv 2) (pa_cons (pe_cal cM hr (by decide) (by rfl) (pa_cons (pv 5) (pa_cons (pv 6) pa_nil))) pa_nil)))) pa_nil))))
    (pss_cons (ps_set (i := 10) sc_right.nd rfl (.inl rfl) (pe_lst (pa_cons (pe_tup (pa_cons (pe_cal cS hr (by decide) (by rfl) (pa_cons (px 7) (pa_cons (sum_of (mgs := T'.sum) rfl (by rfl) (pv 3)) pa_nil))) (pa_cons (px 7) pa_nil)))
        (pa_cons (pe_tup (pa_cons (pe_cal cS hr (by decide) (by rfl) (pa_cons (px 8) (pa_cons (sum_of (mgs := T'.sum) rfl (by rfl) (pv 5)) pa_nil))) (pa_cons (px 8) pa_nil))) pa_nil))))
    (pss_cons (ps_if (pt_not (pt_val (pe_calG cL free hr (by decide) (by rfl) (pa_cons (pv 9) (pa_cons (pv 10) pa_nil))))) (pss_one (ps_ret pe_bl)) pss_nil)
    (pss_cons (ps_set (i := 11) sc_right.nd rfl (.inl rfl) (pe_op op_cat
        (pe_lc (own := [("_law_weight", 14)]) (g := gName 14) (tt := tYes) (te := tOp (rI CMul fun i j => .int (i * j)) (tVar 14) (tCB (rSum K) (tCons (tVar 5) tNil)))
          rfl sc_right.nd (pi_list (pv 3)) (blkOk_by (own := [("_law_weight", 14)]) (N := nRight) (sc := defScope s_right) (by decide +kernel)) (fun _ _ _ _ _ => pg_name (i := 14) sc_right.nd rfl (Or.inl rfl)) (fun _ _ _ _ _ => pts_nil)
          (fun _ _ _ _ _ => pe_op op_mul (pv 14) (sum_of (mgs := T'.sum) rfl (by rfl) (pv 5))))
        (pe_lc (own := [("_law_weight", 14)]) (g := gName 14) (tt := tYes) (te := tOp (rI CMul fun i j => .int (i * j)) (tVar 14) (tCB (rSum K) (tCons (tVar 3) tNil)))
          rfl sc_right.nd (pi_list (pv 5)) (blkOk_by (own := [("_law_weight", 14)]) (N := nRight) (sc := defScope s_right) (by decide +kernel)) (fun _ _ _ _ _ => pg_name (i := 14) sc_right.nd rfl (Or.inl rfl)) (fun _ _ _ _ _ => pts_nil)
          (fun _ _ _ _ _ => pe_op op_mul (pv 14) (sum_of (mgs := T'.sum) rfl (by rfl) (pv 3))))))
    (pss_cons (ps_set (i := 12) sc_right.nd rfl (.inl rfl) (pe_cal cE hr (by decide) (by rfl) (pa_cons (pv 1) (pa_cons (pv 11) (pa_cons (pe_op op_cat (pv 4) (pv 6)) pa_nil)))))
    (pss_cons (ps_set (i := 9) sc_right.nd rfl (.inl rfl) (pe_cal cC hr (by decide) (by rfl) (pa_cons (pv 1) (pa_cons (pv 2) (pa_cons (pe_cal cM hr (by decide) (by rfl) (pa_cons (pv 11) (pa_cons (pe_op op_cat (pv 4) (pv 6)) pa_nil))) pa_nil)))))
    (pss_cons (ps_if (pt_not (pt_val (pe_calG cL free hr (by decide) (by rfl) (pa_cons (pv 9) (pa_cons (pe_tup (pa_cons (pe_cal cS hr (by decide) (by rfl) (pa_cons (px 12) (pa_cons (sum_of (mgs := T'.sum) rfl (by rfl) (pv 11)) pa_nil))) (pa_cons (px 12) pa_nil))) pa_nil))))) (pss_one (ps_ret pe_bl)) pss_nil)
    (pss_cons (ps_if (pt_cmpR op_lt (px 12) (pe_op op_add (pe_op op_mul (px 7) (sum_of (mgs := T'.sum) rfl (by rfl) (pv 5))) (pe_op op_mul (px 8) (sum_of (mgs := T'.sum) rfl (by rfl) (pv 3)))) (nomark _)) (pss_one (ps_ret pe_bl)) pss_nil)
    (pss_cons (ps_set (i := 13) sc_right.nd rfl (.inl rfl) (pe_cal cC hr (by decide) (by rfl) (pa_cons (pv 1) (pa_cons (pv 2) (pa_cons (pe_tup (pa_cons (pe_tup (pa_cons (pe_tup (pa_cons pe_int (pa_cons pe_int pa_nil))) (pa_cons (pe_ix ix_list (pv 4) pe_int (fun _ _ => rfl)) pa_nil))) pa_nil)) pa_nil)))))
    (pss_one (ps_ret (pe_and (pe_cmpR (op_inT hu65) (px 13) (pe_tup (pa_cons (pe_tup (pa_cons pe_int (pa_cons pe_int pa_nil))) (pa_cons (pe_tup (pa_cons pe_int (pa_cons pe_int pa_nil))) pa_nil))) (by rfl))
      (pe_one (pe_calG cL free hr (by decide) (by rfl) (pa_cons (px 13) (pa_cons (pe_ix ix_tup (pe_cal cE hr (by decide) (by rfl) (pa_cons (pv 1) (pa_cons (pe_lst (pa_cons pe_int pa_nil)) (pa_cons (pe_slice sl_list (pv 4) po_none (po_some pe_int)) pa_nil)))) pe_int (fun _ _ => rfl)) pa_nil))))))))))))))))))), ?_⟩
  -- the grid, the bits
  refine ⟨_, rfl, st, cs, ls, n, rfl, S, by omega, fun gr R C gv m1 H1 ok hG1 S1 hm1 k1 => ⟨_, rfl, st, cs, ls, m1, 3, rfl, S1, by decide, by decide, by omega, fun b H2 b0 b3 S2 k2 => ⟨_, _, rfl, ?_⟩⟩⟩
  obtain ⟨most, rfl⟩ : ∃ most : Nat, b = (most : Int) := ⟨b.toNat, by omega⟩
  have hm : most ≤ 2 := by omega
  have hG2 := hG1.tk (k2.tk S1)
  clear hG1 k1 k2 S1
  -- both drawn mixes
  refine ⟨_, rfl, _, rfl, _, rfl, st, cs, ls, m1 + 1, gv, gr, R, C, most, rfl, hG2, ok, hm, S2, by omega, fun p1 pw1 ps1 ws1 us1 ts1 m3 H3 hp1 hw1 hs1 fw1 fs1 hA1 d1 S3 hm3 k3 => ⟨p1, _, rfl, hp1, rfl, _, _, rfl, _, _, rfl, rfl, ?_⟩⟩
  have hG3 := hG2.tk (k3.tk S2)
  refine ⟨_, rfl, _, rfl, _, rfl, st, cs, ls, m3, gv, gr, R, C, most, rfl, hG3, ok, hm, S3, by omega, fun p2 pw2 ps2 ws2 us2 ts2 m4 H4 hp2 hw2 hs2 fw2 fs2 hA2 d2 S4 hm4 k4 => ⟨p2, _, rfl, hp2, rfl, _, _, rfl, _, _, rfl, rfl, ?_⟩⟩
  have hG := hG3.tk (k4.tk S3)
  have hw1' : H4 pw1 = some (.lst (ws1.map V.int)) := k4 _ _ (S2.apart fw1).1 (S2.apart fw1).2.1 hw1
  have hs1' : H4 ps1 = some (.lst us1) := k4 _ _ (S2.apart fs1).1 (S2.apart fs1).2.1 hs1
  have hA1' : All2 (TAt K H4) us1 ts1 := hA1.mono fun _ _ z => z.tk (k4.tk S3)
  have hm5 : m4 ≤ n + 5000 := by omega
  clear hG2 hG3 k3 k4 S2 S3 hw1 hs1 hA1 hp1 hp2 fw1 fs1 fw2 fs2
  have dep1 : ∀ t ∈ ts1, t.dep ≤ 3 := fun t ht => by have := (d1.t t ht).2; omega
  have dep2 : ∀ t ∈ ts2, t.dep ≤ 3 := fun t ht => by have := (d2.t t ht).2; omega
  obtain ⟨x1, c1, eb1, x10, x1S, c1R, c1C⟩ := best_mix (gr := gr) ok (d1.mix hm)
  obtain ⟨x2, c2, eb2, x20, x2S, c2R, c2C⟩ := best_mix (gr := gr) ok (d2.mix hm)
  obtain ⟨s11, s12⟩ := d1.s
  obtain ⟨s21, s22⟩ := d2.s
  have n1s := d1.l1
  have n1l := d1.l6
  have n2s := d2.l1
  have n2l := d2.l6
  have pos1 : ∀ x ∈ ws1, 0 < x := fun x hx => by have := d1.w x hx; omega
  have pos2 : ∀ x ∈ ws2, 0 < x := fun x hx => by have := d2.w x hx; omega
  -- by the law's own walks
  refine ⟨_, rfl, _, rfl, _, rfl, gv, pw1, ps1, gr, R, C, ws1, us1, ts1, rfl, hG, ok, SqL.of hw1', SqL.of hs1', hA1', d1.len, dep1, fun v1 H5 e5 hb1 => ?_⟩
  rw [eb1] at hb1
  obtain ⟨q1, r1, rfl, h11, h12⟩ := hb1
  refine ⟨_, rfl, _, rfl, _, rfl, gv, pw2, ps2, gr, R, C, ws2, us2, ts2, rfl, hG.tk e5.tk, ok, SqL.of (e5 _ _ hw2), SqL.of (e5 _ _ hs2), hA2.mono fun _ _ z => z.tk e5.tk, d2.len, dep2, fun v2 H6 e6 hb2 => ⟨_, _, rfl, ?_⟩⟩
  rw [eb2] at hb2
  obtain ⟨q2, r2, rfl, h21, h22⟩ := hb2
  have t11 := e6.sqt h11
  have t12 := e6.sqt h12
  have eA := e5.trans e6
  clear h11 h12 e5 e6
  -- by the program
  refine ⟨_, rfl, _, rfl, _, rfl, _, rfl, pw1, ps1, ws1, us1, ts1, rfl, SqL.of (eA _ _ hw1'), SqL.of (eA _ _ hs1'), hA1'.mono fun _ _ z => z.tk eA.tk, d1.len, by omega, by omega, pos1, by omega, fun mv1 H7 e7 hM1 => ?_⟩
  have eB := eA.trans e7
  refine ⟨gv, mv1, gr, R, C, most, ws1.sum, _, rfl, hG.tk eB.tk, ok, hM1, d1.mix hm, fun g1 H8 e8 hF1 => ?_⟩
  rw [eb1] at hF1
  obtain ⟨a1, b1, f1, rfl, f11, f12, f13⟩ := hF1
  have eC := eB.trans e8
  refine ⟨_, rfl, _, rfl, _, rfl, _, rfl, pw2, ps2, ws2, us2, ts2, rfl, SqL.of (eC _ _ hw2), SqL.of (eC _ _ hs2), hA2.mono fun _ _ z => z.tk eC.tk, d2.len, by omega, by omega, pos2, by omega, fun mv2 H9 e9 hM2 => ?_⟩
  have eD := eC.trans e9
  refine ⟨gv, mv2, gr, R, C, most, ws2.sum, _, rfl, hG.tk eD.tk, ok, hM2, d2.mix hm, fun g2 H10 e10 hF2 => ⟨two_line _ _, fun L1 nL1 => ?_⟩⟩
  rw [eb2] at hF2
  obtain ⟨a2, b2, f2, rfl, f21, f22, f23⟩ := hF2
  have eL1 := same_new nL1 (.lst [.ref a1, .ref a2])
  have e8L := e9.trans (e10.trans eL1)
  have eE : Same H4 (upd H10 L1 (.lst [.ref a1, .ref a2])) := eD.trans (e10.trans eL1)
  have eE6 : Same H6 (upd H10 L1 (.lst [.ref a1, .ref a2])) := e7.trans (e8.trans e8L)
  have hL1 : upd H10 L1 (.lst [.ref a1, .ref a2]) L1 = some (.lst [.ref a1, .ref a2]) := upd_same
  have p11 := e8L.sqt f11
  have p12 := f12.same e8L
  have p13 := e8L.sqt f13
  have p21 := eL1.sqt f21
  have p22 := f22.same eL1
  have p23 := eL1.sqt f23
  have o11 := eE6.sqt t11
  have o12 := eE6.sqt t12
  have o21 := eE6.sqt h21
  have o22 := eE6.sqt h22
  clear eA eB eC eD e7 e8 e9 e10 eL1 e8L eE6 f11 f12 f13 f21 f22 f23 t11 t12 h21 h22 hM1 hM2
  generalize upd H10 L1 (.lst [.ref a1, .ref a2]) = Ha at *
  -- what is due
  refine rx rfl o11 rfl ⟨_, rfl, pw1, ws1, rfl, SqL.of (eE _ _ hw1'), x1, ws1.sum, rfl, x10, by omega, by omega, fun s1 Hb eb hs1 => rx rfl (eb.sqt o11) rfl ⟨two_line _ _, fun t1 nt1 => ?_⟩⟩
  have ec := eb.trans (same_new nt1 (.tup [.ref s1, .ref r1]))
  refine rx rfl (ec.sqt o21) rfl ⟨_, rfl, pw2, ws2, rfl, SqL.of ((eE.trans ec) _ _ hw2), x2, ws2.sum, rfl, x20, by omega, by omega, fun s2 Hc ed hs2 => rx rfl ((ec.trans ed).sqt o21) rfl ⟨two_line _ _, fun t2 nt2 => ⟨two_line _ _, fun L2 nL2 => ?_⟩⟩⟩
  have ee := same_new nt2 (.tup [.ref s2, .ref r2])
  have ef := same_new nL2 (.lst [.ref t1, .ref t2])
  have eg := (ec.trans ed).trans (ee.trans ef)
  have hL2 : upd (upd Hc t2 (.tup [.ref s2, .ref r2])) L2 (.lst [.ref t1, .ref t2]) L2 = some (.lst [.ref t1, .ref t2]) := upd_same
  have z1 : SqT K (upd (upd Hc t2 (.tup [.ref s2, .ref r2])) L2 (.lst [.ref t1, .ref t2])) t1 [.ref s1, .ref r1] := ((ed.trans ee).trans ef).sqt sqt_new
  have z2 : SqT K (upd (upd Hc t2 (.tup [.ref s2, .ref r2])) L2 (.lst [.ref t1, .ref t2])) t2 [.ref s2, .ref r2] := ef.sqt sqt_new
  have z3 : SqT K (upd (upd Hc t2 (.tup [.ref s2, .ref r2])) L2 (.lst [.ref t1, .ref t2])) s1 [.int (red x1 ws1.sum).1, .int (red x1 ws1.sum).2] := ((same_new nt1 _).trans ((ed.trans ee).trans ef)).sqt (.inl (.inl hs1))
  have z4 : SqT K (upd (upd Hc t2 (.tup [.ref s2, .ref r2])) L2 (.lst [.ref t1, .ref t2])) s2 [.int (red x2 ws2.sum).1, .int (red x2 ws2.sum).2] := (ee.trans ef).sqt (.inl (.inl hs2))
  have eH := eE.trans eg
  have dp1 : Dp K (upd (upd Hc t2 (.tup [.ref s2, .ref r2])) L2 (.lst [.ref t1, .ref t2])) (.ref L1) (.list [dR (red x1 ws1.sum) (c1.1, c1.2), dR (red x2 ws2.sum) (c2.1, c2.2)]) :=
    .lst (SqL.of (eg _ _ hL1)) (.cons (dp_R (eg.sqt p11) (dp_fr (p12.same eg)) (dp_F (eg.sqt p13))) (.cons (dp_R (eg.sqt p21) (dp_fr (p22.same eg)) (dp_F (eg.sqt p23))) .nil))
  have dp2 : Dp K (upd (upd Hc t2 (.tup [.ref s2, .ref r2])) L2 (.lst [.ref t1, .ref t2])) (.ref L2) (.list [dR (red x1 ws1.sum) (c1.1, c1.2), dR (red x2 ws2.sum) (c2.1, c2.2)]) :=
    .lst (SqL.of hL2) (.cons (dp_R z1 (dp_F z3) (dp_F (eg.sqt o12))) (.cons (dp_R z2 (dp_F z4) (dp_F (eg.sqt o22))) .nil))
  have u11 := eg.sqt o11
  have u21 := eg.sqt o21
  have sh := show_L (show_R (few_red x10 x1S (by omega) (by omega)) (few_cell ok c1R c1C)) (show_R (few_red x20 x2S (by omega) (by omega)) (few_cell ok c2R c2C)) (depth_R _ _) (depth_R _ _)
  refine ⟨_, rfl, _, rfl, L1, L2, _, 300, rfl, dp1, dp2, sh, by decide, ⟨_, rfl, itF rfl ?_⟩⟩
  clear dp1 dp2 z1 z2 z3 z4 hL1 hL2 eE ec ed ee ef eg eb p11 p12 p13 p21 p22 p23 o11 o12 o21 o22 hs1 hs2 nt1 nt2 nL2 nL1
  generalize upd (upd Hc t2 (.tup [.ref s2, .ref r2])) L2 (.lst [.ref t1, .ref t2]) = Hd at *
  refine reS (σ' := [some (.ref st), some gv, some (.int most), some (.ref pw1), some (.ref ps1), some (.ref pw2), some (.ref ps2), some (.ref q1), some (.ref q2), some (.ref L1), some (.ref L2), none, none, none, none]) rfl ?_
  have jl := join_len d1 d2
  have js := join_sum_le d1 d2
  have jm := join_mix d1 d2 hm
  have jp := join_pos d1 d2
  have W1 : Hd pw1 = some (.lst (ws1.map V.int)) := eH _ _ hw1'
  have W2 : Hd pw2 = some (.lst (ws2.map V.int)) := eH _ _ hw2
  have N1 : Hd ps1 = some (.lst us1) := eH _ _ hs1'
  have N2 : Hd ps2 = some (.lst us2) := eH _ _ hs2
  have A1 := hA1'.mono fun _ _ z => z.tk (eH.tk (K := K))
  have A2 := hA2.mono fun _ _ z => z.tk (eH.tk (K := K))
  have G := hG.tk eH.tk
  have SS := S4.same eH
  clear hw1' hw2 hs1' hs2 hA1' hA2 hG S4 eH sh
  -- both by halves
  refine ⟨_, rfl, pw1, rfl, ⟨_, SqL.of W1⟩, fun D1 hD1 => lc_it (walk_list (K := K) (a := pw1) (xs := ws1.map V.int)) (fun i H' => Same Hd H' ∧ H' D1 = some (.lst (((ws1.take i).map (· * ws2.sum)).map V.int))) ⟨same_new hD1 _, upd_same⟩ (fun i H' _ e => e.1.seq (SqL.of W1)) ?_ ?_⟩
  · rintro i v Hx Hy hi ⟨e, hD⟩ ⟨rfl, hx⟩
    obtain ⟨x, hx', rfl⟩ := get_int hx
    have wx := d1.w x (List.mem_of_getElem? hx')
    refine ⟨rfl, _, rfl, _, rfl, pw2, ws2, rfl, SqL.of (e _ _ W2), _, _, rfl, rfl, .inl ⟨by omega, by omega⟩, _, hD, ?_, same_upd e hD1, ?_⟩
    · rw [List.length_map, List.length_map, List.length_take]
      exact Nat.lt_of_le_of_lt (by omega : min i ws1.length ≤ 6) (by decide)
    · rw [upd_same, take_snoc hx', List.map_append, List.map_append]
      rfl
  rintro H1' ⟨e1, hD1'⟩
  rw [List.length_map, List.take_length] at hD1'
  refine ⟨_, rfl, pw2, rfl, ⟨_, SqL.of (e1 _ _ W2)⟩, fun D2 hD2 => lc_it (walk_list (K := K) (a := pw2) (xs := ws2.map V.int)) (fun i H' => Same H1' H' ∧ H' D2 = some (.lst (((ws2.take i).map (· * ws1.sum)).map V.int))) ⟨same_new hD2 _, upd_same⟩ (fun i H' _ e => e.1.seq (SqL.of (e1 _ _ W2))) ?_ ?_⟩
  · rintro i v Hx Hy hi ⟨e, hD⟩ ⟨rfl, hx⟩
    obtain ⟨x, hx', rfl⟩ := get_int hx
    have wx := d2.w x (List.mem_of_getElem? hx')
    refine ⟨rfl, _, rfl, _, rfl, pw1, ws1, rfl, SqL.of ((e1.trans e) _ _ W1), _, _, rfl, rfl, .inl ⟨by omega, by omega⟩, _, hD, ?_, same_upd e hD2, ?_⟩
    · rw [List.length_map, List.length_map, List.length_take]
      exact Nat.lt_of_le_of_lt (by omega : min i ws2.length ≤ 6) (by decide)
    · rw [upd_same, take_snoc hx', List.map_append, List.map_append]
      rfl
  rintro H2' ⟨e2, hD2'⟩
  rw [List.length_map, List.take_length] at hD2'
  refine ⟨D1, D2, _, _, rfl, rfl, e2 _ _ hD1', hD2', ?_, fun J hJ => ?_⟩
  · simp only [List.length_map]
    exact small (by omega)
  have eJ : Same Hd (upd H2' J (.lst ((ws1.map (· * ws2.sum)).map V.int ++ (ws2.map (· * ws1.sum)).map V.int))) := (e1.trans e2).trans (same_new hJ _)
  have hJ' : upd H2' J (.lst ((ws1.map (· * ws2.sum)).map V.int ++ (ws2.map (· * ws1.sum)).map V.int)) J = some (.lst ((joinW ws1 ws2).map V.int)) := by
    rw [upd_same]
    unfold joinW
    rw [List.map_append]
  clear hD1 hD2 hD1' hD2' e1 e2
  generalize upd H2' J (.lst ((ws1.map (· * ws2.sum)).map V.int ++ (ws2.map (· * ws1.sum)).map V.int)) = He at eJ hJ' ⊢
  obtain ⟨x3, c3, eb3, x30, x3S, c3R, c3C⟩ := best_mix (gr := gr) ok jm
  have nlen : us1.length + us2.length ≤ sizeLine := by
    have := A1.len
    have := A2.len
    have := d1.len
    have := d2.len
    exact small (by omega)
  -- third
  refine ⟨_, rfl, _, rfl, _, rfl, _, rfl, ps1, ps2, us1, us2, rfl, rfl, eJ _ _ N1, eJ _ _ N2, nlen, fun M1 hM1 => ?_⟩
  have eK := eJ.trans (same_new hM1 (.lst (us1 ++ us2)))
  refine ⟨gv, J, M1, gr, R, C, joinW ws1 ws2, us1 ++ us2, ts1 ++ ts2, rfl, G.tk eK.tk, ok, SqL.of ((same_new hM1 _) _ _ hJ'), SqL.of upd_same, (A1.append A2).mono fun _ _ z => z.tk eK.tk, jl.1, fun t ht => (List.mem_append.mp ht).elim (dep1 t) (dep2 t), fun v3 Hf ef hb3 => ?_⟩
  rw [eb3] at hb3
  obtain ⟨q3, r3, rfl, h31, h32⟩ := hb3
  have eF := eK.trans ef
  have hJf := ((same_new hM1 (.lst (us1 ++ us2))).trans ef) _ _ hJ'
  clear hJ' eJ eK ef hM1
  -- got
  refine ⟨_, rfl, _, rfl, _, rfl, _, rfl, _, rfl, ps1, ps2, us1, us2, rfl, rfl, eF _ _ N1, eF _ _ N2, nlen, fun M2 hM2 => ?_⟩
  have e3 := same_new hM2 (.lst (us1 ++ us2))
  refine ⟨J, M2, joinW ws1 ws2, us1 ++ us2, ts1 ++ ts2, rfl, SqL.of (e3 _ _ hJf), SqL.of upd_same, (A1.append A2).mono fun _ _ z => z.tk (eF.trans e3).tk, jl.1, by omega, jl.2.1, jp, js.2, fun mv3 Hg eg hM3 => ?_⟩
  refine ⟨gv, mv3, gr, R, C, most, (joinW ws1 ws2).sum, _, rfl, G.tk (eF.trans (e3.trans eg)).tk, ok, hM3, jm, fun g3 Hh eh hF3 => ?_⟩
  rw [eb3] at hF3
  obtain ⟨a3, b3', f3, rfl, f31, f32, f33⟩ := hF3
  have e4 := e3.trans (eg.trans eh)
  have eG := eF.trans e4
  have hJh := e4 _ _ hJf
  have i31 := e4.sqt h31
  have i32 := e4.sqt h32
  clear hM3 eg e3 e4 eh hJf h31 h32 eF hM2
  refine ⟨_, rfl, rx rfl i31 rfl ⟨_, rfl, J, joinW ws1 ws2, rfl, SqL.of hJh, x3, (joinW ws1 ws2).sum, rfl, x30, js.1, js.2, fun s3 Hi ei hs3 => rx rfl (ei.sqt i31) rfl ⟨two_line _ _, fun t3 nt3 => ?_⟩⟩⟩
  have ek := same_new nt3 (.tup [.ref s3, .ref r3])
  have el := ei.trans ek
  have dp3 : Dp K (upd Hi t3 (.tup [.ref s3, .ref r3])) (.ref a3) (dR (red x3 (joinW ws1 ws2).sum) (c3.1, c3.2)) := dp_R (el.sqt f31) (dp_fr (f32.same el)) (dp_F (el.sqt f33))
  have dp4 : Dp K (upd Hi t3 (.tup [.ref s3, .ref r3])) (.ref t3) (dR (red x3 (joinW ws1 ws2).sum) (c3.1, c3.2)) := dp_R sqt_new (dp_F (f := red x3 (joinW ws1 ws2).sum) (ek.sqt (.inl (.inl hs3)))) (dp_F (el.sqt i32))
  refine ⟨a3, t3, _, 100, rfl, dp3, dp4, show_R (few_red x30 x3S js.1 (by omega)) (few_cell ok c3R c3C), by decide, ⟨_, rfl, itF rfl ?_⟩⟩
  have eM := eG.trans el
  have v31 := el.sqt i31
  clear dp3 dp4 ei ek el i31 i32 f31 f32 f33 hs3 nt3 eG hJh
  generalize upd Hi t3 (.tup [.ref s3, .ref r3]) = Hj at eM v31 ⊢
  refine reS (σ' := [some (.ref st), some gv, some (.int most), some (.ref pw1), some (.ref ps1), some (.ref pw2), some (.ref ps2), some (.ref q1), some (.ref q2), some (.ref a3), some (.ref L2), some (.ref J), some (.ref q3), none, none]) rfl ?_
  have u11' := eM.sqt u11
  have u21' := eM.sqt u21
  -- at least half of both
  have half : ¬ x3 < x1 * ws2.sum + x2 * ws1.sum := by
    have z := best_join (f1 := rat gr (ws1.zip ts1)) (f2 := rat gr (ws2.zip ts2)) (f3 := rat gr ((joinW ws1 ws2).zip (ts1 ++ ts2))) (S1 := ws1.sum) (S2 := ws2.sum) (by omega) (by omega) (join_rat gr d1) (by have := ok.r0; omega) (by have := ok.c0; omega) eb1 eb2 eb3
    omega
  refine rx rfl v31 rfl (rx rfl u11' rfl ⟨_, rfl, pw2, ws2, rfl, SqL.of (eM _ _ W2), _, _, rfl, rfl, .inl ⟨by omega, by omega⟩, rx rfl u21' rfl ⟨_, rfl, pw1, ws1, rfl, SqL.of (eM _ _ W1), _, _, rfl, rfl, .inl ⟨by omega, by omega⟩, _, _, rfl, rfl, _, _, rfl, rfl, _, rfl, itF (decide_eq_false half) ?_⟩⟩)
  refine reS (σ' := [some (.ref st), some gv, some (.int most), some (.ref pw1), some (.ref ps1), some (.ref pw2), some (.ref ps2), some (.ref q1), some (.ref q2), some (.ref a3), some (.ref L2), some (.ref J), some (.ref q3), none, none]) rfl ?_
  clear half v31 u11' u21' u11 u21 eb1 eb2 eb3 jl js jm jp
  -- one speech alone
  obtain ⟨u0, t0, hu0, ht0, hty0⟩ : ∃ u0 t0, us1[0]? = some u0 ∧ ts1[0]? = some t0 ∧ TAt K Hd u0 t0 := by
    have l0 : 0 < us1.length := by
      have := A1.len
      have := d1.len
      omega
    have e0 : us1[0]? = some us1[0] := List.getElem?_eq_getElem l0
    obtain ⟨t0, h1, h2⟩ := A1.get e0
    exact ⟨_, t0, e0, h1, h2⟩
  have ok0 := d1.t t0 (List.mem_of_getElem? ht0)
  have lm : MixOk 1 [((1 : Int), t0)] R C most := by
    refine ⟨by simp, by simp, fun e he => ?_, by simp, by decide, by decide, hm⟩
    have z : e = (1, t0) := by simpa using he
    rw [z]
    exact ⟨(by decide : (0 : Int) < 1), ok0⟩
  obtain ⟨x4, c4, eb4, x40, x41, c4R, c4C⟩ := best_mix (gr := gr) ok lm
  refine ⟨_, rfl, _, rfl, two_line _ _, fun k1 nk1 => ⟨_, rfl, ps1, us1, _, u0, rfl, rfl, SqL.of ((eM.trans (same_new nk1 _)) _ _ N1), at0 hu0, two_line _ _, fun k2 nk2 => ⟨one_line _, fun k3 nk3 => ?_⟩⟩⟩
  have e1 := same_new nk1 (.tup [.int 1, .int 1])
  have e2 := same_new nk2 (.tup [.ref k1, u0])
  have e3 := same_new nk3 (.tup [.ref k2])
  have e4 := eM.trans (e1.trans (e2.trans e3))
  have hM4 : MAt K (upd (upd (upd Hj k1 (.tup [.int 1, .int 1])) k2 (.tup [.ref k1, u0])) k3 (.tup [.ref k2])) 1 (.ref k3) [((1 : Int), t0)] := by
    refine ⟨k3, [.ref k2], rfl, sqt_new, .cons ⟨k2, .ref k1, u0, rfl, e3.sqt sqt_new, ⟨k1, rfl, ?_⟩, hty0.tk e4.tk⟩ .nil⟩
    show SqT K _ k1 [.int (red 1 1).1, .int (red 1 1).2]
    rw [red_one]
    exact e3.sqt (e2.sqt sqt_new)
  refine ⟨gv, .ref k3, gr, R, C, most, 1, [((1 : Int), t0)], rfl, G.tk e4.tk, ok, hM4, lm, fun g4 Hk ek hF4 => ?_⟩
  rw [eb4] at hF4
  obtain ⟨a4, b4, f4, rfl, f41, ⟨pf4, rfl, f42⟩, f43⟩ := hF4
  rw [red_one] at f42
  have eN := e4.trans ek
  clear hM4 e1 e2 e3 e4 ek nk1 nk2 nk3
  -- nought or one
  refine rx rfl f41 rfl ⟨two_line _ _, fun j1 n1 => ⟨two_line _ _, fun j2 n2 => ⟨two_line _ _, fun j3 n3 => ?_⟩⟩⟩
  have e5 := same_new n1 (.tup [.int 0, .int 1])
  have e6 := same_new n2 (.tup [.int 1, .int 1])
  have e7 := same_new n3 (.tup [.ref j1, .ref j2])
  have e8 := e5.trans (e6.trans e7)
  have any_ : ([dF (0, 1), dF (1, 1)].any fun z => PyData.eqv z (dF (x4, 1))) = true := by
    have z : x4 = 0 ∨ x4 = 1 := by omega
    rcases z with z | z
    · rw [z]; decide +kernel
    · rw [z]; decide +kernel
  have shp : SeqAt.shaped (dF (x4, 1)) = true := by simp [SeqAt.shaped, dF, PyData.canLay0, PyData.canLayAll0, PyData.depth, PyData.depthAll]
  refine ⟨dF (x4, 1), [dF (0, 1), dF (1, 1)], dp_F (e8.sqt f42), .tup sqt_new (.cons (dp_F (f := (0, 1)) (e7.sqt (e6.sqt sqt_new))) (.cons (dp_F (f := (1, 1)) (e7.sqt sqt_new)) .nil)), shp, by decide +kernel, _, rfl, itT any_ ?_⟩
  have eO := eN.trans e8
  have g41 := e8.sqt f41
  have g43 := e8.sqt f43
  clear any_ shp e5 e6 e7 e8 n1 n2 n3 f41 f42 f43 eN
  generalize upd (upd (upd Hk j1 (.tup [.int 0, .int 1])) j2 (.tup [.int 1, .int 1])) j3 (.tup [.ref j1, .ref j2]) = Hl at eO g41 g43 ⊢
  -- at the cell that the law's own walk tells
  refine rx rfl g41 rfl ⟨_, rfl, one_line _, fun l1 nl1 => ⟨_, rfl, 1, rfl, ps1, us1, rfl, SqL.of ((eO.trans (same_new nl1 _)) _ _ N1), fun l2 nl2 => ?_⟩⟩
  have e9 := same_new nl1 (.lst [.int 1])
  have e10 := same_new nl2 (.lst (cutV us1 none (some 1)))
  have cut : cutV us1 none (some 1) = [u0] := by
    cases us1 with
    | nil => simp at hu0
    | cons y r =>
      have z : y = u0 := by simpa using hu0
      subst z
      unfold cutV
      rw [show HT.sIx (y :: r).length (y :: r).length (some 1) = min 1 (y :: r).length from HT.sIx_nat _ _ 1, HT.sIx_none]
      rw [show min 1 (y :: r).length = 1 by rw [List.length_cons]; omega]
      rfl
  refine ⟨gv, l1, l2, gr, R, C, [1], [u0], [t0], rfl, G.tk (eO.trans (e9.trans e10)).tk, ok, SqL.of (e10 _ _ upd_same), by rw [← cut]; exact SqL.of upd_same, .cons (hty0.tk (eO.trans (e9.trans e10)).tk) .nil, rfl, fun t ht => ?_, fun v5 Hm em hb5 => ?_⟩
  · have z : t = t0 := by simpa using ht
    rw [z]
    have := ok0.2
    omega
  have eb5 : best (rat gr ([1].zip [t0])) (cells R C) = some (x4, c4) := eb4
  rw [eb5] at hb5
  obtain ⟨q5, r5, rfl, h51, h52⟩ := hb5
  have e11 := e9.trans (e10.trans em)
  exact ⟨q5, _, _, _, rfl, rfl, h51, rfl, b4, r5, dF (c4.1, c4.2), 40, rfl, dp_F (e11.sqt g43), dp_F h52, show_F (few_cell ok c4R c4C), by decide, q m4 _ (SS.same (eO.trans e11)) (by omega)⟩
end
end K76
set_option Elab.async false
set_option linter.all false
set_option maxRecDepth 100000
set_option maxHeartbeats 8000000
namespace K76
open PySem PySem.Spec PyProof.Rows L2
/-! ### least_chance(mix = .., bits = .., grid = ..) -/
def gKw (us ws : List Value) : List Value := match us with | [] => ws.reverse | _ => []
def gKwV (us ws : List V) : List V := match us with | [] => ws.reverse | _ => []
theorem vals_rev : ∀ {vs : List V} {us : List Value}, Vals vs us → Vals vs.reverse us.reverse
  | _, _, .nil => .nil
  | _, _, .cons r t => by
    rw [List.reverse_cons, List.reverse_cons]
    exact (vals_rev t).append (.cons r .nil)
section
variable {P : Program} {w : World} {K : PySem.W.Frag} {mg : Str → Option Value} {base : Heap}
theorem kw_binds {f : Addr} {fd : FuncData} (F : Fun K "least_chance" "least_chance" s_chances f fd) : KBinds K fd ["grid", "bits", "mix"] ["mix", "bits", "grid"] gKw gKwV := by
  obtain ⟨oc, od, kV, doc, pm, an, cdv, ct, osl, rfl, lk, hcd⟩ := F.ex
  refine ⟨fun s us ws hK hl => ?_, fun {vs us zs ws} r rz => ?_⟩
  · match us, ws, hl with
    | [], [m, b, g'], _ => exact .of_eq rfl
    | [], [], hl => exact absurd hl (by show ¬ 0 = 3; decide)
    | [], [_], hl => exact absurd hl (by show ¬ 1 = 3; decide)
    | [], [_, _], hl => exact absurd hl (by show ¬ 2 = 3; decide)
    | [], _ :: _ :: _ :: _ :: _, hl =>
      unfold gKw at hl
      rw [List.length_reverse] at hl
      simp at hl
    | _ :: _, _, hl => exact absurd hl (by show ¬ 0 = 3; decide)
  · cases r with
    | nil => exact vals_rev rz
    | cons _ _ => exact .nil
/-! ### the law -/
abbrev s_law : Stmt := top 57
def spLaw (K : PySem.W.Frag) : Sp := fun vs H Q _ => ∃ (a : Addr) (ns : List Int), vs = [.ref a] ∧ SqL K H a (ns.map V.int) ∧ ns.length ≤ 63 ∧ ∀ H', Q (.bl true) H'
abbrev nLaw : List Str := ["_law_script", "_law_state", "_law_turn", "_law_told_grid", "_law_some"]
theorem sc_law : FnScope nLaw ["_law_script"] (defScope s_law) := ⟨rfl, rfl, rfl, by decide +kernel, rfl, by decide +kernel, by decide +kernel⟩
def hGrid : List (List Int) := [[0, 0], [0, 1]]
def hMix : List (Int × T) := [(1, .n true [1] (.e 1) (.e 0)), (1, .n false [1] (.e 1) (.e 0)), (1, .e 0)]
theorem h_grid : GOk hGrid 2 2 := by
  refine ⟨rfl, fun r hr => ?_, by decide, by decide, by decide, by decide⟩
  have z : r = [0, 0] ∨ r = [0, 1] := by simpa [hGrid] using hr
  rcases z with z | z
  · subst z
    exact ⟨rfl, by decide⟩
  · subst z
    exact ⟨rfl, by decide⟩
theorem h_lot (r : Bool) : LotOk (if r then 2 else 2) [1] := by
  refine ⟨?_, by simp, by decide⟩
  cases r <;> decide
theorem h_mix : MixOk 3 hMix 2 2 1 := by
  refine ⟨by decide, by decide, fun e he => ?_, by decide, by decide, by decide, by decide⟩
  have z : e = (1, .n true [1] (.e 1) (.e 0)) ∨ e = (1, .n false [1] (.e 1) (.e 0)) ∨ e = (1, T.e 0) := by simpa [hMix] using he
  rcases z with z | z | z
  · subst z
    exact ⟨(by decide : (0 : Int) < 1), ⟨h_lot true, ⟨by decide, by decide⟩, ⟨by decide, by decide⟩⟩, by decide⟩
  · subst z
    exact ⟨(by decide : (0 : Int) < 1), ⟨h_lot false, ⟨by decide, by decide⟩, ⟨by decide, by decide⟩⟩, by decide⟩
  · subst z
    exact ⟨(by decide : (0 : Int) < 1), ⟨by decide, by decide⟩, by decide⟩
theorem h_best : best (rat hGrid hMix) (cells 2 2) = some (2, (0, 1)) := by decide +kernel
theorem h_third : red 1 3 = (1, 3) := by decide +kernel
theorem h_two : red 2 3 = (2, 3) := by decide +kernel
theorem ok_law (T' : Txt K mg) {f : Addr} {fd : FuncData} (F : Fun K "law" "law" s_law f fd) (cB : Cal P w K mg base "_law_begin" 1 ["_law_script"] (spBegin K)) (cR : CalG P w K mg base "_law_right" 9 ["_law_state"] spRight) (cL : CalG P w K mg base "_law_like" 1 ["_law_got", "_law_due"] (spLike K))
    (cC : CalF P w K mg base "least_chance" s_chances 8 ["grid", "bits", "mix"] (spLeast K)) : FnG P w K mg base 10 f fd ["_law_script"] (spLaw K) := by
  obtain ⟨fc, fdc, mC, FC, okC⟩ := cC.ex
  refine fng_ok F sc_law (fun vs H Q E h => ?_) (fun cdv A outer s H vs Q E free hr h => ?_)
  · obtain ⟨_, _, rfl, _⟩ := h
    rfl
  obtain ⟨a, ns, rfl, hS, hlen, q⟩ := h
  refine ⟨_, pss_cons (ps_set (i := 1) sc_law.nd rfl (.inl rfl) (pe_cal cB hr (by decide) (by rfl) (pa_cons (pv 0) pa_nil)))
    (pss_cons (ps_for PassesOwn.never rfl (pi_range1 (by rfl) T'.range (pa_cons pe_int pa_nil)) (pg_name (i := 2) sc_law.nd rfl (Or.inl rfl))
      (pss_one (ps_if (pt_not (pt_val (pe_calG cR free hr (by decide) (by rfl) (pa_cons (pv 1) pa_nil)))) (pss_one (ps_ret pe_bl)) pss_nil)))
    (pss_cons (ps_set (i := 3) sc_law.nd rfl (.inl rfl) (pe_tup (pa_cons (pe_tup (pa_cons pe_int (pa_cons pe_int pa_nil))) (pa_cons (pe_tup (pa_cons pe_int (pa_cons pe_int pa_nil))) pa_nil))))
    (pss_cons (ps_set (i := 4) sc_law.nd rfl (.inl rfl) (pe_tup (pa_cons (pe_tup (pa_cons (pe_tup (pa_cons pe_int (pa_cons pe_int pa_nil))) (pa_cons (pe_tup (pa_cons pe_str (pa_cons (pe_tup (pa_cons pe_int pa_nil)) (pa_cons pe_int (pa_cons pe_int pa_nil))))) pa_nil)))
        (pa_cons (pe_tup (pa_cons (pe_tup (pa_cons pe_int (pa_cons pe_int pa_nil))) (pa_cons (pe_tup (pa_cons pe_str (pa_cons (pe_tup (pa_cons pe_int pa_nil)) (pa_cons pe_int (pa_cons pe_int pa_nil))))) pa_nil)))
        (pa_cons (pe_tup (pa_cons (pe_tup (pa_cons pe_int (pa_cons pe_int pa_nil))) (pa_cons pe_int pa_nil))) pa_nil)))))
    (pss_one (ps_ret (pe_calG cL free hr (by decide) (by rfl) (pa_cons (pe_callKw (E := E0) okC (hr.mono (by decide)) (by rfl) mC FC.kp (kw_binds FC) pass0 (pk_cons (pv 4) (pk_cons pe_int (pk_cons (pv 3) pk_nil))))
      (pa_cons (pe_tup (pa_cons (pe_tup (pa_cons pe_int (pa_cons pe_int pa_nil))) (pa_cons (pe_tup (pa_cons pe_int (pa_cons pe_int pa_nil))) pa_nil))) pa_nil)))))))), ?_⟩
  refine ⟨_, rfl, a, ns, rfl, hS, hlen, fun st cs ls H1 e1 S1 => ?_⟩
  refine ⟨6, rfl, by decide, by decide, for_it (walk_rng (n := 6)) (fun i σ H' => ∃ (m : Int) (y : Option V), σ = [some (.ref a), some (.ref st), y, none, none] ∧ St0 H' st cs ls m ∧ m ≤ 10000 * (i : Int)) ⟨0, none, rfl, S1, by decide⟩ (fun _ _ _ _ _ => trivial) ?_ ?_⟩
  · rintro i x σ H2 H3 hi ⟨m, y, rfl, S2, hm⟩ ⟨rfl, rfl⟩
    exact ⟨_, rfl, st, cs, ls, m, rfl, S2, by omega, fun m' H4 S4 hm4 => ⟨_, rfl, itF rfl ⟨m', _, rfl, S4, by omega⟩⟩⟩
  rintro σ H2 ⟨m, y, rfl, S2, hm⟩
  -- three speeches of one bit
  refine ⟨two_line _ _, fun g0 n0 => ⟨two_line _ _, fun g1 n1 => ⟨two_line _ _, fun gg n2 => ?_⟩⟩⟩
  have e0 := same_new n0 (.tup [.int 0, .int 0])
  have e1' := same_new n1 (.tup [.int 0, .int 1])
  have e2 := same_new n2 (.tup [.ref g0, .ref g1])
  have hG : GAt K (upd (upd (upd H2 g0 (.tup [.int 0, .int 0])) g1 (.tup [.int 0, .int 1])) gg (.tup [.ref g0, .ref g1])) (.ref gg) hGrid :=
    ⟨gg, _, rfl, sqt_new, .cons ⟨g0, rfl, e2.sqt (e1'.sqt sqt_new)⟩ (.cons ⟨g1, rfl, e2.sqt sqt_new⟩ .nil)⟩
  clear e0 e1' e2 n0 n1 n2
  generalize upd (upd (upd H2 g0 (.tup [.int 0, .int 0])) g1 (.tup [.int 0, .int 1])) gg (.tup [.ref g0, .ref g1]) = H3 at hG ⊢
  refine ⟨two_line _ _, fun w1 n1 => ⟨one_line _, fun l1 n2 => ⟨four_line _ _ _ _, fun s1 n3 => ⟨two_line _ _, fun m1 n4 => ?_⟩⟩⟩⟩
  refine ⟨two_line _ _, fun w2 n5 => ⟨one_line _, fun l2 n6 => ⟨four_line _ _ _ _, fun s2 n7 => ⟨two_line _ _, fun m2 n8 => ?_⟩⟩⟩⟩
  refine ⟨two_line _ _, fun w3 n9 => ⟨two_line _ _, fun m3 n10 => ⟨by show 3 ≤ sizeLine; decide, fun mm n11 => ?_⟩⟩⟩
  have f1 := same_new n1 (.tup [.int 1, .int 3])
  have f2 := same_new n2 (.tup [.int 1])
  have f3 := same_new n3 (.tup [.str "row", .ref l1, .int 1, .int 0])
  have f4 := same_new n4 (.tup [.ref w1, .ref s1])
  have f5 := same_new n5 (.tup [.int 1, .int 3])
  have f6 := same_new n6 (.tup [.int 1])
  have f7 := same_new n7 (.tup [.str "column", .ref l2, .int 1, .int 0])
  have f8 := same_new n8 (.tup [.ref w2, .ref s2])
  have f9 := same_new n9 (.tup [.int 1, .int 3])
  have f10 := same_new n10 (.tup [.ref w3, .int 0])
  have f11 := same_new n11 (.tup [.ref m1, .ref m2, .ref m3])
  have t9 := f9.trans (f10.trans f11)
  have t5 := f5.trans (f6.trans (f7.trans (f8.trans t9)))
  have tAll := f1.trans (f2.trans (f3.trans (f4.trans t5)))
  have a_w1 := (f2.trans (f3.trans (f4.trans t5))).sqt (K := K) (sqt_new (xs := [.int 1, .int 3]) (H := H3) (p := w1))
  have a_l1 := (f3.trans (f4.trans t5)).sqt (K := K) (sqt_new (xs := [.int 1]) (p := l1))
  have a_s1 := (f4.trans t5).sqt (K := K) (sqt_new (xs := [.str "row", .ref l1, .int 1, .int 0]) (p := s1))
  have a_m1 := t5.sqt (K := K) (sqt_new (xs := [.ref w1, .ref s1]) (p := m1))
  have a_w2 := (f6.trans (f7.trans (f8.trans t9))).sqt (K := K) (sqt_new (xs := [.int 1, .int 3]) (p := w2))
  have a_l2 := (f7.trans (f8.trans t9)).sqt (K := K) (sqt_new (xs := [.int 1]) (p := l2))
  have a_s2 := (f8.trans t9).sqt (K := K) (sqt_new (xs := [.str "column", .ref l2, .int 1, .int 0]) (p := s2))
  have a_m2 := t9.sqt (K := K) (sqt_new (xs := [.ref w2, .ref s2]) (p := m2))
  have a_w3 := (f10.trans f11).sqt (K := K) (sqt_new (xs := [.int 1, .int 3]) (p := w3))
  have a_m3 := f11.sqt (K := K) (sqt_new (xs := [.ref w3, .int 0]) (p := m3))
  refine ⟨_, rfl, _, rfl, .ref gg, .ref mm, hGrid, 2, 2, 1, 3, hMix, rfl, hG.tk tAll.tk, h_grid, ⟨mm, _, rfl, sqt_new, .cons ⟨m1, .ref w1, .ref s1, rfl, a_m1, ⟨w1, rfl, by show SqT K _ w1 [.int (red 1 3).1, .int (red 1 3).2]; rw [h_third]; exact a_w1⟩, ⟨s1, l1, _, _, rfl, a_s1, a_l1, rfl, rfl⟩⟩
    (.cons ⟨m2, .ref w2, .ref s2, rfl, a_m2, ⟨w2, rfl, by show SqT K _ w2 [.int (red 1 3).1, .int (red 1 3).2]; rw [h_third]; exact a_w2⟩, ⟨s2, l2, _, _, rfl, a_s2, a_l2, rfl, rfl⟩⟩
    (.cons ⟨m3, .ref w3, .int 0, rfl, a_m3, ⟨w3, rfl, by show SqT K _ w3 [.int (red 1 3).1, .int (red 1 3).2]; rw [h_third]; exact a_w3⟩, rfl⟩ .nil))⟩, h_mix, fun v H5 e5 hF => ?_⟩
  rw [h_best] at hF
  obtain ⟨p, q', f', rfl, hp, hf, hq⟩ := hF
  rw [h_two] at hf
  refine ⟨two_line _ _, fun i1 k1 => ⟨two_line _ _, fun i2 k2 => ⟨two_line _ _, fun i3 k3 => ?_⟩⟩⟩
  have d1 := same_new k1 (.tup [.int 2, .int 3])
  have d2 := same_new k2 (.tup [.int 0, .int 1])
  have d3 := same_new k3 (.tup [.ref i1, .ref i2])
  have dd := d1.trans (d2.trans d3)
  exact ⟨p, i3, dR (2, 3) (0, 1), 100, rfl, dp_R (dd.sqt hp) (dp_fr (hf.same dd)) (dp_F (f := (0, 1)) (dd.sqt hq)), dp_R sqt_new (dp_F (f := (2, 3)) (d3.sqt (d2.sqt sqt_new))) (dp_F (f := (0, 1)) (d3.sqt sqt_new)),
    show_R ⟨by decide, by decide, by decide, by decide⟩ ⟨by decide, by decide, by decide, by decide⟩, by decide, q _⟩
end
end K76
set_option Elab.async false
set_option linter.all false
set_option maxRecDepth 100000
set_option maxHeartbeats 8000000
namespace K76
open PySem PySem.Spec PyProof.Rows L2
/-! ### the program's top -/
section
variable {K : PySem.W.Frag} {h : Heap} {mg : Str → Option Value}
theorem df_mk {x : Str} {st : Stmt} {f : Addr} {oc : Value} {od an : Option Addr} {osl : Array (Option Value)} {kV doc pm cdv ct : Value} (X : K.In h) (G : h.Ns mainGlobals mg)
    (a : PySem.W.nsIn K mainGlobals x = some (some (.ref f))) (l : K.lookup f = some ⟨oc, od, .func (PySem.W.fnOf x x (defArgs st) (defBody st) (defScope st) .none kV doc pm an cdv ct), osl⟩)
    (c : PySem.W.codeIn K cdv x = true) (k : PySem.W.keepIn K (.ref f) = true) : Df K mg x st := ⟨f, _, PySem.W.mg_of X G a, fun_mk l c k⟩
theorem two_mk {x : Str} {f : Addr} {od : Option Addr} {osl : Array (Option Value)} {i j : Int} {t u : Tok} {n : Nat} (X : K.In h) (G : h.Ns mainGlobals mg)
    (a : PySem.W.nsIn K mainGlobals x = some (some (.ref f))) (l : K.lookup f = some ⟨.type "tuple", od, .seq #[.int i t, .int j u] n, osl⟩) : ∃ a, mg x = some (.ref a) ∧ ∀ H : Hp, SqT K H a [.int i, .int j] :=
  ⟨f, PySem.W.mg_of X G a, fun _ => .inr ⟨_, _, _, l, rfl, rfl, (by show 2 ≤ sizeLine; decide), .cons ⟨_, rfl⟩ (.cons ⟨_, rfl⟩ .nil)⟩⟩
theorem num_mk {x : Str} {i : Int} {t : Tok} (X : K.In h) (G : h.Ns mainGlobals mg) (a : PySem.W.nsIn K mainGlobals x = some (some (.int i t))) : ∃ t, mg x = some (.int i t) := ⟨t, PySem.W.mg_of X G a⟩
end
theorem all_mk {l : PySem.W.OpenLaw} {w : World} {K : PySem.W.Frag} {h : Heap} {mg : Str → Option Value} {fa f : Addr} (X : K.In h) (G : h.Ns mainGlobals mg) (hfa : mg "law" = some (.ref fa))
    {od an : Option Addr} {sl : Array (Option Value)} {oc kV dc pm cd ct : Value}
    (aL : PySem.W.nsIn K mainGlobals "law" = some (some (.ref f))) (lL : K.lookup f = some ⟨oc, od, .func (PySem.W.fnOf "law" "law" (defArgs s_law) (defBody s_law) (defScope s_law) .none kV dc pm an cd ct), sl⟩)
    (cL : PySem.W.codeIn K cd "law" = true) (kL : PySem.W.keepIn K (.ref f) = true) (T : Txt K mg)
    (D_reduced : Df K mg "reduced_so" s_reduced) (D_isfr : Df K mg "is_fraction" s_isfr) (D_plus : Df K mg "plus_so" s_plus) (D_less : Df K mg "less_so" s_less) (D_sum : Df K mg "sum_so" s_sum) (D_isfrom : Df K mg "is_from" s_isfrom) (D_isset : Df K mg "is_set" s_isset) (D_grid : Df K mg "check_grid" s_grid) (D_word : Df K mg "is_word" s_word) (D_side : Df K mg "side_of" s_side) (D_part : Df K mg "check_part" s_part) (D_speech : Df K mg "check_speech" s_speech) (D_hand : Df K mg "is_hand_talk" s_hand) (D_walked : Df K mg "walked_so" s_walked) (D_said : Df K mg "said_so" s_said) (D_bits : Df K mg "talk_bits" s_bits) (D_small : Df K mg "check_small" s_small) (D_pair : Df K mg "is_pair" s_pair) (D_mix : Df K mg "is_mix" s_mix) (D_cells : Df K mg "all_cells" s_cells) (D_chance : Df K mg "chance_at" s_chance) (D_least : Df K mg "least_so" s_least) (D_chances : Df K mg "least_chance" s_chances) (D_mixed : Df K mg "_law_mixed" s_mixed) (D_begin : Df K mg "_law_begin" s_begin) (D_draw : Df K mg "_law_draw" s_draw) (D_lgrid : Df K mg "_law_grid" s_lgrid) (D_lspeech : Df K mg "_law_speech" s_lspeech) (D_div : Df K mg "_law_divisor" s_div) (D_share : Df K mg "_law_share" s_share) (D_end : Df K mg "_law_end" s_end) (D_lleast : Df K mg "_law_least" s_lleast) (D_lmix : Df K mg "_law_mix" s_lmix) (D_like : Df K mg "_law_like" s_like) (D_drawn : Df K mg "_law_drawn" s_drawn) (D_right : Df K mg "_law_right" s_right) :
    ∃ fd : FuncData, (∀ (s : Shared) (v : Value), BindsTo s fd ⟨[v], []⟩ [("_law_script", v)]) ∧ ∀ base : Heap, K.In base → base.Ns mainGlobals mg → FnG l.prog w K mg base 10 fa fd ["_law_script"] (spLaw K) := by
  have e := hfa.symm.trans (PySem.W.mg_of X G aL)
  cases e
  refine ⟨PySem.W.fnOf "law" "law" (defArgs s_law) (defBody s_law) (defScope s_law) .none kV dc pm an cd ct, fun s v => .of_eq rfl, fun base _ _ => ?_⟩
  have c_reduced := ok_reduced (P := l.prog) (w := w) (base := base) T D_reduced
  have c_plus := ok_plus (P := l.prog) (w := w) (base := base) D_plus c_reduced
  have c_less := ok_less (P := l.prog) (w := w) (base := base) D_less
  have c_sum := ok_sum (P := l.prog) (w := w) (base := base) T D_sum c_plus
  have c_isfr := ok_isfr (P := l.prog) (w := w) (base := base) T D_isfr
  have c_isfrom := ok_isfrom (P := l.prog) (w := w) (base := base) T D_isfrom
  have c_isset := ok_isset (P := l.prog) (w := w) (base := base) T D_isset c_isfrom
  have c_word := ok_word (P := l.prog) (w := w) (base := base) T D_word
  have c_side := ok_side (P := l.prog) (w := w) (base := base) T D_side
  have c_part := ok_part (P := l.prog) (w := w) (base := base) T D_part c_word c_isfrom c_isset c_side
  have c_speech := ok_speech (P := l.prog) (w := w) (base := base) T D_speech c_word c_part
  have c_hand := ok_hand (P := l.prog) (w := w) (base := base) D_hand c_speech
  have c_walked := ok_walked (P := l.prog) (w := w) (base := base) D_walked c_word
  have c_said := ok_said (P := l.prog) (w := w) (base := base) D_said c_walked
  have c_bits := ok_bits (P := l.prog) (w := w) (base := base) T D_bits c_word
  have c_grid := ok_grid (P := l.prog) (w := w) (base := base) T D_grid c_isfrom
  have c_small := ok_small (P := l.prog) (w := w) (base := base) T D_small c_grid c_isfrom
  have c_pair := ok_pair (P := l.prog) (w := w) (base := base) T D_pair c_isfr c_hand c_bits
  have c_mix := ok_mix (P := l.prog) (w := w) (base := base) T D_mix c_pair c_sum
  have c_cells := ok_cells (P := l.prog) (w := w) (base := base) T D_cells
  have c_chance := ok_chance (P := l.prog) (w := w) (base := base) D_chance c_said c_sum
  have c_least := ok_least (P := l.prog) (w := w) (base := base) D_least c_cells c_chance c_less
  have c_chances := ok_chancesF (P := l.prog) (w := w) (base := base) D_chances c_small c_mix c_least
  have c_mixed := ok_mixed (P := l.prog) (w := w) (base := base) T D_mixed
  have c_begin := ok_begin (P := l.prog) (w := w) (base := base) T D_begin
  have c_draw := ok_draw (P := l.prog) (w := w) (base := base) T D_draw c_mixed
  have c_lgrid := ok_lgrid (P := l.prog) (w := w) (base := base) T D_lgrid c_draw
  have c_lspeech := ok_lspeech (P := l.prog) (w := w) (base := base) T D_lspeech c_draw 3
  have c_div := ok_div (P := l.prog) (w := w) (base := base) T D_div
  have c_share := ok_share (P := l.prog) (w := w) (base := base) D_share c_div
  have c_end := ok_end (P := l.prog) (w := w) (base := base) T D_end
  have c_lleast := ok_lleast (P := l.prog) (w := w) (base := base) T D_lleast c_end
  have c_lmix := ok_lmix (P := l.prog) (w := w) (base := base) T D_lmix c_share
  have c_like := ok_like (P := l.prog) (w := w) (base := base) T D_like
  have c_drawn := ok_drawn (P := l.prog) (w := w) (base := base) T D_drawn c_draw c_lspeech
  have c_right := ok_right (P := l.prog) (w := w) (base := base) T D_right ⟨c_lgrid, c_draw, c_drawn, c_lleast, ok_chances c_chances, c_lmix, c_share, c_like⟩
  exact ok_law T (fun_mk (st := s_law) lL cL kL) c_begin c_right c_like c_chances
theorem walk {l : PySem.W.OpenLaw} {q : Program} {loose : List Str} {XP : (Str → Option Value) → Heap → Prop} {YP : World → Heap → Prop} {d : DefRec} {K : Params → PySem.W.Frag} (hn : l.most = some 63) (hdf : d.params.defaults = [])
    (hY : ∀ (w : World) (h : Heap), YP w h → (K w.params).In h)
    (F : ∀ (w : World) (mg : Str → Option Value) (fa : Addr) (h : Heap), (K w.params).In h → h.Ns mainGlobals mg → mg d.name = some (.ref fa) →
      ∃ fd : FuncData, (∀ (s : Shared) (u : Value), BindsTo s fd ⟨[u], []⟩ [("_law_script", u)]) ∧ ∀ base : Heap, (K w.params).In base → base.Ns mainGlobals mg → FnG l.prog w (K w.params) mg base 10 fa fd ["_law_script"] (spLaw (K w.params))) :
    PySem.W.WalkO q loose XP YP l.row.toRowW d [] (fun f vs => PySem.call f vs) :=
  walk_ofG (n := 63) (k := 10) (x := "_law_script") (sp := spLaw) hn (by decide) hdf ⟨rfl, by decide, by decide⟩ hY F fun _ _ a ns hl hS => ⟨a, ns, rfl, hS, hl, fun _ => rfl⟩
end K76
open PySem PySem.W PyProof.Rows
set_option maxRecDepth 100000 in
set_option maxHeartbeats 0 in
theorem PySem.Challenge.cw_saidbetween_k76_whole_least_chances_of_m_holds : PySem.Challenge.rw_saidbetween_k76_whole_least_chances_of_m.Holds := by
  w_on; o_law; k_head; (case hw => w_witness2)
  k_fill
  refine K76.walk (l := PySem.Challenge.rw_saidbetween_k76_whole_least_chances_of_m) rfl rfl (fun w h Y => PySem.W.kIn_of Y) ?F
  case F =>
    intro w mg fa h KX G hmg
    refine' K76.all_mk KX G hmg ?aL ?lL ?cL ?kL
      ⟨PySem.W.mg_of KX G ?gcd, K76.two_mk KX G ?pnone_ ?qnone_, K76.two_mk KX G ?pwhole ?qwhole, K76.num_mk KX G ?nsideH, K76.num_mk KX G ?ninteger, K76.num_mk KX G ?ndepth, K76.num_mk KX G ?nparts, K76.num_mk KX G ?nsideC, K76.num_mk KX G ?nbits, K76.num_mk KX G ?npairs, PySem.W.mg_none_of KX G ?zisi, PySem.W.mg_none_of KX G ?zlen, PySem.W.mg_none_of KX G ?ztuple, PySem.W.mg_none_of KX G ?zint, PySem.W.mg_none_of KX G ?zbool, PySem.W.mg_none_of KX G ?zstr, PySem.W.mg_none_of KX G ?zzip, PySem.W.mg_none_of KX G ?zenumerate, PySem.W.mg_none_of KX G ?zmax, PySem.W.mg_none_of KX G ?zrange, PySem.W.mg_none_of KX G ?zlist, PySem.W.mg_none_of KX G ?zsum, PySem.W.mg_none_of KX G ?zrepr⟩
      (K76.df_mk KX G ?a0 ?l0 ?c0 ?k0)
      (K76.df_mk KX G ?a1 ?l1 ?c1 ?k1)
      (K76.df_mk KX G ?a2 ?l2 ?c2 ?k2)
      (K76.df_mk KX G ?a3 ?l3 ?c3 ?k3)
      (K76.df_mk KX G ?a4 ?l4 ?c4 ?k4)
      (K76.df_mk KX G ?a5 ?l5 ?c5 ?k5)
      (K76.df_mk KX G ?a6 ?l6 ?c6 ?k6)
      (K76.df_mk KX G ?a7 ?l7 ?c7 ?k7)
      (K76.df_mk KX G ?a8 ?l8 ?c8 ?k8)
      (K76.df_mk KX G ?a9 ?l9 ?c9 ?k9)
      (K76.df_mk KX G ?a10 ?l10 ?c10 ?k10)
      (K76.df_mk KX G ?a11 ?l11 ?c11 ?k11)
      (K76.df_mk KX G ?a12 ?l12 ?c12 ?k12)
      (K76.df_mk KX G ?a13 ?l13 ?c13 ?k13)
      (K76.df_mk KX G ?a14 ?l14 ?c14 ?k14)
      (K76.df_mk KX G ?a15 ?l15 ?c15 ?k15)
      (K76.df_mk KX G ?a16 ?l16 ?c16 ?k16)
      (K76.df_mk KX G ?a17 ?l17 ?c17 ?k17)
      (K76.df_mk KX G ?a18 ?l18 ?c18 ?k18)
      (K76.df_mk KX G ?a19 ?l19 ?c19 ?k19)
      (K76.df_mk KX G ?a20 ?l20 ?c20 ?k20)
      (K76.df_mk KX G ?a21 ?l21 ?c21 ?k21)
      (K76.df_mk KX G ?a22 ?l22 ?c22 ?k22)
      (K76.df_mk KX G ?a23 ?l23 ?c23 ?k23)
      (K76.df_mk KX G ?a24 ?l24 ?c24 ?k24)
      (K76.df_mk KX G ?a25 ?l25 ?c25 ?k25)
      (K76.df_mk KX G ?a26 ?l26 ?c26 ?k26)
      (K76.df_mk KX G ?a27 ?l27 ?c27 ?k27)
      (K76.df_mk KX G ?a28 ?l28 ?c28 ?k28)
      (K76.df_mk KX G ?a29 ?l29 ?c29 ?k29)
      (K76.df_mk KX G ?a30 ?l30 ?c30 ?k30)
      (K76.df_mk KX G ?a31 ?l31 ?c31 ?k31)
      (K76.df_mk KX G ?a32 ?l32 ?c32 ?k32)
      (K76.df_mk KX G ?a33 ?l33 ?c33 ?k33)
      (K76.df_mk KX G ?a34 ?l34 ?c34 ?k34)
      (K76.df_mk KX G ?a35 ?l35 ?c35 ?k35)
    (case aL => k_is)
    (case lL => k_is)
    (case cL => k_is)
    (case kL => k_is)
    (case gcd => k_is)
    (case pnone_ => k_is)
    (case qnone_ => k_is)
    (case pwhole => k_is)
    (case qwhole => k_is)
    (case nsideH => k_is)
    (case ninteger => k_is)
    (case ndepth => k_is)
    (case nparts => k_is)
    (case nsideC => k_is)
    (case nbits => k_is)
    (case npairs => k_is)
    (case zisi => k_is)
    (case zlen => k_is)
    (case ztuple => k_is)
    (case zint => k_is)
    (case zbool => k_is)
    (case zstr => k_is)
    (case zzip => k_is)
    (case zenumerate => k_is)
    (case zmax => k_is)
    (case zrange => k_is)
    (case zlist => k_is)
    (case zsum => k_is)
    (case zrepr => k_is)
    (case a0 => k_is)
    (case l0 => k_is)
    (case c0 => k_is)
    (case k0 => k_is)
    (case a1 => k_is)
    (case l1 => k_is)
    (case c1 => k_is)
    (case k1 => k_is)
    (case a2 => k_is)
    (case l2 => k_is)
    (case c2 => k_is)
    (case k2 => k_is)
    (case a3 => k_is)
    (case l3 => k_is)
    (case c3 => k_is)
    (case k3 => k_is)
    (case a4 => k_is)
    (case l4 => k_is)
    (case c4 => k_is)
    (case k4 => k_is)
    (case a5 => k_is)
    (case l5 => k_is)
    (case c5 => k_is)
    (case k5 => k_is)
    (case a6 => k_is)
    (case l6 => k_is)
    (case c6 => k_is)
    (case k6 => k_is)
    (case a7 => k_is)
    (case l7 => k_is)
    (case c7 => k_is)
    (case k7 => k_is)
    (case a8 => k_is)
    (case l8 => k_is)
    (case c8 => k_is)
    (case k8 => k_is)
    (case a9 => k_is)
    (case l9 => k_is)
    (case c9 => k_is)
    (case k9 => k_is)
    (case a10 => k_is)
    (case l10 => k_is)
    (case c10 => k_is)
    (case k10 => k_is)
    (case a11 => k_is)
    (case l11 => k_is)
    (case c11 => k_is)
    (case k11 => k_is)
    (case a12 => k_is)
    (case l12 => k_is)
    (case c12 => k_is)
    (case k12 => k_is)
    (case a13 => k_is)
    (case l13 => k_is)
    (case c13 => k_is)
    (case k13 => k_is)
    (case a14 => k_is)
    (case l14 => k_is)
    (case c14 => k_is)
    (case k14 => k_is)
    (case a15 => k_is)
    (case l15 => k_is)
    (case c15 => k_is)
    (case k15 => k_is)
    (case a16 => k_is)
    (case l16 => k_is)
    (case c16 => k_is)
    (case k16 => k_is)
    (case a17 => k_is)
    (case l17 => k_is)
    (case c17 => k_is)
    (case k17 => k_is)
    (case a18 => k_is)
    (case l18 => k_is)
    (case c18 => k_is)
    (case k18 => k_is)
    (case a19 => k_is)
    (case l19 => k_is)
    (case c19 => k_is)
    (case k19 => k_is)
    (case a20 => k_is)
    (case l20 => k_is)
    (case c20 => k_is)
    (case k20 => k_is)
    (case a21 => k_is)
    (case l21 => k_is)
    (case c21 => k_is)
    (case k21 => k_is)
    (case a22 => k_is)
    (case l22 => k_is)
    (case c22 => k_is)
    (case k22 => k_is)
    (case a23 => k_is)
    (case l23 => k_is)
    (case c23 => k_is)
    (case k23 => k_is)
    (case a24 => k_is)
    (case l24 => k_is)
    (case c24 => k_is)
    (case k24 => k_is)
    (case a25 => k_is)
    (case l25 => k_is)
    (case c25 => k_is)
    (case k25 => k_is)
    (case a26 => k_is)
    (case l26 => k_is)
    (case c26 => k_is)
    (case k26 => k_is)
    (case a27 => k_is)
    (case l27 => k_is)
    (case c27 => k_is)
    (case k27 => k_is)
    (case a28 => k_is)
    (case l28 => k_is)
    (case c28 => k_is)
    (case k28 => k_is)
    (case a29 => k_is)
    (case l29 => k_is)
    (case c29 => k_is)
    (case k29 => k_is)
    (case a30 => k_is)
    (case l30 => k_is)
    (case c30 => k_is)
    (case k30 => k_is)
    (case a31 => k_is)
    (case l31 => k_is)
    (case c31 => k_is)
    (case k31 => k_is)
    (case a32 => k_is)
    (case l32 => k_is)
    (case c32 => k_is)
    (case k32 => k_is)
    (case a33 => k_is)
    (case l33 => k_is)
    (case c33 => k_is)
    (case k33 => k_is)
    (case a34 => k_is)
    (case l34 => k_is)
    (case c34 => k_is)
    (case k34 => k_is)
    (case a35 => k_is)
    (case l35 => k_is)
    (case c35 => k_is)
    (case k35 => k_is)
#print axioms PySem.Challenge.cw_saidbetween_k76_whole_least_chances_of_m_holds
