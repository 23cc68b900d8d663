import PyProof.Rows.All
import Wide.All
import OpenK.AllK
import Wide.FinOn
import KE.GoesEnum
import HandS.ForMost
import HandS.Conv
import HandS.Deep
import HandS.IsInst
import HandS.Set
import HandS.SetFor
import HandS.Strs
import HandS.SortInts
import HandS.Style
import HandS.TupAny
import HandS.Property
import HandS.Slots
import HandS.SlotsOwn
import HandS.Walk
import HandS.Rev
import HandS.Codes
import PySem.Challenge.RW_rulerbits_k84_whole_pieces_within_pieces
set_option Elab.async false
set_option linter.all false
set_option maxRecDepth 100000
set_option maxHeartbeats 4100000
namespace K84
/-- marks moved to begin with 0 -/
def mv (xs : List Int) : List Int := xs.map fun m => m - xs.headD 0
/-- marks the other way round -/
def mir (xs : List Int) : List Int := xs.reverse.map fun m => xs.getLastD 0 - m
/-- a part of the marks -/
def seg (xs : List Int) (a n : Nat) : List Int := (xs.drop a).take n
/-- what one place of the ruler adds to the spots -/
def spotAt (ms p : List Int) (i : Nat) : List (Nat × Bool) :=
  (if mv (seg ms i p.length) = p then [(i, false)] else []) ++ (if mv (seg ms i p.length) = mir p ∧ mir p ≠ p then [(i, true)] else [])
/-- the spots of a piece -/
def spotsL (ms p : List Int) : List (Nat × Bool) := (List.range (ms.length + 1 - p.length)).flatMap (spotAt ms p)
abbrev Pl := Nat × Nat × Bool
/-- the places on the n-th ruler -/
def candsAt (p : List Int) (n : Nat) (ms : List Int) : List Pl := (spotsL ms p).map fun s => (n, s.1, s.2)
def candsFrom (p : List Int) : Nat → List (List Int) → List Pl
  | _, [] => []
  | n, ms :: r => candsAt p n ms ++ candsFrom p (n + 1) r
/-- all places -/
def candsL (mss : List (List Int)) (p : List Int) : List Pl := candsFrom p 0 mss
/-- the place of the mark with an index -/
def spotIx (size : Nat) (c : Pl) (idx : Nat) : Nat := c.2.1 + (if c.2.2 = true then size - 1 - idx else idx)
/-- the number of the mark at a place -/
def numAt (mss : List (List Int)) (size : Nat) (c : Pl) (idx : Nat) : Int := (mss.getD c.1 []).getD (spotIx size c idx) 0
def GoodM (ms : List Int) : Prop := 2 ≤ ms.length ∧ ms.length ≤ 8 ∧ ms.head? = some 0 ∧ ms.Pairwise (· < ·) ∧ ∀ m ∈ ms, m ≤ 30
def GoodP (p : List Int) : Prop := 1 ≤ p.length ∧ p.length ≤ 8 ∧ p.head? = some 0 ∧ p.Pairwise (· < ·) ∧ ∀ m ∈ p, m ≤ 30
theorem mv_length (xs : List Int) : (mv xs).length = xs.length := by unfold mv; rw [List.length_map]
theorem mir_length (xs : List Int) : (mir xs).length = xs.length := by unfold mir; rw [List.length_map, List.length_reverse]
theorem mv_shift (c : Int) (ys : List Int) : mv (ys.map fun m => m - c) = mv ys := by
  cases ys with
  | nil => rfl
  | cons y r =>
    unfold mv
    rw [List.map_map]
    refine List.map_congr_left fun m _ => ?_
    show (m - c) - ((y - c)) = m - y
    omega
theorem seg_map (f : Int → Int) (xs : List Int) (a n : Nat) : seg (xs.map f) a n = (seg xs a n).map f := by
  unfold seg
  rw [← List.map_drop, ← List.map_take]
theorem seg_seg (xs : List Int) (i n b k : Nat) (h : b + k ≤ n) : seg (seg xs i n) b k = seg xs (i + b) k := by
  unfold seg
  rw [List.drop_take, List.take_take, List.drop_drop, Nat.min_eq_left (by omega)]
theorem seg_length (xs : List Int) (a n : Nat) (h : a + n ≤ xs.length) : (seg xs a n).length = n := by
  unfold seg
  simp only [List.length_take, List.length_drop]; omega
theorem mv_seg_mv (xs : List Int) (b k : Nat) : mv (seg (mv xs) b k) = mv (seg xs b k) := by
  show mv (seg (xs.map fun m => m - xs.headD 0) b k) = _
  rw [seg_map, mv_shift]
theorem getLastD_map (f : Int → Int) (ys : List Int) (h : ys ≠ []) : (ys.map f).getLastD 0 = f (ys.getLastD 0) := by
  rw [List.getLastD_eq_getLast?, List.getLastD_eq_getLast?, List.getLast?_map]
  cases e : ys.getLast? with
  | none => exact absurd (List.getLast?_eq_none_iff.mp e) h
  | some y => rfl
theorem mir_shift (c : Int) (ys : List Int) : mir (ys.map fun m => m - c) = mir ys := by
  by_cases h : ys = []
  · subst h; rfl
  · unfold mir
    rw [getLastD_map _ _ h, ← List.map_reverse, List.map_map]
    refine List.map_congr_left fun m _ => ?_
    show (ys.getLastD 0 - c) - (m - c) = ys.getLastD 0 - m
    omega
theorem mir_mv (ys : List Int) : mir (mv ys) = mir ys := mir_shift _ ys
/-- moving a mirrored list -/
theorem mv_flip (c : Int) (ys : List Int) : mv (ys.reverse.map fun m => c - m) = mir ys := by
  by_cases h : ys = []
  · subst h; rfl
  · unfold mv mir
    rw [List.map_map]
    refine List.map_congr_left fun m _ => ?_
    have e : (ys.reverse.map fun m => c - m).headD 0 = c - ys.getLastD 0 := by
      rw [List.headD_eq_head?_getD, List.head?_map, List.head?_reverse, List.getLastD_eq_getLast?]
      cases e : ys.getLast? with
      | none => exact absurd (List.getLast?_eq_none_iff.mp e) h
      | some y => rfl
    show (c - m) - (ys.reverse.map fun m => c - m).headD 0 = ys.getLastD 0 - m
    rw [e]
    omega
theorem seg_reverse (p : List Int) (b e : Nat) (hb : b ≤ e) (he : e ≤ p.length) : seg p.reverse (p.length - e) (e - b) = (seg p b (e - b)).reverse := by
  unfold seg
  rw [List.drop_reverse, show p.length - (p.length - e) = e by omega, List.take_reverse, List.length_take, show min e p.length - (e - b) = b by omega, List.drop_take]
/-- a part of a piece that lies forwards -/
theorem part_fwd {ms p : List Int} {i b e : Nat} (h : mv (seg ms i p.length) = p) (hb : b ≤ e) (he : e ≤ p.length) : mv (seg ms (i + b) (e - b)) = mv (seg p b (e - b)) := by
  rw [← seg_seg ms i p.length b (e - b) (by omega), ← mv_seg_mv, h]
/-- a part of a piece that lies turned -/
theorem part_bwd {ms p : List Int} {i b e : Nat} (h : mv (seg ms i p.length) = mir p) (hb : b ≤ e) (he : e ≤ p.length) : mv (seg ms (i + (p.length - e)) (e - b)) = mir (mv (seg p b (e - b))) := by
  rw [← seg_seg ms i p.length (p.length - e) (e - b) (by omega), ← mv_seg_mv, h]
  unfold mir
  rw [seg_map, seg_reverse p b e hb he, mv_flip]
  exact (mir_mv _).symm
theorem mem_spotAt {ms p : List Int} {i j : Nat} {t : Bool} : (i, t) ∈ spotAt ms p j ↔ i = j ∧ ((t = false ∧ mv (seg ms j p.length) = p) ∨ (t = true ∧ mv (seg ms j p.length) = mir p ∧ mir p ≠ p)) := by
  unfold spotAt
  rw [List.mem_append]
  constructor
  · rintro (h | h)
    · split at h
      · rename_i q
        rw [List.mem_singleton] at h
        cases h
        exact ⟨rfl, .inl ⟨rfl, q⟩⟩
      · cases h
    · split at h
      · rename_i q
        rw [List.mem_singleton] at h
        cases h
        exact ⟨rfl, .inr ⟨rfl, q⟩⟩
      · cases h
  · rintro ⟨rfl, ⟨rfl, q⟩ | ⟨rfl, q⟩⟩
    · left
      rw [if_pos q]
      exact List.mem_singleton.mpr rfl
    · right
      rw [if_pos q]
      exact List.mem_singleton.mpr rfl
theorem mem_spots {ms p : List Int} {i : Nat} {t : Bool} : (i, t) ∈ spotsL ms p ↔ i + p.length ≤ ms.length ∧ ((t = false ∧ mv (seg ms i p.length) = p) ∨ (t = true ∧ mv (seg ms i p.length) = mir p ∧ mir p ≠ p)) := by
  unfold spotsL
  rw [List.mem_flatMap]
  constructor
  · rintro ⟨j, hj, h⟩
    obtain ⟨rfl, q⟩ := mem_spotAt.mp h
    rw [List.mem_range] at hj
    exact ⟨by omega, q⟩
  · rintro ⟨h1, h2⟩
    exact ⟨i, List.mem_range.mpr (by omega), mem_spotAt.mpr ⟨rfl, h2⟩⟩
theorem mem_candsFrom {p : List Int} {c : Pl} : ∀ {mss : List (List Int)} {n : Nat}, c ∈ candsFrom p n mss ↔ ∃ k ms, mss[k]? = some ms ∧ c.1 = n + k ∧ (c.2.1, c.2.2) ∈ spotsL ms p
  | [], n => by simp [candsFrom]
  | m0 :: r, n => by
    unfold candsFrom
    rw [List.mem_append, mem_candsFrom (mss := r) (n := n + 1)]
    obtain ⟨cn, ci, ct⟩ := c
    constructor
    · rintro (h | ⟨k, ms, h1, h2, h3⟩)
      · obtain ⟨⟨i, t⟩, hs, e⟩ := List.mem_map.mp h
        cases e
        exact ⟨0, m0, rfl, rfl, hs⟩
      · exact ⟨k + 1, ms, by simpa using h1, by show cn = _; rw [show cn = n + 1 + k from h2]; omega, h3⟩
    · rintro ⟨k, ms, h1, h2, h3⟩
      cases k with
      | zero =>
        left
        have e : m0 = ms := Option.some.inj (by simpa using h1)
        subst e
        have e2 : cn = n := h2
        subst e2
        exact List.mem_map.mpr ⟨(ci, ct), h3, rfl⟩
      | succ k =>
        right
        exact ⟨k, ms, by simpa using h1, by show cn = _; rw [show cn = n + (k + 1) from h2]; omega, h3⟩
theorem mem_cands {mss : List (List Int)} {p : List Int} {c : Pl} : c ∈ candsL mss p ↔ ∃ ms, mss[c.1]? = some ms ∧ (c.2.1, c.2.2) ∈ spotsL ms p := by
  unfold candsL
  rw [mem_candsFrom]
  constructor
  · rintro ⟨k, ms, h1, h2, h3⟩
    have e : c.1 = k := by omega
    exact ⟨ms, by rw [e]; exact h1, h3⟩
  · rintro ⟨ms, h1, h3⟩
    exact ⟨c.1, ms, h1, by omega, h3⟩
/-- where the part of a piece lies, by where the piece lies -/
def partPl (size b e : Nat) (c : Pl) : Pl := (c.1, c.2.1 + (if c.2.2 = true then size - e else b), c.2.2)
/-- a spot of a piece gives one of its part -/
theorem part_spot {ms p : List Int} {i b e : Nat} {t : Bool} (hb : b < e) (he : e ≤ p.length) (h : (i, t) ∈ spotsL ms p) :
    ∃ t', (i + (if t = true then p.length - e else b), t') ∈ spotsL ms (mv (seg p b (e - b))) ∧ (mv (seg p b (e - b)) ≠ mir (mv (seg p b (e - b))) → t' = t) := by
  obtain ⟨hi, h⟩ := mem_spots.mp h
  have hl : (mv (seg p b (e - b))).length = e - b := by rw [mv_length, seg_length _ _ _ (by omega)]
  rcases h with ⟨rfl, q⟩ | ⟨rfl, q, _⟩
  · refine ⟨false, mem_spots.mpr ⟨by rw [hl]; simp only [Bool.false_eq_true, if_false]; omega, .inl ⟨rfl, ?_⟩⟩, fun _ => rfl⟩
    rw [hl]
    simp only [if_false, Bool.false_eq_true]
    exact part_fwd q (by omega) he
  · have e1 := part_bwd (b := b) (e := e) q (by omega) he
    by_cases hs : mir (mv (seg p b (e - b))) = mv (seg p b (e - b))
    · refine ⟨false, mem_spots.mpr ⟨by rw [hl]; simp only [if_true]; omega, .inl ⟨rfl, ?_⟩⟩, fun z => absurd hs.symm z⟩
      rw [hl]
      simp only [if_true]
      rw [e1, hs]
    · refine ⟨true, mem_spots.mpr ⟨by rw [hl]; simp only [if_true]; omega, .inr ⟨rfl, ?_, hs⟩⟩, fun _ => rfl⟩
      rw [hl]
      simp only [if_true]
      exact e1
theorem part_numbers {ms p : List Int} {i b e : Nat} {t : Bool} (hb : b < e) (he : e ≤ p.length) (h : (i, t) ∈ spotsL ms p) :
    mv (seg ms (i + (if t = true then p.length - e else b)) (e - b)) = if t = true then mir (mv (seg p b (e - b))) else mv (seg p b (e - b)) := by
  obtain ⟨hi, h⟩ := mem_spots.mp h
  rcases h with ⟨rfl, q⟩ | ⟨rfl, q, _⟩
  · simp only [if_false, Bool.false_eq_true]
    exact part_fwd q (by omega) he
  · simp only [if_true]
    exact part_bwd q (by omega) he
/-- a place of a piece gives one of its part, if this is not the same both ways -/
theorem part_cand {mss : List (List Int)} {p : List Int} {b e : Nat} {c : Pl} (hb : b < e) (he : e ≤ p.length) (hs : mv (seg p b (e - b)) ≠ mir (mv (seg p b (e - b)))) (h : c ∈ candsL mss p) :
    partPl p.length b e c ∈ candsL mss (mv (seg p b (e - b))) := by
  obtain ⟨ms, h1, h2⟩ := mem_cands.mp h
  obtain ⟨t', h3, h4⟩ := part_spot hb he h2
  have e1 := h4 hs
  subst e1
  exact mem_cands.mpr ⟨ms, h1, h3⟩
theorem part_num {mss : List (List Int)} {size b e : Nat} {c : Pl} {k : Nat} (hb : b < e) (he : e ≤ size) (hk : k < e - b) : numAt mss (e - b) (partPl size b e c) k = numAt mss size c (b + k) := by
  unfold numAt partPl spotIx
  obtain ⟨n, i, t⟩ := c
  show (mss.getD n []).getD (i + (if t = true then size - e else b) + (if t = true then (e - b) - 1 - k else k)) 0 = (mss.getD n []).getD (i + (if t = true then size - 1 - (b + k) else b + k)) 0
  cases t with
  | true =>
    simp only [if_true]
    rw [show i + (size - e) + ((e - b) - 1 - k) = i + (size - 1 - (b + k)) by omega]
  | false =>
    simp only [if_false, Bool.false_eq_true]
    rw [show i + b + k = i + (b + k) by omega]
/-! ### good pieces -/
theorem good_mv_seg {ms : List Int} {a n : Nat} (g : ms.Pairwise (· < ·)) (h8 : ms.length ≤ 8) (h30 : ∀ m ∈ ms, m ≤ 30) (h0 : ∀ m ∈ ms, 0 ≤ m) (hn : 1 ≤ n) (ha : a + n ≤ ms.length) : GoodP (mv (seg ms a n)) := by
  have hl := seg_length ms a n ha
  have pw : (seg ms a n).Pairwise (· < ·) := by
    unfold seg
    exact List.Pairwise.sublist ((List.take_sublist _ _).trans (List.drop_sublist _ _)) g
  have mem : ∀ m ∈ seg ms a n, m ∈ ms := fun m hm => List.mem_of_mem_drop (List.mem_of_mem_take hm)
  refine ⟨by rw [mv_length, hl]; exact hn, by rw [mv_length, hl]; omega, ?_, ?_, ?_⟩
  · unfold mv
    cases e : seg ms a n with
    | nil => rw [e] at hl; simp at hl; omega
    | cons x r =>
      show some (x - x) = some 0
      rw [Int.sub_self]
  · unfold mv
    rw [List.pairwise_map]
    exact pw.imp fun h => by omega
  · intro m hm
    unfold mv at hm
    obtain ⟨y, hy, rfl⟩ := List.mem_map.mp hm
    cases e : seg ms a n with
    | nil => rw [e] at hl; simp at hl; omega
    | cons x r =>
      have hx : x ∈ ms := mem x (by rw [e]; exact List.mem_cons_self)
      have h1 := h30 y (mem y hy)
      have h2 := h0 x hx
      show y - x ≤ 30
      omega
theorem nonneg_of {ms : List Int} (h : ms.head? = some 0) (g : ms.Pairwise (· < ·)) : ∀ m ∈ ms, 0 ≤ m := by
  cases ms with
  | nil => intro m hm; cases hm
  | cons x r =>
    have e : x = 0 := Option.some.inj h
    subst e
    intro m hm
    rcases List.mem_cons.mp hm with rfl | later
    · exact Int.le_refl _
    · exact Int.le_of_lt (List.rel_of_pairwise_cons g later)
theorem GoodM.nonneg {ms : List Int} (g : GoodM ms) : ∀ m ∈ ms, 0 ≤ m := nonneg_of g.2.2.1 g.2.2.2.1
theorem GoodP.nonneg {ms : List Int} (g : GoodP ms) : ∀ m ∈ ms, 0 ≤ m := nonneg_of g.2.2.1 g.2.2.2.1
theorem GoodM.piece {ms : List Int} (g : GoodM ms) {a n : Nat} (hn : 1 ≤ n) (ha : a + n ≤ ms.length) : GoodP (mv (seg ms a n)) := good_mv_seg g.2.2.2.1 g.2.1 g.2.2.2.2 g.nonneg hn ha
theorem GoodP.piece {ms : List Int} (g : GoodP ms) {a n : Nat} (hn : 1 ≤ n) (ha : a + n ≤ ms.length) : GoodP (mv (seg ms a n)) := good_mv_seg g.2.2.2.1 g.2.1 g.2.2.2.2 g.nonneg hn ha
theorem GoodP.step {p : List Int} (g : p.Pairwise (· < ·)) {i : Nat} {x y : Int} (hx : p[i]? = some x) (hy : p[i + 1]? = some y) : x < y := by
  obtain ⟨low, rfl⟩ := List.getElem?_eq_some_iff.mp hx
  obtain ⟨high, rfl⟩ := List.getElem?_eq_some_iff.mp hy
  exact List.pairwise_iff_getElem.mp g i (i + 1) low high (Nat.lt_succ_self _)
/-- the piece has a place -/
theorem own_cand {mss : List (List Int)} {ms : List Int} {r a n : Nat} (hr : mss[r]? = some ms) (ha : a + n ≤ ms.length) : (r, a, false) ∈ candsL mss (mv (seg ms a n)) := by
  have hl : (mv (seg ms a n)).length = n := by rw [mv_length, seg_length _ _ _ ha]
  exact mem_cands.mpr ⟨ms, hr, mem_spots.mpr ⟨by rw [hl]; exact ha, .inl ⟨rfl, by rw [hl]⟩⟩⟩
/-- every place is on a ruler -/
def OnR (mss : List (List Int)) (size : Nat) (c : Pl) : Prop := ∃ ms, mss[c.1]? = some ms ∧ c.2.1 + size ≤ ms.length
theorem cand_on {mss : List (List Int)} {p : List Int} {c : Pl} (h : c ∈ candsL mss p) : OnR mss p.length c := by
  obtain ⟨ms, h1, h2⟩ := mem_cands.mp h
  exact ⟨ms, h1, (mem_spots.mp h2).1⟩
theorem spotAt_len (ms p : List Int) (i : Nat) (hm : 1 ≤ p.length) : (spotAt ms p i).length ≤ 1 := by
  unfold spotAt
  by_cases h1 : mv (seg ms i p.length) = p
  · rw [if_pos h1]
    by_cases h2 : mv (seg ms i p.length) = mir p ∧ mir p ≠ p
    · exact absurd (h2.1.symm.trans h1) h2.2
    · rw [if_neg h2]
      exact Nat.le_refl _
  · rw [if_neg h1]
    split <;> simp
theorem flat_len {f : Nat → List (Nat × Bool)} (h : ∀ i, (f i).length ≤ 1) : ∀ l : List Nat, (l.flatMap f).length ≤ l.length
  | [] => Nat.le_refl _
  | x :: r => by
    rw [List.flatMap_cons, List.length_append, List.length_cons]
    have h1 := h x
    have h2 := flat_len h r
    omega
theorem spots_len (ms p : List Int) (hm : 1 ≤ p.length) : (spotsL ms p).length ≤ ms.length := by
  have h := flat_len (f := spotAt ms p) (fun i => spotAt_len ms p i hm) (List.range (ms.length + 1 - p.length))
  rw [List.length_range] at h
  unfold spotsL
  omega
theorem candsFrom_len {p : List Int} (hm : 1 ≤ p.length) : ∀ (mss : List (List Int)) (n : Nat), (∀ ms ∈ mss, ms.length ≤ 8) → (candsFrom p n mss).length ≤ 8 * mss.length
  | [], _, _ => Nat.le_refl _
  | ms :: r, n, h => by
    unfold candsFrom candsAt
    rw [List.length_append, List.length_map, List.length_cons]
    have h1 := spots_len ms p hm
    have h2 := h ms List.mem_cons_self
    have h3 := candsFrom_len hm r (n + 1) fun m q => h m (List.mem_cons_of_mem _ q)
    omega
theorem cands_len {mss : List (List Int)} {p : List Int} (hm : 1 ≤ p.length) (h : ∀ ms ∈ mss, ms.length ≤ 8) (h4 : mss.length ≤ 4) : (candsL mss p).length ≤ 32 := by
  have := candsFrom_len hm mss 0 h
  unfold candsL
  omega
end K84
set_option maxHeartbeats 8000000
/-! Rules that this law wants beside the layer's own: a tuple asked for an item, len of a slotted instance, enumerate of a tuple, a set made of a list, a tuple turned round. -/
namespace K84R
open PySem PySem.Spec PyProof.Rows L2

/-! ### x in t, x not in t: t a tuple of data -/
section
variable {X : Cx}
def wInT (K : PySem.W.Frag) (neg : Bool) : R2 := fun x y H Q =>
  ∃ (d : PyData) (ds : List PyData), Dp K H x d ∧ Dp K H y (.tuple ds) ∧ SeqAt.shaped d = true ∧ SeqAt.shaped (.tuple ds) = true ∧
    Q (.bl (if neg = true then !(ds.any fun z => PyData.eqv z d) else ds.any fun z => PyData.eqv z d)) H
theorem inT (room : X.A.units + 65 < cLine) : OpR X (compareOp .In) (wInT X.K false) := by
  intro pins s σ H x y v u Q I rx ry ⟨d, ds, hx, hy, sx, sy, q⟩
  obtain ⟨as1, rd1⟩ := Dp.reads I d x v hx rx
  obtain ⟨as2, rd2⟩ := Dp.reads I (.tuple ds) y u hy ry
  refine SeqAt.in_tuple_reads rd2 rd1 (SeqAt.canLay_of_shaped sy) (SeqAt.canLay_of_shaped sx) (room_in_shaped sx room) ?_
  exact ⟨.bl _, H, I, rfl, q⟩
theorem notInT (room : X.A.units + 65 < cLine) : OpR X (compareOp .NotIn) (wInT X.K true) := by
  intro pins s σ H x y v u Q I rx ry ⟨d, ds, hx, hy, sx, sy, q⟩
  obtain ⟨as1, rd1⟩ := Dp.reads I d x v hx rx
  obtain ⟨as2, rd2⟩ := Dp.reads I (.tuple ds) y u hy ry
  refine SeqAt.notIn_tuple_reads rd2 rd1 (SeqAt.canLay_of_shaped sy) (SeqAt.canLay_of_shaped sx) (room_in_shaped sx room) ?_
  exact ⟨.bl _, H, I, rfl, q⟩
end

/-! ### len(o), o a slotted instance whose class has a def __len__ -/
section
variable {X : Cx} {CX : CXT} {C g : Addr} {n : Nat} {sp : Sp} {E : XK}
def wLen (C : Addr) (sp : Sp) (E : XK) : List V → Hp → VK → Prop := fun xs H Q =>
  ∃ (a dx : Addr) (vs : List (Option V)), xs = [V.ref a] ∧ SlX.Slt H a C dx vs ∧ sp [.ref a] H (fun z H' => ∃ k : Nat, z = .int k ∧ k < 1000 ∧ Q (.int k) H') E
theorem lenOwn (hs : PySem.W.findIn X.K (.ref C) "__len__" = some (some (.ref g))) (hf : PySem.W.isFn X.K (.ref g) = true) (F : FnR X.prog X.w X.K X.mg X.base CX n g sp) (hr : Room (n + 1) X.A) (hx : Passes CX X E) :
    CallR X (.builtin "len") (wLen C sp E) := by
  intro pins s σ H xs us Q I r ⟨a, dx, vs, ex, hsl, q⟩
  subst ex
  obtain ⟨arg, rfl, isRef⟩ := r.one
  obtain rfl : arg = Value.ref a := isRef
  obtain ⟨_, od, _, J, _⟩ := SlX.slt_inst I hsl
  obtain ⟨m, hF⟩ := I.fr
  have run := SlX.run_at (us := [.ref a]) (ws := [.ref a]) F (Room.in1 hr) I.env0.in1 hx I (.cons rfl .nil) q
  refine PySem.W.len_K hF I.ok.mod.kin J hs hf (wpAny_mono (wpAny_call run) (fun y s' z => ?_) fun _ _ e => e)
  obtain ⟨z', H', I', rz, k, ez, hk, qz⟩ := z
  subst ez
  obtain ⟨t, e⟩ := (show ∃ t, y = Value.int (k : Int) t from rz)
  subst e
  exact ⟨⟨by omega, by omega⟩, .int k, H', I'.tok _, ⟨_, rfl⟩, qz⟩
end

/-! ### for i, x in enumerate(t), t a tuple -/
/-- the tuple at a, each item in a new pair -/
def ItEn (K : PySem.W.Frag) (a : Addr) : It where
  go i H := ∃ (xs : List V) (x : V), SqT K H a xs ∧ xs[i]? = some x
  yld i H v H' := ∃ (T : Addr) (x : V), v = .ref T ∧ H T = none ∧ H' = upd H T (.tup [.int (i : Nat), x]) ∧ ∀ xs, SqT K H a xs → xs[i]? = some x
  stop i H := ∃ xs : List V, SqT K H a xs ∧ xs.length = i
theorem apart_of {h : Heap} {a it : Addr} {items : Array Value} {i : Nat} (p : h.IsTuple a items) (q : h.IsTupleIter it a i) : a ≠ it := by
  intro e
  obtain ⟨o1, g1, c1, _⟩ := p
  obtain ⟨o2, g2, c2, _⟩ := q
  rw [e, g2] at g1
  cases g1
  rw [c2] at c1
  exact absurd c1 (by decide)
theorem turn_en {P : Program} {w : World} {K : PySem.W.Frag} {elts : List Expr} {kk : Nat} {tpos : Pos} (a e it : Addr) :
    Turn P w K (.Tuple elts kk tpos) (ItEn K a) [e, it] e (fun i h => (∃ old, IsEnum h e it ((i : Nat) : Int) old) ∧ h.IsTupleIter it a i ∧ e ≠ it ∧ e ≠ a) where
  mem := List.mem_cons_self
  obj := by
    intro i h ⟨⟨old, g⟩, ⟨o, ho, _, hd⟩, _⟩ b hb
    rcases List.mem_cons.mp hb with rfl | inner
    · exact ⟨_, g, fun v z => by cases z⟩
    · cases List.mem_singleton.mp inner
      exact ⟨o, ho, fun v z => by rw [hd] at z; cases z⟩
  keep := by
    intro i h h' ⟨⟨old, g⟩, ti, n1, n2⟩ k
    exact ⟨⟨old, k e List.mem_cons_self _ g⟩, ti.at fun o z => k it (List.mem_cons_of_mem _ List.mem_cons_self) o z, n1, n2⟩
  item := by
    intro X hP hw hK hc i pins s σ H E I hf ⟨⟨old, g⟩, ti, n1, n2⟩ ⟨xs, x, hq, hx⟩
    subst hP hw hK
    obtain ⟨its, rv, isT, _⟩ := I.tuple hq
    have p' : s.heap.IsTuple a its.toArray := isT
    obtain ⟨u, hu, isX⟩ := rv.get hx
    have nai : a ≠ it := apart_of p' ti
    have le : e < s.heap.objs.size := Heap.lt_size g
    have li : it < s.heap.objs.size := by obtain ⟨_, z, _⟩ := ti; exact Heap.lt_size z
    have hh : X.A.in1.handled = none := by simp [I.ok.hd hc]
    have hlt : i < its.toArray.size := by
      have := (List.getElem?_eq_some_iff.mp hu).1
      simpa using this
    refine wpAny_pyNext_enum_itemD (Draws.tuple hh it a nai its.toArray) g ⟨ti, p'⟩ hlt n1 (by simp [n1, n2]) fun y h' tk hy ho hst hT hsz hk => ?_
    have eu : y = u := by
      have e1 : its[i]? = some y := by simpa using hy
      exact Option.some.inj (e1.symm.trans hu)
    subst eu
    refine ⟨_, rfl, wpAny_letOwnedTupleGo_enum (s := { s with heap := h', toks := tk + 1 }) ho fun h'' he' sb => ?_⟩
    have hT2 : h''.get? s.heap.objs.size = some { cls := .type "tuple", data := .seq #[.int i tk, y] } := (sb.2 _ (Nat.ne_of_gt le)).trans hT
    have new : ObjOk X.prog X.w (upd H s.heap.objs.size (.tup [.int (i : Nat), x])) h'' s.heap.objs.size (.tup [.int (i : Nat), x]) := by
      refine ⟨show 2 ≤ sizeLine from by decide, [.int i tk, y], ?_, _, hT2, rfl, _, rfl⟩
      exact .cons ⟨_, rfl⟩ (.cons isX .nil)
    have I1 : Inv X pins σ (upd H s.heap.objs.size (.tup [.int (i : Nat), x])) { s with heap := h'', toks := tk + 1 } := by
      refine I.turnedNew (ch := [e, it]) (fun b ob hb q => ?_) hf (Nat.le_refl _) new
      have b1 : b ≠ e := fun z => hb (by rw [z]; exact List.mem_cons_self)
      have b2 : b ≠ it := fun z => hb (by rw [z]; exact List.mem_cons_of_mem _ List.mem_cons_self)
      exact (sb.2 b b1).trans (hk b ob b1 b2 q)
    refine ⟨.ref s.heap.objs.size, _, I1, rfl, ⟨_, x, rfl, I.hok.fresh (Nat.le_refl _), rfl, fun ys hy => ?_⟩, ⟨⟨y, ?_⟩, ?_, n1, n2⟩, fun b hb => ?_⟩
    · rw [I.tuple_inj hy hq]
      exact hx
    · rw [show ((i + 1 : Nat) : Int) = (i : Int) + 1 from by omega]
      exact he'
    · exact hst.1.at fun o q => (sb.2 it (Ne.symm n1)).trans q
    · have below : b < s.heap.objs.size := (List.mem_cons.mp hb).elim (fun z => by rw [z]; exact le) fun z => by rw [List.mem_singleton.mp z]; exact li
      rw [upd_ne (Nat.ne_of_lt below)]
      exact (hf b hb).1
  done := by
    intro X hP hw hK hc i pins s σ H E I hf ⟨⟨old, g⟩, ti, n1, n2⟩ ⟨xs, hq, hx⟩
    subst hP hw hK
    obtain ⟨its, rv, isT, _⟩ := I.tuple hq
    have p' : s.heap.IsTuple a its.toArray := isT
    have nai : a ≠ it := apart_of p' ti
    have li : it < s.heap.objs.size := by obtain ⟨_, z, _⟩ := ti; exact Heap.lt_size z
    have hh : X.A.in1.handled = none := by simp [I.ok.hd hc]
    have hl := rv.length
    have hsz : its.toArray.size = i := by simp; omega
    obtain ⟨f0, f1, f2, f3, f4, f5⟩ := hf it (List.mem_cons_of_mem _ List.mem_cons_self)
    refine wpAny_pyNext_enum_endD (Draws.tuple hh it a nai its.toArray) g ⟨by rw [hsz]; exact ti, p'⟩ fun h' eb => ⟨rfl, ?_⟩
    exact I.turned (t' := s.toks) (fun b o hb q => eb b o hb q) f0 f1 f3 f4 f5
  self := fun A i s Q E ⟨⟨_, g⟩, _⟩ h => wpAny_pyIter_enum g h
theorem newEn (t : Addr) (items : Array Value) (n : Nat) (dct : Option Addr) (sl : Array (Option Value)) :
    Meets (Builtin.«enumerate.__new__» ⟨[.type "enumerate", .ref t], []⟩) (fun _ R s =>
      s.heap.get? t = some { cls := .type "tuple", dict := dct, data := .seq items n, slots := sl } ∧
      R (.ok (.ret (.ref (s.heap.push { cls := .type "tuple_iterator", data := .fields #[.ref t, .int 0 0] }).objs.size)))
        { s with heap := (s.heap.push { cls := .type "tuple_iterator", data := .fields #[.ref t, .int 0 0] }).push { cls := .type "enumerate", data := .fields #[.none, .bool false, .ref s.heap.objs.size, rawInt 0, .none, .none] } }) :=
  .of_wp fun prog w A R s ⟨ht, h⟩ => by
    obtain ⟨heap0, gens0, drawn0, toks0, os0⟩ := s
    have own := sub_enumerate
    have it : Heap.IsTuple (Shared.heap ⟨heap0, gens0, drawn0, toks0, os0⟩) t items := ⟨_, ht, rfl, n, rfl⟩
    wp_walk using AutoSeq1.wpAny_loadPart' ht
    refine wpAny_stack_any fun around => wpAny_pure ?_
    split
    · rename_i cls _ _ _ _ _
      cases (cls == Value.type "enumerate")
      · wp_walk using AutoSeq1.wpAny_loadPart' ht, wpAny_pyIter_tuple it
        exact ⟨_, rfl, h⟩
      · wp_walk using AutoSeq1.wpAny_loadPart' ht, wpAny_pyIter_tuple it
        exact ⟨_, rfl, h⟩
    · wp_walk using AutoSeq1.wpAny_loadPart' ht, wpAny_pyIter_tuple it
      exact ⟨_, rfl, h⟩
theorem callEn {prog : Program} {w : World} {A : Around} {E : Value → Shared → Prop} {s : Shared} {t : Addr} {items : Array Value} {Q : Value → Shared → Prop} (ht : s.heap.IsTuple t items)
    (h : ∀ h2, IsEnum h2 (s.heap.objs.size + 1) s.heap.objs.size 0 .none → h2.IsTupleIter s.heap.objs.size t 0 → h2.objs.size = s.heap.objs.size + 2 →
      (∀ c o, s.heap.get? c = some o → h2.get? c = some o) → Q (.ref (s.heap.objs.size + 1)) { s with heap := h2 }) :
    wpAny (model prog w) A (call (.type "enumerate") [.ref t]) Q E s := by
  obtain ⟨⟨c, dct, dt, sl⟩, hl, hc, n, hd⟩ := ht
  obtain rfl : c = .type "tuple" := hc
  obtain rfl : dt = .seq items n := hd
  have start := newEn t items n dct sl
  refine callType_new F.called_enumerate (by decide) (F.typeCall_enumerate_1 _) (F.newCall_enumerate_1 _) (fun obj => F.args_object_init_2 obj _) F.entry_enumerate_new start ⟨hl, ?_⟩
  generalize hI : ({ cls := .type "tuple_iterator", data := .fields #[.ref t, .int 0 0] } : Obj) = oI
  have fI : oI.isFreed = false := by rw [← hI]; rfl
  have hz : (s.heap.push oI).objs.size = s.heap.objs.size + 1 := Heap.size_push ..
  show _ ∧ _
  rw [hz]
  have g1 : ((s.heap.push oI).push { cls := .type "enumerate", data := .fields #[.none, .bool false, .ref s.heap.objs.size, rawInt 0, .none, .none] }).get? (s.heap.objs.size + 1)
      = some { cls := .type "enumerate", data := .fields #[.none, .bool false, .ref s.heap.objs.size, rawInt 0, .none, .none] } := by
    rw [← hz]; exact Heap.get?_push_size _ rfl
  have g0 : (s.heap.push oI).get? s.heap.objs.size = some oI := Heap.get?_push_size _ fI
  refine ⟨⟨_, g1, rfl⟩, h _ g1 ⟨oI, Heap.get?_push_of_some _ g0, by rw [← hI], by rw [← hI]; rfl⟩ (by rw [Heap.size_push, hz]) fun b o z => ?_⟩
  exact Heap.get?_push_of_some _ (Heap.get?_push_of_some _ z)
def wEn (K : PySem.W.Frag) (ta : TA) : TI := fun σ H R => ta σ H fun vs H1 => ∃ (a : Addr) (xs : List V), vs = [.ref a] ∧ SqT K H1 a xs ∧ R (ItEn K a) H1
theorem pi_en {X : Cx} {e : Expr} {ta : TA} {p pos tpos : Pos} {elts : List Expr} {kk : Nat} (hg : Gl X "enumerate") (hm : X.mg "enumerate" = none) (ha : PA X [e] ta) (hs : starEach [e] X.env = [(false, eval e X.env)] := by rfl) :
    PI X (.Tuple elts kk tpos) (.Call (.Name "enumerate" p) [e] [] pos) (wEn X.K ta) := by
  refine ⟨fun pins s σ H R I h => Call_ (ld_blt I hg hm boot_enumerate (PyProof.Rows.callWith_type1 (thn (ha.run pos pins s σ H _ I h) fun us s1 hq => ?_) hs rfl))⟩
  obtain ⟨vs, H1, I1, r1, a, xs, ev, hx, q⟩ := hq
  subst ev
  obtain ⟨arg, rfl, isRef⟩ := r1.one
  obtain rfl : arg = Value.ref a := isRef
  obtain ⟨its, rv, p', _⟩ := I1.tuple hx
  have p2 : s1.heap.IsTuple a its.toArray := p'
  refine callEn p2 fun h2 he hit _ keep => wpAny_pyIter_enum he ?_
  have I2 : Inv X pins σ H1 { s1 with heap := h2 } := I1.kept (t' := s1.toks) keep
  have la : a < s1.heap.objs.size := p'.lt
  refine ⟨s1.heap.objs.size + 1, [s1.heap.objs.size + 1, s1.heap.objs.size], _, _, H1, rfl, I2, turn_en a (s1.heap.objs.size + 1) s1.heap.objs.size, ⟨⟨.none, he⟩, hit, Nat.succ_ne_self _, ?_⟩, fun b hb => ?_, q⟩
  · exact Nat.ne_of_gt (Nat.lt_succ_of_lt la)
  · have above : s1.heap.objs.size ≤ b := (List.mem_cons.mp hb).elim (fun z => by rw [z]; exact Nat.le_succ _) fun z => by rw [List.mem_singleton.mp z]; exact Nat.le_refl _
    exact I1.fpOk above (I1.hok.fresh above)
/-- the loop over enumerate of a tuple by its invariant; the turn begins with a new pair at T -/
theorem for_en {K : PySem.W.Frag} {a : Addr} {xs : List V} {g : TG} {tb : TS} {D : Ends} {σ : L2.St} {H : Hp} (Pv : Nat → L2.St → Hp → Prop) (h0 : Pv 0 σ H) (hl : ∀ i σ H, i ≤ xs.length → Pv i σ H → SqT K H a xs)
    (hs : ∀ (i : Nat) (x : V) (T : Addr) (σ : L2.St) (H : Hp), xs[i]? = some x → Pv i σ H → H T = none → g (.ref T) σ (upd H T (.tup [.int (i : Nat), x])) fun σ2 H2 => tb { D with nx := Pv (i + 1), ct := Pv (i + 1), bk := D.nx } σ2 H2)
    (hd : ∀ σ H, Pv xs.length σ H → D.nx σ H) :
    ∃ W : Nat → Nat → L2.St → Hp → Prop, (∃ m, W 0 m σ H) ∧ ∀ i m σ H, W i m σ H → ((ItEn K a).stop i H ∧ D.nx σ H) ∨ ((ItEn K a).go i H ∧ ∃ N : L2.St → Hp → Prop, (∀ σ' H', N σ' H' → ∃ m', m' < m ∧ W (i + 1) m' σ' H') ∧ ∀ x H', (ItEn K a).yld i H x H' → g x σ H' fun σ2 H2 => tb { D with nx := N, ct := N, bk := D.nx } σ2 H2) := by
  refine ⟨fun i m σ H => i + m = xs.length ∧ Pv i σ H, ⟨xs.length, Nat.zero_add _, h0⟩, fun i m σ H ⟨em, pv⟩ => ?_⟩
  have q := hl i σ H (by omega) pv
  by_cases hi : i < xs.length
  · refine .inr ⟨⟨xs, xs[i], q, List.getElem?_eq_getElem hi⟩, Pv (i + 1), fun σ' H' z => ⟨m - 1, by omega, by omega, z⟩, fun v H' y => ?_⟩
    obtain ⟨T, x, rfl, nT, rfl, fx⟩ := y
    exact hs i x T σ H (fx xs q) pv nT
  · obtain rfl : i = xs.length := by omega
    exact .inl ⟨⟨xs, q, rfl⟩, hd σ H pv⟩

/-! ### t[::-1], t a tuple -/
section
variable {prog : Program} {w : World} {A : Around} {E : Value → Shared → Prop} {s : Shared}
theorem back_bounds (n : Nat) : Builtin.Slice.sliceAdjust none none (-1) (n : Int) = ((n : Int) - 1, -1) := rfl
theorem back_places (n : Nat) : Builtin.Slice.slicePlaces ((n : Int) - 1) (-1) (-1) = n := by
  unfold Builtin.Slice.slicePlaces; rw [if_neg (by decide)]
  by_cases some_there : (n : Int) - 1 > -1
  · rw [if_pos some_there, show (-(-1 : Int)) = 1 from rfl, Int.ediv_one]
    omega
  · rw [if_neg some_there]
    show 0 = n
    omega
theorem pick_all (f : Nat → Option Value) (ys : List Value) (h : ∀ m, m < ys.length → f m = ys[m]?) : ∀ n, n ≤ ys.length → (List.range n).filterMap f = ys.take n
  | 0, _ => rfl
  | n + 1, hn => by
    rw [List.range_succ, List.filterMap_append, pick_all f ys h n (by omega), List.take_add_one]
    congr 1
    rw [← h n (by omega)]
    cases e : f n with
    | none => simp [e]
    | some y => simp [e]
theorem back_pick (xs : List Value) : ((List.range xs.length).filterMap fun (m : Nat) => xs.toArray[((xs.length : Int) - 1 + (m : Int) * (-1)).toNat]?) = xs.reverse := by
  have h := pick_all (fun (m : Nat) => xs.toArray[((xs.length : Int) - 1 + (m : Int) * (-1)).toNat]?) xs.reverse (fun m hm => ?_) xs.length (by simp)
  · rw [h, List.take_of_length_le (by simp)]
  · rw [List.length_reverse] at hm
    show xs.toArray[((xs.length : Int) - 1 + (m : Int) * (-1)).toNat]? = xs.reverse[m]?
    rw [List.getElem?_toArray, List.getElem?_reverse hm, show ((xs.length : Int) - 1 + (m : Int) * (-1)).toNat = xs.length - 1 - m by omega]
theorem back_applied {sl : Addr} {n : Nat} {t : Tok} {Q : Int × Int × Nat → Shared → Prop} (hs : s.heap.IsSliceOf sl .none .none (.int (-1) t)) (h : Q ((n : Int) - 1, -1, n) s) : wpAny (model prog w) A (Builtin.Slice.sliceApplied (.ref sl) (pure (n : Int))) Q E s := by
  obtain ⟨ob, hos, _, hds⟩ := id hs
  unfold Builtin.Slice.sliceApplied; unfold Builtin.Slice.sliceFields
  refine wpAny_bind (wpAny_bind (wpAny_field hos hds (x := .none) rfl ?_))
  refine wpAny_bind (wpAny_field hos hds (x := .none) rfl ?_)
  refine wpAny_bind (wpAny_field hos hds (x := .int (-1) t) rfl (wpAny_pure ?_))
  refine wpAny_bind (HT.slicePart_ (.int (-1) t) ?_)
  show wpAny _ _ (if ((-1 : Int) == 0) = true then _ else _) _ _ s
  rw [if_neg (by decide)]
  refine wpAny_bind (HT.slicePart_ .none (wpAny_bind (HT.slicePart_ .none (wpAny_bind (wpAny_pure ?_)))))
  show wpAny _ _ (match Builtin.Slice.sliceAdjust none none (-1) (n : Int) with | (lo, hi) => pure (lo, (-1 : Int), Builtin.Slice.slicePlaces lo hi (-1))) _ _ s
  rw [back_bounds]
  show wpAny _ _ (pure ((n : Int) - 1, (-1 : Int), Builtin.Slice.slicePlaces ((n : Int) - 1) (-1) (-1))) _ _ s
  rw [back_places]
  exact wpAny_pure h
theorem back_item {t sl : Addr} {xs : List Value} {k : Tok} {Q : Value → Shared → Prop} (ht : IsTup s.heap t xs.toArray) (hs : s.heap.IsSliceOf sl .none .none (.int (-1) k)) (hsz : xs.length ≤ sizeLine)
    (h : Q (.ref s.heap.objs.size) { s with heap := s.heap.push { cls := .type "tuple", data := .seq xs.reverse.toArray } }) :
    wpAny (model prog w) A (getItem (.ref t) (.ref sl)) Q E s := by
  have fits : sizeOk (.seq xs.reverse.toArray) := by
    show xs.reverse.toArray.size ≤ sizeLine
    simpa using hsz
  have ts : s.TypeIs (.ref sl) "slice" := by obtain ⟨ob, hos, hcs, _⟩ := hs; exact ⟨ob, hos, hcs⟩
  unfold getItem
  (try with_reducible refine wpAny_holding ?_); (try refine wpAny_bind (wpAny_pure ?_))
  have sg := PyProof.Rows.slot_tuple_getitem
  refine wpAny_bind (wpAny_sequenceKey ht.typeIs (by decide) (wpAny_bind (wpAny_callSpecial?_slot (name := Str.ofString "__getitem__") ht.typeIs sg (wpAny_call_entry sg ht.typeIs entry_tuple_getitem ?_ (args_tuple_getitem _ _)))))
  show wpAny _ _ ((Builtin.Tuple.tupleItemsOf (.ref t)) >>= _) _ _ s
  refine wpAny_bind (tupleItemsOf_ ht (wpAny_bind (wpAny_typeOf ts ?_)))
  rw [if_pos (by decide)]
  have e1 : ((xs.toArray.size : Nat) : Int) = (xs.length : Int) := by simp
  refine wpAny_bind (back_applied (n := xs.toArray.size) hs ?_)
  have hno : ¬ ((((xs.toArray.size : Nat) : Int) - 1 == 0 && (-1 : Int) == 1 && xs.toArray.size == xs.toArray.size) = true) := by
    rw [show ((-1 : Int) == 1) = false from rfl, Bool.and_false, Bool.false_and]
    exact Bool.false_ne_true
  show wpAny _ _ (if (((xs.toArray.size : Nat) : Int) - 1 == 0 && (-1 : Int) == 1 && xs.toArray.size == xs.toArray.size) = true then _ else _) _ _ s
  rw [if_neg hno, List.size_toArray, back_pick]
  first
    | exact wpAny_bind (m := Builtin.Tuple.tupleExact _) (wpAny_newObj_type (wpAny_pure ⟨_, rfl, wpAny_pure h⟩) fits)
    | exact wpAny_bind (m := Builtin.Tuple.tupleExact _) (wpAny_newObj_type (wpAny_bind (wpAny_pure (wpAny_pure ⟨_, rfl, wpAny_pure h⟩))) fits)
    | exact wpAny_bind (wpAny_bind (m := Builtin.Tuple.tupleExact _) (wpAny_newObj_type (wpAny_pure (wpAny_pure ⟨_, rfl, wpAny_pure h⟩)) fits))
    | exact wpAny_bind (wpAny_bind (m := Builtin.Tuple.tupleExact _) (wpAny_newObj_type (wpAny_pure ⟨_, rfl, wpAny_pure h⟩) fits))
end
section
variable {X : Cx}
def wBack (K : PySem.W.Frag) (te : TE) : TE := fun σ H Q => te σ H fun x H1 => ∃ (a : Addr) (xs : List V), x = .ref a ∧ SqT K H1 a xs ∧ ∀ p, H1 p = none → Q (.ref p) (upd H1 p (.tup xs.reverse))
theorem pe_back {e : Expr} {te : TE} {k : Nat} {p1 p2 p3 pos : Pos} (he : PE X e te) : PE X (.Subscript e (.Slice none none (some (.UnaryOp .USub (.Constant (.int 1) k p1) p2)) p3) pos) (wBack X.K te) := by
  refine ⟨fun pins s σ H Q I h => Subscript_ (thn (he.run pins s σ H _ I h) fun v s1 ⟨x, H1, I1, r1, a, xs, ex, hx, q⟩ => ?_)⟩
  subst ex
  cases (show v = Value.ref a from r1)
  have stp : PO X (some (.UnaryOp .USub (.Constant (.int 1) k p1) p2)) (tPart (tUn (rU fun i => .int (-i)) (tC (.int 1)))) := po_some (pe_un un_neg pe_int)
  have bare : ∀ {pp : List (Addr × Obj)} {ss : Shared} {HH : Hp}, Inv X pp σ HH ss → _ := fun {pp ss HH} II => po_none.run pp ss σ HH (fun part Hn => part = none ∧ Hn = HH) II ⟨rfl, rfl⟩
  refine wpAny_Slice (thn (bare I1) fun vl s2 ⟨l, H2, I2, pl, el, e2⟩ => ?_)
  subst el e2
  refine thn (bare I2) fun vu s3 ⟨u, H3, I3, pu, eu, e3⟩ => ?_
  subst eu e3
  refine thn (stp.run pins s3 σ H3 (fun o H4 => o = some (-1) ∧ H4 = H3) I3 ⟨1, rfl, -1, rfl, rfl, rfl⟩) fun vs s4 ⟨o, H4, I4, ps, eo, e4⟩ => ?_
  subst eo e4
  cases pl
  cases pu
  cases ps with
  | int i t =>
  generalize hS : ({ cls := .type "slice", data := .fields #[.none, .none, .int (-1) t] } : Obj) = oS
  have I5 : Inv X pins σ H4 { s4 with heap := s4.heap.push oS } := I4.kept (t' := s4.toks) fun b ob q => Heap.get?_push_of_some _ q
  obtain ⟨its, r, ht, hz⟩ := I5.tuple hx
  have hlen := r.length
  show wpAny (model X.prog X.w) X.A (subscriptTail e (.Slice none none (some (.UnaryOp .USub (.Constant (.int 1) k p1) p2)) p3) (.ref a) (.ref s4.heap.objs.size)) (EP X pins σ Q) X.xe { s4 with heap := s4.heap.push oS }
  refine tail_any (ops := [.ref a, .ref s4.heap.objs.size]) ht.typeIs PyProof.Rows.slot_tuple_getitem.lookup ?_ (by with_unfolding_all rfl)
  subst hS
  refine back_item ht (Heap.IsSliceOf.new ..) (by rw [← hlen]; exact hz) ?_
  refine ⟨.ref _, _, I5.laid (t' := s4.toks) (o := .tup xs.reverse) (fun b ob q => Heap.get?_push_of_some _ q) (Nat.le_refl _) ?_, rfl, q _ (I5.hok.fresh (Nat.le_refl _))⟩
  exact ⟨by rw [List.length_reverse]; exact hz, _, r.reverse, IsTup.new _ _⟩
end

/-! ### set(xs), xs a list of ints -/
section
variable {P : Program} {w : World} {E : Value → Shared → Prop} {s : Shared} {A : Around}
abbrev bareSet (w : World) : Obj := { cls := .type "set", dict := none, data := .set #[] 0 (.fresh 0 0 (!w.params.followText "set-order")) }
/-- what the set's making leaves: nothing that stood is touched, the members are those of ns -/
def SetMade (w : World) (s : Shared) (ns : List Int) (s2 : Shared) : Prop :=
  ∃ (hp : Heap) (tk c : Nat), s2 = { s with heap := hp, toks := tk } ∧ SetR w hp s.heap.objs.size (fun j => decide (j ∈ ns)) c ∧ c ≤ ns.length ∧ ∀ b o, s.heap.get? b = some o → hp.get? b = some o
theorem setOfList {l : Addr} {items : Array Value} (ns : List Int) {Q : Value → Shared → Prop} (hh : A.handled = none) (hl : s.heap.IsList l items) (hit : IntsAre items.toList ns) (hb : ns.length + 1 < scanBound)
    (h : ∀ s2, SetMade w s ns s2 → Q (.ref s.heap.objs.size) s2) : wpAny (model P w) A (call (.type "set") [.ref l]) Q E s := by
  have size : items.size = ns.length := by
    have q := IntsAre.length hit
    simpa using q
  obtain ⟨first, rest, order⟩ := F.called_set.mro
  have f1 := F.called_set.made
  have f2 := F.called_set.sub
  have f3 := F.called_set.notType
  have f4 := F.called_set.canCreate
  have f5 := F.typeCall_set_1 (.ref l)
  refine wpAny_call (codeAny_of_tree (show wpAny _ _ (callAny (.type "set") _) _ _ _ from ?_))
  refine wpAny_pure ⟨Code.quiet_builtin _ (by decide +kernel), ?_⟩
  refine codeAny_builtin F.entry_type_call ?_
  rw [Around.under_plain (weight_type_call_type "set" [.ref l] ([] : List (Str × Value))) rfl]
  repeat any_goals (first | assumption | wp_step)
  -- the bare set
  refine codeAny_mono (code_set_led1 (.ref l) (E := E) (Q₁ := fun obj s₁ => obj = .ref s.heap.objs.size ∧ s₁ = { s with heap := s.heap.push (bareSet w) }) ⟨rfl, rfl⟩) fun r s₁ hr => ?_
  cases r with
  | error e => exact hr
  | ok fl =>
    cases fl with
    | next => exact hr.elim
    | brk => exact hr.elim
    | cont => exact hr.elim
    | ret obj =>
      obtain ⟨rfl, rfl⟩ := hr
      have gS : (s.heap.push (bareSet w)).get? s.heap.objs.size = some (bareSet w) := Heap.get?_push_size _ rfl
      have tS : Shared.TypeIs { s with heap := s.heap.push (bareSet w) } (.ref s.heap.objs.size) "set" := ⟨_, gS, rfl⟩
      have f6 := F.called_set.init.lookup
      have f7 := F.called_set.init.bind (.ref s.heap.objs.size)
      repeat any_goals (first | assumption | wp_step)
      -- its filling
      refine codeAny_mono (codeAny_call_builtin (R := wants (fun r s₂ => r = .none ∧ SetMade w s ns s₂) E) F.called_set.init.plain F.entry_set_init (check_set_init_1 tS ?_)) fun r₂ s₂ hr₂ => ?_
      · obtain ⟨⟨ocls, odict, odata, oslots⟩, hol, hcl, nl, hdl⟩ := hl
        obtain rfl : ocls = .type "list" := hcl
        obtain rfl : odata = .seq items nl := hdl
        have gL : (s.heap.push (bareSet w)).get? l = some { cls := .type "list", dict := odict, data := .seq items nl, slots := oslots } := Heap.get?_push_of_some _ hol
        have f8 := F.sub_list_set
        have f9 := F.sub_list_frozenset
        have f10 : (Value.type "list" == Value.type "dict") = false := by decide
        have isL : (s.heap.push (bareSet w)).IsList l items := ⟨_, gL, rfl, nl, rfl⟩
        unfold Builtin.«set.__init__» Builtin.Frozenset.updateFrom noKeywords
        generalize hPI : pyIter = PI
        wp_walk
        subst hPI
        refine wpAny_pyIter_list isL (wpAny_bind (wpAny_runValue ?_))
        have ll : l < s.heap.objs.size := Heap.lt_size hol
        have calm : A.in1.in1.in1.handled = none := by simp [hh]
        have z1 : (s.heap.push (bareSet w)).objs.size = s.heap.objs.size + 1 := Heap.size_push ..
        have nI : l ≠ (s.heap.push (bareSet w)).objs.size := by
          rw [z1]; exact Nat.ne_of_lt (Nat.lt_succ_of_lt ll)
        have nS : s.heap.objs.size ∉ [(s.heap.push (bareSet w)).objs.size, l] := by
          rw [z1]
          exact fun hm => (List.mem_cons.mp hm).elim (fun q => Nat.ne_of_lt (Nat.lt_succ_self _) q) fun q => Nat.ne_of_gt ll (List.mem_singleton.mp q)
        have vals : ∀ (i : Nat) (v : Value), items[i]? = some v → ∃ k t, ns[i]? = some k ∧ v = .int k t := fun i v hv => by
          have hi : i < ns.length := by rw [← size]; exact (Array.getElem?_eq_some_iff.mp hv).1
          have hv' : items.toList[i]? = some v := by rw [Array.getElem?_toList]; exact hv
          obtain ⟨tok, ev⟩ := PyProof.Rows.IntsAre.int_at hit i v hv'
          have en : ns[i]? = some (ns.getD i 0) := by
            rw [List.getD_eq_getElem?_getD, List.getElem?_eq_getElem hi] <;> rfl
          exact ⟨_, tok, en, ev⟩
        have W := (Walks.list (prog := P) (w := w) calm (s.heap.push (bareSet w)).objs.size l nI items).toS
        refine set_update_ints W s.heap.objs.size nS ns size hb vals (items.size - 0) 0 _ rfl (Nat.zero_le _) ⟨⟨_, Heap.get?_push_size _ rfl, rfl, rfl⟩, isL.push _⟩ ?start ?stop
        case start => exact ⟨0, Nat.le_refl 0, setR_new_at (Heap.get?_push_of_some _ gS)⟩
        case stop =>
          rintro ⟨hp2, gens2, drawn2, tk2, os2⟩ c2 moved few made
          obtain rfl : gens2 = s.gens := moved.gens
          obtain rfl : drawn2 = s.drawn := moved.drawn
          obtain rfl : os2 = s.os := moved.os
          refine wpAny_pure (show wpAny _ _ (ret Value.none) _ _ _ from wpAny_pure ⟨rfl, hp2, tk2, c2, rfl, made, by rw [← size]; exact few, fun b o e => ?_⟩)
          have lb : b < s.heap.objs.size := Heap.lt_size e
          refine moved.heap b o (fun hm2 => ?_) (Heap.get?_push_of_some _ (Heap.get?_push_of_some _ e))
          rcases List.mem_cons.mp hm2 with q | q
          · exact Nat.ne_of_lt lb q
          · have q' : b = (s.heap.push (bareSet w)).objs.size := by simpa using q
            rw [z1] at q'
            exact Nat.ne_of_lt (Nat.lt_succ_of_lt lb) q'
      · cases r₂ with
        | error e => exact hr₂
        | ok fl₂ =>
          cases fl₂ with
          | next => exact hr₂.elim
          | brk => exact hr₂.elim
          | cont => exact hr₂.elim
          | ret r =>
            obtain ⟨rfl, made⟩ := hr₂
            repeat any_goals (first | assumption | wp_step)
            exact h _ made
end
section
variable {X : Cx}
def wSetL (K : PySem.W.Frag) (w : World) : List V → Hp → VK → Prop := fun xs H Q => ∃ (p : Addr) (ns : List Int), xs = [.ref p] ∧ SqL K H p (ns.map V.int) ∧ ns.length ≤ 1000 ∧
  ∀ (q : Addr) (c : Nat), H q = none → c ≤ ns.length → Q (.ref q) (upd H q (SetO w q (fun j => decide (j ∈ ns)) c))
theorem call_setL (hc : X.calm = true) : CallR X (.type "set") (wSetL X.K X.w) := by
  intro pins s σ H xs us Q I r ⟨p, ns, ex, hp, hl, q⟩
  subst ex
  obtain ⟨arg, rfl, isRef⟩ := r.one
  obtain rfl : arg = Value.ref p := isRef
  obtain ⟨its, rv, plain, _⟩ := I.list hp
  have hi := intsAre_of rv
  refine setOfList ns (I.ok.hd hc) plain.isList (by simpa using hi) (Nat.lt_of_le_of_lt (Nat.add_le_add_right hl 1) (by decide)) fun s2 ⟨h', tk, c, e2, R, hcn, keep⟩ => ?_
  subst e2
  exact ⟨.ref s.heap.objs.size, _, I.laid (t' := tk) (o := SetO X.w s.heap.objs.size (fun j => decide (j ∈ ns)) c) keep (Nat.le_refl _) (setO_new R), rfl, q _ c (I.hok.fresh (Nat.le_refl _)) hcn⟩
end
end K84R
namespace K84
open PySem PySem.Spec PyProof.Rows L2 K84R

/-! ### the text by places -/
def top (i : Nat) : Stmt := PySem.Challenge.pw_rulerbits_k84_whole_pieces_within_pieces.main.body.getD i (.Pass ⟨0, 0, 0, 0⟩)
abbrev sNum : Stmt := top 12
abbrev sMir : Stmt := top 13
abbrev sRIni : Stmt := inClass (top 14) 1
abbrev sRMk : Stmt := inClass (top 14) 2
abbrev sRLen : Stmt := inClass (top 14) 7
abbrev sMov : Stmt := top 16
abbrev sVal : Stmt := top 17
abbrev sOn : Stmt := top 18
abbrev sSp : Stmt := top 19
abbrev sOIni : Stmt := inClass (top 23) 0
abbrev sOCan : Stmt := inClass (top 23) 1
abbrev sOVal : Stmt := inClass (top 23) 3
abbrev sOAt : Stmt := inClass (top 23) 4
abbrev sOTell : Stmt := inClass (top 23) 5
abbrev sOSee : Stmt := inClass (top 23) 6
abbrev sONum : Stmt := inClass (top 23) 8
abbrev sBeg : Stmt := top 25
abbrev sTake : Stmt := top 26
abbrev sMarks : Stmt := top 27
abbrev sRul : Stmt := top 28
abbrev sTur : Stmt := top 29
abbrev sLMov : Stmt := top 30
abbrev sHas : Stmt := top 31
abbrev sLaw : Stmt := top 32

/-! ### what of the module's names is left to the built-ins; its constants -/
structure Bl (mg : Str → Option Value) : Prop where
  int : mg "int" = none
  bool : mg "bool" = none
  isi : mg "isinstance" = none
  list : mg "list" = none
  tuple : mg "tuple" = none
  rev : mg "reversed" = none
  enum : mg "enumerate" = none
  range : mg "range" = none
  len : mg "len" = none
  sorted : mg "sorted" = none
  set : mg "set" = none
structure Consts (mg : Str → Option Value) : Prop where
  minM : ∃ t, mg "MIN_MARKS" = some (.int 2 t)
  maxM : ∃ t, mg "MAX_MARKS" = some (.int 12 t)
  maxL : ∃ t, mg "MAX_LENGTH" = some (.int 300 t)
  maxE : ∃ t, mg "MAX_ERROR" = some (.int 9 t)
  maxO : ∃ t, mg "MAX_ORIGINS" = some (.int 6 t)
  see : ∃ t, mg "SEE" = some (.str "see" t)

/-! ### a test whose answer is known -/
theorem ifY {c : Bool} {A B : Prop} (h : c = true) (a : A) : if c = true then A else B := by
  rw [if_pos h]
  exact a
theorem ifN {c : Bool} {A B : Prop} (h : c = false) (b : B) : if c = true then A else B := by
  rw [h, if_neg Bool.false_ne_true]
  exact b
/-! ### data on the heap -/
abbrev vI (ns : List Int) : List V := ns.map V.int
theorem vI_at {ns : List Int} {i : Nat} {y : V} (h : (vI ns)[i]? = some y) : ∃ z, ns[i]? = some z ∧ y = .int z := by
  rw [List.getElem?_map] at h
  cases e : ns[i]? with
  | none => exact absurd h (by rw [e]; intro q; cases q)
  | some z => rw [e] at h; exact ⟨z, rfl, (Option.some.inj h).symm⟩
theorem at_vI {ns : List Int} {i : Nat} {z : Int} (h : ns[i]? = some z) : (vI ns)[i]? = some (.int z) := by
  rw [List.getElem?_map, h]
  rfl
theorem vI_len (ns : List Int) : (vI ns).length = ns.length := List.length_map ..
theorem same_new {H : Hp} {p : Addr} {o : HO} (h : H p = none) : Same H (upd H p o) := fun b u e => by
  rw [upd_ne (ne_of_none e h)]
  exact e
theorem Same.to {H H' : Hp} (s : Same H H') {a : Addr} {o : HO} (h : H a = some o) : H' a = some o := s a o h
theorem line_small {n : Nat} (h : n ≤ 1000) : n ≤ sizeLine := Nat.le_of_lt (small1000 h)
/-- a list or tuple of ints, as data -/
theorem dpInts (K : PySem.W.Frag) (H : Hp) : ∀ ns : List Int, DpAll K H (vI ns) (ns.map PyData.int)
  | [] => .nil
  | n :: r => .cons (.int n) (dpInts K H r)
theorem lay_ints : ∀ ns : List Int, PyData.canLayAll0 (ns.map PyData.int) = true
  | [] => rfl
  | n :: r => by
    have ih := lay_ints r
    simp [PyData.canLayAll0, PyData.canLay0, ih]
theorem depth_ints : ∀ ns : List Int, PyData.depthAll (ns.map PyData.int) ≤ 1
  | [] => Nat.le_trans (Nat.le_of_eq (by simp [PyData.depthAll])) (Nat.zero_le _)
  | n :: r => by
    have ih := depth_ints r
    simp [PyData.depthAll, PyData.depth]
    try omega
theorem shaped_tup (ns : List Int) : SeqAt.shaped (.tuple (ns.map PyData.int)) = true := by
  have h1 := lay_ints ns
  have h2 := depth_ints ns
  refine Bool.and_eq_true_iff.mpr ⟨h1, decide_eq_true ?_⟩
  show PyData.depth _ ≤ 64
  simp only [PyData.depth]
  omega
theorem shaped_lst (ns : List Int) : SeqAt.shaped (.list (ns.map PyData.int)) = true := by
  have h1 := lay_ints ns
  have h2 := depth_ints ns
  refine Bool.and_eq_true_iff.mpr ⟨h1, decide_eq_true ?_⟩
  show PyData.depth _ ≤ 64
  simp only [PyData.depth]
  omega
theorem eqv_ints : ∀ ns ms : List Int, PyData.eqvAll (ns.map PyData.int) (ms.map PyData.int) = decide (ns = ms)
  | [], [] => (by simp [PyData.eqvAll] : PyData.eqvAll [] [] = decide (([] : List Int) = []))
  | [], m :: r => by simp [PyData.eqvAll]
  | n :: r, [] => by simp [PyData.eqvAll]
  | n :: r, m :: q => by
    have ih := eqv_ints r q
    simp [PyData.eqvAll, PyData.eqv, ih]
    rw [show (n == m) = decide (n = m) from rfl]
theorem eqv_tup (ns ms : List Int) : PyData.eqv (.tuple (ns.map PyData.int)) (.tuple (ms.map PyData.int)) = decide (ns = ms) := by
  rw [← eqv_ints]
  simp [PyData.eqv]
theorem eqv_lst (ns ms : List Int) : PyData.eqv (.list (ns.map PyData.int)) (.list (ms.map PyData.int)) = decide (ns = ms) := by
  rw [← eqv_ints]
  simp [PyData.eqv]
end K84
namespace K84
open PySem PySem.Spec PyProof.Rows L2 K84R
section
variable {P : Program} {w : World} {K : PySem.W.Frag} {mg : Str → Option Value} {base : Heap}
/-! ### is_number -/
theorem scNum : FnScope ["value", "lowest", "highest"] ["value", "lowest", "highest"] (defScope sNum) := ⟨rfl, rfl, rfl, by decide +kernel, rfl, by decide +kernel, by decide +kernel⟩
def spNum : Sp := fun vs H Q _ => ∃ v lo hi : Int, vs = [.int v, .int lo, .int hi] ∧ Q (.bl (decide (lo ≤ v) && decide (v ≤ hi))) H
theorem ok_num {f : Addr} {fd : FuncData} (F : Fun K "is_number" "is_number" sNum f fd) (B : Bl mg) : FnOk P w K mg base CX0 1 f fd ["value", "lowest", "highest"] spNum := by
  refine F.ok scNum (fun vs H Q E h => ?_) (fun cdv A outer s H vs Q E hr h => ?_)
  · obtain ⟨v, lo, hi, rfl, _⟩ := h
    rfl
  · obtain ⟨v, lo, hi, rfl, q⟩ := h
    refine ⟨_, pss_one (ps_ret (pe_and (pe_callB call_isi (by rfl) B.isi (by decide +kernel) (pa_cons (pv 0) (pa_cons (pe_bltn (v := .ty "int") (by rfl) B.int (by decide +kernel) rfl) pa_nil)))
      (pe_and (pe_not (pe_callB call_isi (by rfl) B.isi (by decide +kernel) (pa_cons (pv 0) (pa_cons (pe_bltn (v := .ty "bool") (by rfl) B.bool (by decide +kernel) rfl) pa_nil))))
        (pe_one (pe_chain op_le op_le (pv 1) (pv 0) (pv 2)))))), ?_⟩
    refine ⟨_, rfl, _, _, _, _, true, rfl, .ty _, .base (.int _), kit_ty (by decide +kernel), true, rfl, iteT ?_⟩
    refine ⟨_, rfl, _, _, _, _, false, rfl, .ty _, .base (.int _), kit_ty (by decide +kernel), false, rfl, true, rfl, iteT ?_⟩
    refine ⟨_, rfl, _, rfl, _, _, rfl, rfl, _, rfl, ?_⟩
    by_cases h1 : lo ≤ v
    · rw [decide_eq_true h1] at q ⊢
      refine iteT ⟨_, rfl, _, _, rfl, rfl, ?_⟩
      rw [Bool.true_and] at q
      exact q
    · rw [decide_eq_false h1] at q ⊢
      rw [Bool.false_and] at q
      exact iteF q
/-! ### mirrored, moved -/
theorem scMir : FnScope ["marks", "mark"] ["marks"] (defScope sMir) := ⟨rfl, rfl, rfl, by decide +kernel, rfl, by decide +kernel, by decide +kernel⟩
/-- a tuple of ints is made of a tuple of ints -/
def spMap (K : PySem.W.Frag) (g : List Int → List Int) : Sp := fun vs H Q _ => ∃ (a : Addr) (ns : List Int), vs = [.ref a] ∧ SqT K H a (vI ns) ∧ 1 ≤ ns.length ∧ ns.length ≤ 1000 ∧
  ∀ (H' : Hp) (p : Addr), Same H H' → H p = none → H' p = some (.tup (vI (g ns))) → Q (.ref p) H'
theorem _root_.L2.Same.tupT {K : PySem.W.Frag} {H H' : Hp} {a : Addr} {xs : List V} (e : Same H H') (h : SqT K H a xs) : SqT K H' a xs := by
  rcases h with (own | ⟨ob, locked⟩) | text
  · exact .inl (.inl (e _ _ own))
  · exact .inl (.inr ⟨ob, e _ _ locked⟩)
  · exact .inr text
theorem tyes {σ : L2.St} {H : Hp} {f g : Hp → Prop} (h : f H) : tYes σ H (fun b H3 => if b = true then f H3 else g H3) := by
  show if true = true then f H else g H
  rw [if_pos rfl]
  exact h
theorem mir_at {ns : List Int} {i : Nat} {z : Int} (h : ns[ns.length - 1 - i]? = some z) (hi : i < ns.length) : (mir ns)[i]? = some (ns.getLastD 0 - z) := by
  unfold mir
  rw [List.getElem?_map, List.getElem?_reverse hi, h]
  rfl
/-- a store where nothing was tracked at first -/
theorem _root_.L2.Same.put {H H' : Hp} (s : Same H H') {D : Addr} (n : H D = none) (o : HO) : Same H (upd H' D o) := fun b u e => by
  rw [upd_ne (ne_of_none e n)]
  exact s b u e
theorem sql_put {K : PySem.W.Frag} {H : Hp} {a D : Addr} {xs : List V} (n : a ≠ D) (h : SqL K H a xs) (o : HO) : SqL K (upd H D o) a xs := by
  rcases h with (h | ⟨ob, h⟩) | h
  · exact .inl (.inl (by rw [upd_ne n]; exact h))
  · exact .inl (.inr ⟨ob, by rw [upd_ne n]; exact h⟩)
  · exact .inr h
theorem last_at {ns : List Int} (h : 1 ≤ ns.length) : atI (vI ns) (-1) = some (.int (ns.getLastD 0)) := by
  have e : vI ns = (vI ns.dropLast) ++ [.int (ns.getLastD 0)] := by
    have ne : ns ≠ [] := fun z => by rw [z] at h; simp at h
    have e1 : ns = ns.dropLast ++ [ns.getLastD 0] := by
      rw [List.getLastD_eq_getLast?, List.getLast?_eq_some_getLast ne]
      exact (List.dropLast_concat_getLast ne).symm
    rw [show vI ns = vI (ns.dropLast ++ [ns.getLastD 0]) from congrArg vI e1]
    unfold vI
    rw [List.map_append]
    rfl
  rw [e]
  exact atI_last _ _
theorem ok_mir {f : Addr} {fd : FuncData} (F : Fun K "mirrored" "mirrored" sMir f fd) (B : Bl mg) : FnOk P w K mg base CX0 1 f fd ["marks"] (spMap K mir) := by
  refine F.ok scMir (fun vs H Q E h => ?_) (fun cdv A outer s H vs Q E hr h => ?_)
  · obtain ⟨a, ns, rfl, _⟩ := h
    rfl
  · obtain ⟨a, ns, rfl, ht, h1, h2, q⟩ := h
    refine ⟨_, pss_one (ps_ret (pe_callTy call_tuple_of (by rfl) B.tuple (by decide +kernel) (pa_cons
      (pe_lc (own := [("mark", 1)]) (g := gName 1) (tt := tYes) rfl scMir.nd
        (pi_reversed (by rfl) B.rev (pa_cons (pe_callTy call_list_of (by rfl) B.list (by decide +kernel) (pa_cons (pv 0) pa_nil)) pa_nil))
        (blkOk_by (N := ["marks", "mark"]) (sc := defScope sMir) (by decide +kernel))
        (fun _ _ _ _ _ => pg_name (i := 1) scMir.nd rfl (Or.inl rfl)) (fun _ _ _ _ _ => pts_nil)
        (fun _ _ _ _ _ => pe_op op_sub (pe_ix (r := rIxT K) ix_tup (pv 0) (pe_un un_neg pe_int) (fun _ _ => rfl)) (pv 1))) pa_nil))), ?_⟩
    refine ⟨_, rfl, a, _, rfl, .inr ht, fun l nl => ?_⟩
    have s1 : Same H (upd H l (.lst (vI ns))) := same_new nl
    refine ⟨l, _, rfl, SqL.of upd_same, fun D nD => ?_⟩
    have nDH : H D = none := s1.free nD
    have ndl : l ≠ D := fun e => by rw [← e, upd_same] at nD; cases nD
    refine lc_it (walk_rev (K := K) (a := l) (xs := vI ns)) (fun i H3 => Same H H3 ∧ SqL K H3 l (vI ns) ∧ H3 D = some (.lst (vI ((mir ns).take i)))) ⟨?_, ?_, ?_⟩ (fun i H3 _ z => z.2.1) ?_ ?_
    · exact s1.trans (same_new nD)
    · exact (same_new nD).seq (SqL.of upd_same)
    · exact upd_same
    · rintro i H3 x H4 hi ⟨sm, sl, hD⟩ ⟨rfl, hx⟩
      rw [vI_len] at hi hx
      obtain ⟨z, hz, rfl⟩ := vI_at hx
      refine ⟨rfl, tyes ?_⟩
      refine ⟨_, rfl, _, rfl, a, vI ns, -1, _, rfl, rfl, sm.tupT ht, last_at h1, _, rfl, _, _, rfl, rfl, _, hD, ?_, sm.put nDH _, sql_put ndl sl _, ?_⟩
      · rw [vI_len, List.length_take]
        exact small1000 (Nat.le_trans (Nat.min_le_left _ _) (by omega))
      · rw [upd_same, List.take_add_one, mir_at hz hi]
        unfold vI
        rw [List.map_append]
        rfl
    · rintro H3 ⟨sm, sl, hD⟩
      refine ⟨D, _, rfl, .inl ⟨SqL.of hD, fun p np => ?_⟩⟩
      refine q _ p (sm.trans (same_new np)) (sm.free np) ?_
      rw [upd_same, vI_len, ← mir_length, List.take_of_length_le (Nat.le_refl _)]
theorem mv_at {ns : List Int} {i : Nat} {z : Int} (h : ns[i]? = some z) : (mv ns)[i]? = some (z - ns.headD 0) := by
  unfold mv
  rw [List.getElem?_map, h]
  rfl
theorem head_at {ns : List Int} (h : 1 ≤ ns.length) : atI (vI ns) 0 = some (.int (ns.headD 0)) := by
  refine atI_nat (j := 0) ?_
  cases ns with
  | nil => simp at h
  | cons x r => rfl
theorem scMov : FnScope ["marks", "mark"] ["marks"] (defScope sMov) := ⟨rfl, rfl, rfl, by decide +kernel, rfl, by decide +kernel, by decide +kernel⟩
theorem scLMov : FnScope ["_law_marks_here", "_law_mark"] ["_law_marks_here"] (defScope sLMov) := ⟨rfl, rfl, rfl, by decide +kernel, rfl, by decide +kernel, by decide +kernel⟩
theorem scTur : FnScope ["_law_marks_here", "_law_mark"] ["_law_marks_here"] (defScope sTur) := ⟨rfl, rfl, rfl, by decide +kernel, rfl, by decide +kernel, by decide +kernel⟩
/-- the reading of moved's and of the law's own -/
theorem read_mov {H : Hp} {Q : VK} {a : Addr} {ns : List Int} (ht : SqT K H a (vI ns)) (h1 : 1 ≤ ns.length) (h2 : ns.length ≤ 1000)
    (q : ∀ (H' : Hp) (p : Addr), Same H H' → H p = none → H' p = some (.tup (vI (mv ns))) → Q (.ref p) H') :
    tLc (iTup K (tVar 0)) (gName 1) tYes (tOp (rI0 fun i j => .int (i - j)) (tVar 1) (tOp (rIxT K) (tVar 0) (tC (.int 0)))) [1] [some (.ref a), none] H
      fun x H1 => ∃ p ys, [x] = [.ref p] ∧ ((SqL K H1 p ys ∧ ∀ l, H1 l = none → Q (.ref l) (upd H1 l (.tup ys))) ∨ (SqT K H1 p ys ∧ Q (.ref p) H1)) := by
  refine ⟨_, rfl, a, rfl, ⟨_, ht⟩, fun D nD => ?_⟩
  refine lc_it (walk_tup (K := K) (a := a) (xs := vI ns)) (fun i H3 => Same H H3 ∧ H3 D = some (.lst (vI ((mv ns).take i)))) ⟨same_new nD, upd_same⟩ (fun i H3 _ z => Same.tupT z.1 ht) ?_ ?_
  · rintro i H3 x H4 hi ⟨sm, hD⟩ ⟨rfl, hx⟩
    rw [vI_len] at hi
    obtain ⟨z, hz, rfl⟩ := vI_at hx
    refine ⟨rfl, tyes ?_⟩
    refine ⟨_, rfl, _, rfl, a, vI ns, 0, _, rfl, rfl, sm.tupT ht, head_at h1, _, _, rfl, rfl, _, hD, ?_, sm.put nD _, ?_⟩
    · rw [vI_len, List.length_take, mv_length]
      exact small1000 (Nat.le_trans (Nat.min_le_right _ _) h2)
    · rw [upd_same, List.take_add_one, mv_at hz]
      unfold vI
      rw [List.map_append]
      rfl
  · rintro H3 ⟨sm, hD⟩
    refine ⟨D, _, rfl, .inl ⟨SqL.of hD, fun p np => ?_⟩⟩
    refine q _ p (sm.trans (same_new np)) (sm.free np) ?_
    rw [upd_same, vI_len, ← mv_length, List.take_of_length_le (Nat.le_refl _)]
theorem ok_mov {f : Addr} {fd : FuncData} (F : Fun K "moved" "moved" sMov f fd) (B : Bl mg) : FnOk P w K mg base CX0 1 f fd ["marks"] (spMap K mv) := by
  refine F.ok scMov (fun vs H Q E h => ?_) (fun cdv A outer s H vs Q E hr h => ?_)
  · obtain ⟨a, ns, rfl, _⟩ := h
    rfl
  · obtain ⟨a, ns, rfl, ht, h1, h2, q⟩ := h
    refine ⟨_, pss_one (ps_ret (pe_callTy call_tuple_of (by rfl) B.tuple (by decide +kernel) (pa_cons
      (pe_lc (own := [("mark", 1)]) (g := gName 1) (tt := tYes) rfl scMov.nd (pi_tup (pv 0)) (blkOk_by (N := ["marks", "mark"]) (sc := defScope sMov) (by decide +kernel))
        (fun _ _ _ _ _ => pg_name (i := 1) scMov.nd rfl (Or.inl rfl)) (fun _ _ _ _ _ => pts_nil)
        (fun _ _ _ _ _ => pe_op op_sub (pv 1) (pe_ix (r := rIxT K) ix_tup (pv 0) pe_int (fun _ _ => rfl)))) pa_nil))), ?_⟩
    exact read_mov ht h1 h2 q
theorem ok_lmov {f : Addr} {fd : FuncData} (F : Fun K "_law_moved" "_law_moved" sLMov f fd) (B : Bl mg) : FnOk P w K mg base CX0 1 f fd ["_law_marks_here"] (spMap K mv) := by
  refine F.ok scLMov (fun vs H Q E h => ?_) (fun cdv A outer s H vs Q E hr h => ?_)
  · obtain ⟨a, ns, rfl, _⟩ := h
    rfl
  · obtain ⟨a, ns, rfl, ht, h1, h2, q⟩ := h
    refine ⟨_, pss_one (ps_ret (pe_callTy call_tuple_of (by rfl) B.tuple (by decide +kernel) (pa_cons
      (pe_lc (own := [("_law_mark", 1)]) (g := gName 1) (tt := tYes) rfl scLMov.nd (pi_tup (pv 0)) (blkOk_by (N := ["_law_marks_here", "_law_mark"]) (sc := defScope sLMov) (by decide +kernel))
        (fun _ _ _ _ _ => pg_name (i := 1) scLMov.nd rfl (Or.inl rfl)) (fun _ _ _ _ _ => pts_nil)
        (fun _ _ _ _ _ => pe_op op_sub (pv 1) (pe_ix (r := rIxT K) ix_tup (pv 0) pe_int (fun _ _ => rfl)))) pa_nil))), ?_⟩
    exact read_mov ht h1 h2 q
theorem ok_tur {f : Addr} {fd : FuncData} (F : Fun K "_law_turned" "_law_turned" sTur f fd) (B : Bl mg) : FnOk P w K mg base CX0 1 f fd ["_law_marks_here"] (spMap K mir) := by
  refine F.ok scTur (fun vs H Q E h => ?_) (fun cdv A outer s H vs Q E hr h => ?_)
  · obtain ⟨a, ns, rfl, _⟩ := h
    rfl
  · obtain ⟨a, ns, rfl, ht, h1, h2, q⟩ := h
    refine ⟨_, pss_one (ps_ret (pe_callTy call_tuple_of (by rfl) B.tuple (by decide +kernel) (pa_cons
      (pe_lc (own := [("_law_mark", 1)]) (g := gName 1) (tt := tYes) rfl scTur.nd (pi_tup (pe_back (pv 0))) (blkOk_by (N := ["_law_marks_here", "_law_mark"]) (sc := defScope sTur) (by decide +kernel))
        (fun _ _ _ _ _ => pg_name (i := 1) scTur.nd rfl (Or.inl rfl)) (fun _ _ _ _ _ => pts_nil)
        (fun _ _ _ _ _ => pe_op op_sub (pe_ix (r := rIxT K) ix_tup (pv 0) (pe_un un_neg pe_int) (fun _ _ => rfl)) (pv 1))) pa_nil))), ?_⟩
    refine ⟨_, rfl, a, _, rfl, ht, fun l nl => ?_⟩
    have s1 : Same H (upd H l (.tup (vI ns).reverse)) := same_new nl
    refine ⟨l, rfl, ⟨_, SqT.of upd_same⟩, fun D nD => ?_⟩
    have nDH : H D = none := s1.free nD
    have ndl : l ≠ D := fun e => by rw [← e, upd_same] at nD; cases nD
    refine lc_it (walk_tup (K := K) (a := l) (xs := (vI ns).reverse)) (fun i H3 => Same H H3 ∧ H3 l = some (.tup (vI ns).reverse) ∧ H3 D = some (.lst (vI ((mir ns).take i)))) ⟨?_, ?_, ?_⟩ (fun i H3 _ z => SqT.of z.2.1) ?_ ?_
    · exact s1.trans (same_new nD)
    · rw [upd_ne ndl, upd_same]
    · exact upd_same
    · rintro i H3 x H4 hi ⟨sm, sl, hD⟩ ⟨rfl, hx⟩
      rw [List.length_reverse, vI_len] at hi
      rw [List.getElem?_reverse (by rw [vI_len]; exact hi), vI_len] at hx
      obtain ⟨z, hz, rfl⟩ := vI_at hx
      refine ⟨rfl, tyes ?_⟩
      refine ⟨_, rfl, _, rfl, a, vI ns, -1, _, rfl, rfl, sm.tupT ht, last_at h1, _, rfl, _, _, rfl, rfl, _, hD, ?_, sm.put nDH _, ?_, ?_⟩
      · rw [vI_len, List.length_take]
        exact small1000 (Nat.le_trans (Nat.min_le_left _ _) (by omega))
      · rw [upd_ne ndl]
        exact sl
      · rw [upd_same, List.take_add_one, mir_at hz hi]
        unfold vI
        rw [List.map_append]
        rfl
    · rintro H3 ⟨sm, sl, hD⟩
      refine ⟨D, _, rfl, .inl ⟨SqL.of hD, fun p np => ?_⟩⟩
      refine q _ p (sm.trans (same_new np)) (sm.free np) ?_
      rw [upd_same, List.length_reverse, vI_len, ← mir_length, List.take_of_length_le (Nat.le_refl _)]
end
end K84
namespace K84
open PySem PySem.Spec PyProof.Rows L2 K84R
/-! ### what of the text the class Ruler has -/
structure RTxt (K : PySem.W.Frag) (C pM pE pP gP gL : Addr) (iM iE : Nat) : Prop where
  cl : SlX.SCls K C
  sM : SlX.Slot1 K C "own_marks" pM iM
  sE : SlX.Slot1 K C "own_error" pE iE
  ne : iM ≠ iE
  pAt : PySem.W.findIn K (.ref C) "marks" = some (some (.ref pP))
  pGet : PySem.W.specialIn K (.ref pP) "__get__" = some (some (.builtin "property.__get__"))
  pTk : PySem.W.takesIn K (.ref pP) = some true
  pRc : ∃ rest, PySem.W.recIn K pP "property" = some (.ref gP :: rest)
  lAt : PySem.W.findIn K (.ref C) "__len__" = some (some (.ref gL))
  lFn : PySem.W.isFn K (.ref gL) = true
/-- a ruler with these marks -/
def RulAt (C : Addr) (iM : Nat) (H : Hp) (r : Addr) (ms : List Int) : Prop := ∃ (dx t : Addr) (vs : List (Option V)), SlX.Slt H r C dx vs ∧ vs[iM]? = some (some (.ref t)) ∧ H t = some (.tup (vI ms))
theorem slt_keep {H H' : Hp} {a C dx : Addr} {vs : List (Option V)} (h : SlX.Slt H a C dx vs) (k1 : ∀ o, H a = some o → H' a = some o) (k2 : ∀ o, H dx = some o → H' dx = some o) : SlX.Slt H' a C dx vs := by
  rcases h with ⟨fresh, none_yet⟩ | ⟨stored, dict⟩
  · exact .inl ⟨k1 _ fresh, none_yet⟩
  · exact .inr ⟨k1 _ stored, k2 _ dict⟩
theorem _root_.L2.Same.rul {C : Addr} {iM : Nat} {H H' : Hp} {r : Addr} {ms : List Int} (s : Same H H') (h : RulAt C iM H r ms) : RulAt C iM H' r ms := by
  obtain ⟨dx, t, vs, h1, h2, h3⟩ := h
  exact ⟨dx, t, vs, slt_keep h1 (s _) (s _), h2, s _ _ h3⟩
section
variable {P : Program} {w : World} {K : PySem.W.Frag} {mg : Str → Option Value} {base : Heap} {C pM pE pP gP gL : Addr} {iM iE : Nat}
/-! ### Ruler.__init__ -/
theorem scRIni : FnScope ["self", "marks", "error", "index", "mark", "lowest"] ["self", "marks", "error"] (defScope sRIni) := ⟨rfl, rfl, rfl, by decide +kernel, rfl, by decide +kernel, by decide +kernel⟩
def spRIni (C : Addr) (iM : Nat) : Sp := fun vs H Q _ => ∃ (r dx t : Addr) (ms : List Int) (e : Int), vs = [.ref r, .ref t, .int e] ∧ H r = some (.ins C dx []) ∧ dx ≠ r ∧ H dx = some (.own r) ∧ H t = some (.tup (vI ms)) ∧ GoodM ms ∧ 0 ≤ e ∧ e ≤ 9 ∧
  ∀ H' : Hp, RulAt C iM H' r ms → (∀ b o, H b = some o → b ≠ r → b ≠ dx → H' b = some o) → Q .non H'
theorem ok_rini {f fN : Addr} {fd fdN : FuncData} (F : Fun K "__init__" "Ruler.__init__" sRIni f fd) (T : RTxt K C pM pE pP gP gL iM iE) (B : Bl mg) (Cn : Consts mg)
    (FN : Fun K "is_number" "is_number" sNum fN fdN) (bN : Binds K fdN ["value", "lowest", "highest"] []) (gN : mg "is_number" = some (.ref fN)) :
    FnOk P w K mg base CX0 2 f fd ["self", "marks", "error"] (spRIni C iM) := by
  have GN : FnOk P w K mg base CX0 1 fN fdN ["value", "lowest", "highest"] spNum := ok_num FN B
  refine F.ok scRIni (fun vs H Q E h => ?_) (fun cdv A outer s H vs Q E hr h => ?_)
  · obtain ⟨r, dx, t, ms, e, rfl, _⟩ := h
    rfl
  · obtain ⟨r, dx, t, ms, e, rfl, hr0, ndr, hdx, htt, g, e0, e9, q⟩ := h
    obtain ⟨tMM, hMM⟩ := Cn.maxM
    obtain ⟨tML, hML⟩ := Cn.maxL
    obtain ⟨tMI, hMI⟩ := Cn.minM
    obtain ⟨tME, hME⟩ := Cn.maxE
    have hr1 : Room 1 _ := hr
    have ht : SqT K H t (vI ms) := SqT.of htt
    have nn := g.nonneg
    obtain ⟨len2, len8, hd0, pw, h30⟩ := g
    refine ⟨_, pss_cons (ps_for PassesOwn.never rfl (pi_en (by rfl) B.enum (pa_cons (pv 1) pa_nil))
        (pg_tup rfl (pgs_cons (pg_name (i := 3) scRIni.nd rfl (Or.inl rfl)) (pgs_cons (pg_name (i := 4) scRIni.nd rfl (Or.inl rfl)) pgs_nil)))
        (pss_cons (ps_set (i := 5) scRIni.nd rfl (Or.inl rfl) (pe_ifExp (pt_cmpR op_eq (pv 3) pe_int (nomark _)) pe_int (pe_op op_add (pe_ix ix_tup (pv 1) (pe_op op_sub (pv 3) pe_int) (fun _ _ => rfl)) pe_int)))
        (pss_one (ps_if (PW.pt (pw_or (pt_cmpR op_eq (pv 3) (pe_glob (v := .int 12) (by rfl) hMM ⟨_, rfl⟩) (nomark _))
          (pw_or1 (pt_not (pt_val (pe_call GN hr1 (by rfl) gN FN.kp bN .nil pass0 (pa_cons (pv 4) (pa_cons (pv 5) (pa_cons
            (pe_ifExp (pt_cmpR op_eq (pv 3) pe_int (nomark _)) pe_int (pe_glob (v := .int 300) (by rfl) hML ⟨_, rfl⟩)) pa_nil))))))))) (pss_one ps_never) pss_nil))))
      (pss_cons (ps_if (pt_cmpR op_lt (pe_callB call_len_seq (by rfl) B.len PySem.boot_len (pa_cons (pv 1) pa_nil)) (pe_glob (v := .int 2) (by rfl) hMI ⟨_, rfl⟩) (nomark _)) (pss_one ps_never) pss_nil)
      (pss_cons (ps_if (pt_not (pt_val (pe_call GN hr1 (by rfl) gN FN.kp bN .nil pass0 (pa_cons (pv 2) (pa_cons pe_int (pa_cons (pe_glob (v := .int 9) (by rfl) hME ⟨_, rfl⟩) pa_nil)))))) (pss_one ps_never) pss_nil)
      (pss_cons (SlX.ps_sl (pv 0) (pv 1)) (pss_one (SlX.ps_sl (pv 0) (pv 2)))))), ?_⟩
    refine ⟨_, rfl, t, vI ms, rfl, ht, ?_⟩
    refine for_en (K := K) (a := t) (xs := vI ms) (fun i σ H3 => ∃ x3 x4 x5, σ = [some (.ref r), some (.ref t), some (.int e), x3, x4, x5] ∧ Same H H3) ⟨none, none, none, rfl, Same.refl H⟩
      (fun i σ H3 _ ⟨_, _, _, _, sm⟩ => sm.tupT ht) ?_ ?_
    · -- a turn
      rintro i y T σ H3 hy ⟨x3, x4, x5, rfl, sm⟩ nT
      obtain ⟨z, hz, rfl⟩ := vI_at hy
      have hi : i < ms.length := (List.getElem?_eq_some_iff.mp hz).1
      have zmem : z ∈ ms := List.mem_of_getElem? hz
      have z0 : 0 ≤ z := nn z zmem
      have z30 : z ≤ 30 := h30 z zmem
      have smT : Same H (upd H3 T (.tup [.int (i : Nat), .int z])) := sm.trans (same_new nT)
      refine ⟨T, _, rfl, SqT.of upd_same, rfl, _, _, rfl, _, _, rfl, rfl, ?_⟩
      have n12 : decide (V.int ((i : Nat) : Int) = V.int 12) = false := decide_eq_false fun e => by
        have := V.int.inj e
        omega
      by_cases h0 : i = 0
      · subst h0
        have ez : z = 0 := Option.some.inj (hz.symm.trans (by rw [← List.head?_eq_getElem?]; exact hd0))
        subst ez
        have t0 : decide (V.int ((0 : Nat) : Int) = V.int 0) = true := by decide
        refine ⟨_, rfl, rfl, _, rfl, ?_⟩
        refine ifY t0 ?_
        refine ⟨_, rfl, rfl, _, rfl, ?_⟩
        refine ifN n12 ?_
        refine ⟨_, rfl, _, rfl, _, rfl, rfl, _, rfl, ?_⟩
        refine ifY t0 ?_
        exact ⟨0, 0, 0, rfl, true, rfl, iteF ⟨_, _, _, rfl, smT⟩⟩
      · obtain ⟨j, rfl⟩ : ∃ j, i = j + 1 := ⟨i - 1, by omega⟩
        have hj : j < ms.length := by omega
        have lt : ms[j] < z := GoodP.step pw (List.getElem?_eq_getElem hj) hz
        have f0 : decide (V.int ((j + 1 : Nat) : Int) = V.int 0) = false := decide_eq_false fun e => by
          have := V.int.inj e
          omega
        refine ⟨_, rfl, rfl, _, rfl, ?_⟩
        refine ifN f0 ?_
        refine ⟨_, rfl, _, rfl, _, _, rfl, rfl, t, vI ms, _, _, rfl, rfl, smT.tupT ht, at_of (j := j) (by omega) (at_vI (List.getElem?_eq_getElem hj)), _, _, rfl, rfl, ?_⟩
        refine ⟨_, rfl, rfl, _, rfl, ?_⟩
        refine ifN n12 ?_
        refine ⟨_, rfl, _, rfl, _, rfl, rfl, _, rfl, ?_⟩
        refine ifN f0 ?_
        have b1 : (decide (ms[j] + 1 ≤ z) && decide (z ≤ 300)) = true := by
          rw [decide_eq_true (show ms[j] + 1 ≤ z by omega), decide_eq_true (show z ≤ 300 by omega)]
          rfl
        refine ⟨z, ms[j] + 1, 300, rfl, true, by rw [b1], iteF ⟨_, _, _, rfl, smT⟩⟩
    · -- behind the loop
      rintro σ H3 ⟨x3, x4, x5, rfl, sm⟩
      refine ⟨_, rfl, t, _, rfl, .inr (sm.tupT ht), _, _, rfl, rfl, _, rfl, ?_⟩
      have l2 : decide ((((vI ms).length : Nat) : Int) < 2) = false := decide_eq_false fun z => by
        rw [vI_len] at z
        omega
      refine ifN l2 ?_
      have b2 : (decide ((0 : Int) ≤ e) && decide (e ≤ 9)) = true := by
        rw [decide_eq_true e0, decide_eq_true e9]
        rfl
      refine ⟨_, rfl, e, 0, 9, rfl, true, by rw [b2], iteF ?_⟩
      have r3 : H3 r = some (.ins C dx []) := sm _ _ hr0
      have t3 : H3 t = some (.tup (vI ms)) := sm _ _ htt
      have s3 : SlX.Slt H3 r C dx [] := .inl ⟨r3, rfl⟩
      refine ⟨_, rfl, _, rfl, r, C, dx, pM, [], iM, rfl, s3, T.cl, T.sM, ?_⟩
      have s4 := SlX.slH_slt (H := H3) (C := C) (vs := SlX.putS iM (.ref t) []) ndr
      refine ⟨_, rfl, _, rfl, r, C, dx, pE, _, iE, rfl, s4, T.cl, T.sE, ?_⟩
      have tr : t ≠ r := ne_of htt hr0 (by intro z; cases z)
      have td : t ≠ dx := ne_of htt hdx (by intro z; cases z)
      refine q _ ⟨dx, t, _, SlX.slH_slt ndr, (SlX.putS_ne T.ne).mpr (SlX.putS_get _ _ _), ?_⟩ (fun b o hb n1 n2 => ?_)
      · rw [SlX.slH_ne tr td, SlX.slH_ne tr td]
        exact t3
      · rw [SlX.slH_ne n1 n2, SlX.slH_ne n1 n2]
        exact sm _ _ hb
/-! ### ruler.marks, len(ruler) -/
theorem scRMk : FnScope ["self"] ["self"] (defScope sRMk) := ⟨rfl, rfl, rfl, by decide +kernel, rfl, by decide +kernel, by decide +kernel⟩
def spRMk (C : Addr) (iM : Nat) : Sp := fun vs H Q _ => ∃ (r : Addr) (ms : List Int), vs = [.ref r] ∧ RulAt C iM H r ms ∧ ∀ t : Addr, H t = some (.tup (vI ms)) → Q (.ref t) H
theorem ok_rmk {f : Addr} {fd : FuncData} (F : Fun K "marks" "Ruler.marks" sRMk f fd) (T : RTxt K C pM pE pP gP gL iM iE) : FnOk P w K mg base CX0 1 f fd ["self"] (spRMk C iM) := by
  refine F.ok scRMk (fun vs H Q E h => ?_) (fun cdv A outer s H vs Q E hr h => ?_)
  · obtain ⟨r, ms, rfl, _⟩ := h
    rfl
  · obtain ⟨r, ms, rfl, ⟨dx, t, vs, h1, h2, h3⟩, q⟩ := h
    refine ⟨_, pss_one (ps_ret (SlX.pe_sl (pv 0))), ?_⟩
    exact ⟨_, rfl, r, C, dx, pM, vs, iM, _, rfl, h1, T.cl, T.sM, h2, q t h3⟩
theorem scRLen : FnScope ["self"] ["self"] (defScope sRLen) := ⟨rfl, rfl, rfl, by decide +kernel, rfl, by decide +kernel, by decide +kernel⟩
def spRLen (C : Addr) (iM : Nat) : Sp := fun vs H Q _ => ∃ (r : Addr) (ms : List Int), vs = [.ref r] ∧ RulAt C iM H r ms ∧ Q (.int (ms.length : Nat)) H
theorem ok_rlen {f : Addr} {fd : FuncData} (F : Fun K "__len__" "Ruler.__len__" sRLen f fd) (T : RTxt K C pM pE pP gP gL iM iE) (B : Bl mg) : FnOk P w K mg base CX0 1 f fd ["self"] (spRLen C iM) := by
  refine F.ok scRLen (fun vs H Q E h => ?_) (fun cdv A outer s H vs Q E hr h => ?_)
  · obtain ⟨r, ms, rfl, _⟩ := h
    rfl
  · obtain ⟨r, ms, rfl, ⟨dx, t, vs, h1, h2, h3⟩, q⟩ := h
    refine ⟨_, pss_one (ps_ret (pe_callB call_len_seq (by rfl) B.len PySem.boot_len (pa_cons (SlX.pe_sl (pv 0)) pa_nil))), ?_⟩
    refine ⟨_, rfl, r, C, dx, pM, vs, iM, _, rfl, h1, T.cl, T.sM, h2, t, _, rfl, .inr (SqT.of h3), ?_⟩
    rw [vI_len]
    exact q
/-! ### validate_piece -/
theorem scVal : FnScope ["piece", "index", "place", "mark", "lowest"] ["piece", "index"] (defScope sVal) := ⟨rfl, rfl, rfl, by decide +kernel, rfl, by decide +kernel, by decide +kernel⟩
def spVal (K : PySem.W.Frag) : Sp := fun vs H Q _ => ∃ (t : Addr) (ms : List Int), vs = [.ref t, .int 0] ∧ SqT K H t (vI ms) ∧ GoodP ms ∧ ∀ H' : Hp, Same H H' → Q .non H'
theorem ok_val {f fN : Addr} {fd fdN : FuncData} (F : Fun K "validate_piece" "validate_piece" sVal f fd) (B : Bl mg) (Cn : Consts mg)
    (FN : Fun K "is_number" "is_number" sNum fN fdN) (bN : Binds K fdN ["value", "lowest", "highest"] []) (gN : mg "is_number" = some (.ref fN)) :
    FnOk P w K mg base CX0 2 f fd ["piece", "index"] (spVal K) := by
  have GN : FnOk P w K mg base CX0 1 fN fdN ["value", "lowest", "highest"] spNum := ok_num FN B
  refine F.ok scVal (fun vs H Q E h => ?_) (fun cdv A outer s H vs Q E hr h => ?_)
  · obtain ⟨t, ms, rfl, _⟩ := h
    rfl
  · obtain ⟨t, ms, rfl, ht, g, q⟩ := h
    obtain ⟨tMM, hMM⟩ := Cn.maxM
    obtain ⟨tML, hML⟩ := Cn.maxL
    have hr1 : Room 1 _ := hr
    have nn := g.nonneg
    obtain ⟨len1, len8, hd0, pw, h30⟩ := g
    refine ⟨_, pss_cons (ps_for PassesOwn.never rfl (pi_en (by rfl) B.enum (pa_cons (pv 0) pa_nil))
        (pg_tup rfl (pgs_cons (pg_name (i := 2) scVal.nd rfl (Or.inl rfl)) (pgs_cons (pg_name (i := 3) scVal.nd rfl (Or.inl rfl)) pgs_nil)))
        (pss_cons (ps_set (i := 4) scVal.nd rfl (Or.inl rfl) (pe_ifExp (pt_cmpR op_eq (pv 2) pe_int (nomark _)) pe_int (pe_op op_add (pe_ix ix_tup (pv 0) (pe_op op_sub (pv 2) pe_int) (fun _ _ => rfl)) pe_int)))
        (pss_one (ps_if (PW.pt (pw_or (pt_cmpR op_eq (pv 2) (pe_glob (v := .int 12) (by rfl) hMM ⟨_, rfl⟩) (nomark _))
          (pw_or1 (pt_not (pt_val (pe_call GN hr1 (by rfl) gN FN.kp bN .nil pass0 (pa_cons (pv 3) (pa_cons (pv 4) (pa_cons
            (pe_ifExp (pt_cmpR op_eq (pv 2) pe_int (nomark _)) pe_int (pe_glob (v := .int 300) (by rfl) hML ⟨_, rfl⟩)) pa_nil))))))))) (pss_one ps_never) pss_nil))))
      (pss_one (ps_if (pt_cmpR op_eq (pe_callB call_len_seq (by rfl) B.len PySem.boot_len (pa_cons (pv 0) pa_nil)) pe_int (nomark _)) (pss_one ps_never) pss_nil)), ?_⟩
    refine ⟨_, rfl, t, vI ms, rfl, ht, ?_⟩
    refine for_en (K := K) (a := t) (xs := vI ms) (fun i σ H3 => ∃ x3 x4 x5, σ = [some (.ref t), some (.int 0), x3, x4, x5] ∧ Same H H3) ⟨none, none, none, rfl, Same.refl H⟩
      (fun i σ H3 _ ⟨_, _, _, _, sm⟩ => sm.tupT ht) ?_ ?_
    · -- a turn
      rintro i y T σ H3 hy ⟨x3, x4, x5, rfl, sm⟩ nT
      obtain ⟨z, hz, rfl⟩ := vI_at hy
      have hi : i < ms.length := (List.getElem?_eq_some_iff.mp hz).1
      have zmem : z ∈ ms := List.mem_of_getElem? hz
      have z0 : 0 ≤ z := nn z zmem
      have z30 : z ≤ 30 := h30 z zmem
      have smT : Same H (upd H3 T (.tup [.int (i : Nat), .int z])) := sm.trans (same_new nT)
      refine ⟨T, _, rfl, SqT.of upd_same, rfl, _, _, rfl, _, _, rfl, rfl, ?_⟩
      have n12 : decide (V.int ((i : Nat) : Int) = V.int 12) = false := decide_eq_false fun e => by
        have := V.int.inj e
        omega
      by_cases h0 : i = 0
      · subst h0
        have ez : z = 0 := Option.some.inj (hz.symm.trans (by rw [← List.head?_eq_getElem?]; exact hd0))
        subst ez
        have t0 : decide (V.int ((0 : Nat) : Int) = V.int 0) = true := by decide
        refine ⟨_, rfl, rfl, _, rfl, ?_⟩
        refine ifY t0 ?_
        refine ⟨_, rfl, rfl, _, rfl, ?_⟩
        refine ifN n12 ?_
        refine ⟨_, rfl, _, rfl, _, rfl, rfl, _, rfl, ?_⟩
        refine ifY t0 ?_
        exact ⟨0, 0, 0, rfl, true, rfl, iteF ⟨_, _, _, rfl, smT⟩⟩
      · obtain ⟨j, rfl⟩ : ∃ j, i = j + 1 := ⟨i - 1, by omega⟩
        have hj : j < ms.length := by omega
        have lt : ms[j] < z := GoodP.step pw (List.getElem?_eq_getElem hj) hz
        have f0 : decide (V.int ((j + 1 : Nat) : Int) = V.int 0) = false := decide_eq_false fun e => by
          have := V.int.inj e
          omega
        refine ⟨_, rfl, rfl, _, rfl, ?_⟩
        refine ifN f0 ?_
        refine ⟨_, rfl, _, rfl, _, _, rfl, rfl, t, vI ms, _, _, rfl, rfl, smT.tupT ht, at_of (j := j) (by omega) (at_vI (List.getElem?_eq_getElem hj)), _, _, rfl, rfl, ?_⟩
        refine ⟨_, rfl, rfl, _, rfl, ?_⟩
        refine ifN n12 ?_
        refine ⟨_, rfl, _, rfl, _, rfl, rfl, _, rfl, ?_⟩
        refine ifN f0 ?_
        have b1 : (decide (ms[j] + 1 ≤ z) && decide (z ≤ 300)) = true := by
          rw [decide_eq_true (show ms[j] + 1 ≤ z by omega), decide_eq_true (show z ≤ 300 by omega)]
          rfl
        refine ⟨z, ms[j] + 1, 300, rfl, true, by rw [b1], iteF ⟨_, _, _, rfl, smT⟩⟩
    · -- behind the loop
      rintro σ H3 ⟨x3, x4, x5, rfl, sm⟩
      refine ⟨_, rfl, t, _, rfl, .inr (sm.tupT ht), rfl, _, rfl, ?_⟩
      have l2 : decide (V.int (((vI ms).length : Nat) : Int) = V.int 0) = false := decide_eq_false fun z => by
        have := V.int.inj z
        rw [vI_len] at this
        omega
      refine ifN l2 ?_
      exact q H3 sm
end
end K84
namespace K84
open PySem PySem.Spec PyProof.Rows L2 K84R
/-! ### spots on the heap -/
def SpT (H : Hp) (a : Addr) (s : Nat × Bool) : Prop := H a = some (.tup [.int (s.1 : Nat), .bl s.2])
abbrev refs (as : List Addr) : List V := as.map V.ref
theorem refs_len (as : List Addr) : (refs as).length = as.length := List.length_map ..
theorem _root_.L2.Same.spots {H H' : Hp} (s : Same H H') {as : List Addr} {ss : List (Nat × Bool)} (h : Paired (SpT H) as ss) : Paired (SpT H') as ss := L2.Paired.mapP h fun _ _ z => s _ _ z
theorem refs_snoc (as : List Addr) (a : Addr) : refs as ++ [.ref a] = refs (as ++ [a]) := by
  unfold refs
  rw [List.map_append]
  rfl
/-- a slice of a tuple, the whole of it or not -/
theorem cut_of {K : PySem.W.Frag} {H : Hp} {Q : VK} {a : Addr} {xs : List V} {lo hi : Option Int} (h : SqT K H a xs) (q : ∀ (H' : Hp) (p : Addr), Same H H' → SqT K H' p (cutV xs lo hi) → Q (.ref p) H') :
    rSlA K (V.ref a) lo hi H Q := by
  refine ⟨a, xs, rfl, h, fun ⟨h1, h2⟩ => q H a (Same.refl H) ?_, fun _ p np => q _ p (same_new np) (SqT.of upd_same)⟩
  have e : cutV xs lo hi = xs := by
    unfold cutV
    rw [h1, h2, List.drop_zero, Nat.sub_zero, List.take_length]
  rw [e]
  exact h
theorem cut_seg {ms : List Int} {i n : Nat} {lo hi : Int} (h : i + n ≤ ms.length) (e1 : lo = (i : Int)) (e2 : hi = ((i + n : Nat) : Int)) : cutV (vI ms) (some lo) (some hi) = vI (seg ms i n) := by
  subst e1 e2
  unfold cutV seg
  rw [vI_len, HT.sIx_nat, HT.sIx_nat, Nat.min_eq_left h, Nat.min_eq_left (show i ≤ ms.length by omega), Nat.add_sub_cancel_left]
  unfold vI
  rw [← List.map_drop, ← List.map_take]
section
variable {P : Program} {w : World} {K : PySem.W.Frag} {mg : Str → Option Value} {base : Heap} {C pM pE pP gP gL : Addr} {iM iE : Nat}
/-! ### spots_on -/
theorem scOn : FnScope ["ruler", "piece", "found", "other", "first", "marks"] ["ruler", "piece"] (defScope sOn) := ⟨rfl, rfl, rfl, by decide +kernel, rfl, by decide +kernel, by decide +kernel⟩
def spOn (K : PySem.W.Frag) (C : Addr) (iM : Nat) : Sp := fun vs H Q _ => ∃ (r q : Addr) (ms p : List Int), vs = [.ref r, .ref q] ∧ RulAt C iM H r ms ∧ GoodM ms ∧ SqT K H q (vI p) ∧ GoodP p ∧
  ∀ (H' : Hp) (l : Addr) (as : List Addr), Same H H' → H l = none → H' l = some (.lst (refs as)) → Paired (SpT H') as (spotsL ms p) → Q (.ref l) H'

theorem ok_on {f fM fI gMk gLn : Addr} {fd fdM fdI fdP fdL : FuncData} (F : Fun K "spots_on" "spots_on" sOn f fd) (T : RTxt K C pM pE pP gP gL iM iE) (B : Bl mg)
    (FM : Fun K "moved" "moved" sMov fM fdM) (bM : Binds K fdM ["marks"] []) (gM : mg "moved" = some (.ref fM))
    (FI : Fun K "mirrored" "mirrored" sMir fI fdI) (bI : Binds K fdI ["marks"] []) (gI : mg "mirrored" = some (.ref fI))
    (FP : Fun K "marks" "Ruler.marks" sRMk gP fdP) (bP : Binds K fdP ["self"] []) (FL : Fun K "__len__" "Ruler.__len__" sRLen gL fdL) (bL : Binds K fdL ["self"] []) :
    FnOk P w K mg base CX0 3 f fd ["ruler", "piece"] (spOn K C iM) := by
  have GM : FnOk P w K mg base CX0 1 fM fdM ["marks"] (spMap K mv) := ok_mov FM B
  have GI : FnOk P w K mg base CX0 1 fI fdI ["marks"] (spMap K mir) := ok_mir FI B
  have GP := (ok_rmk (P := P) (w := w) (mg := mg) (base := base) FP T).raw bP .nil
  have GL := (ok_rlen (P := P) (w := w) (mg := mg) (base := base) FL T B).raw bL .nil
  refine F.ok scOn (fun vs H Q E h => ?_) (fun cdv A outer s H vs Q E hr h => ?_)
  · obtain ⟨r, q, ms, p, rfl, _⟩ := h
    rfl
  · obtain ⟨r, q, ms, p, rfl, hR, gm, hq, gp, k⟩ := h
    have hr2 : Room 2 _ := hr
    have hr1 : Room 1 _ := hr.mono (by decide)
    obtain ⟨plen, plen8, _⟩ := id gp
    obtain ⟨mlen, mlen8, _⟩ := id gm
    refine ⟨_, pss_cons (ps_par (i := 2) (j := 3) (by rfl) scOn.nd rfl rfl (by decide) rfl rfl (pa_cons (pe_lst pa_nil) (pa_cons (pe_call GI hr1 (by rfl) gI FI.kp bI .nil pass0 (pa_cons (pv 1) pa_nil)) pa_nil)) (by rfl))
      (pss_cons (ps_for PassesOwn.never rfl (pi_range1 (by rfl) B.range (pa_cons (pe_op op_add (pe_op op_sub
            (pe_callB (lenOwn T.lAt T.lFn GL hr2 pass0) (by rfl) B.len PySem.boot_len (pa_cons (pv 0) pa_nil))
            (pe_callB call_len_seq (by rfl) B.len PySem.boot_len (pa_cons (pv 1) pa_nil))) pe_int) pa_nil))
          (pg_name (i := 4) scOn.nd rfl (Or.inl rfl))
        (pss_cons (ps_set (i := 5) scOn.nd rfl (Or.inl rfl) (pe_call GM hr1 (by rfl) gM FM.kp bM .nil pass0 (pa_cons
            (pe_slice sl_tupA (SlX.pe_propSl (CX := CX0) (E := E0) (pv 0) T.cl T.pAt T.pGet T.pTk T.pRc GP hr2 (fun _ _ _ _ z => z)) (po_some (pv 4))
              (po_some (pe_op op_add (pv 4) (pe_callB call_len_seq (by rfl) B.len PySem.boot_len (pa_cons (pv 1) pa_nil))))) pa_nil)))
        (C8.pss_cut (ps_if (pt_cmpR (op_eqD hr.units) (pv 5) (pv 1) (nomark _))
            (pss_one (ps_expr (pe_bm PySem.F.plainAttrs_list PySem.F.slot_list_append PySem.F.type_list_append mt_append (pv 2) (pa_cons (pe_tup (pa_cons (pv 4) (pa_cons pe_bl pa_nil))) pa_nil)))) pss_nil)
        (pss_one (ps_if (PW.pt (pw_and (pt_cmpR (op_eqD hr.units) (pv 5) (pv 3) (nomark _)) (pw_and1 (pt_cmpR (op_neD hr.units) (pv 3) (pv 1) (nomark _)))))
            (pss_one (ps_expr (pe_bm PySem.F.plainAttrs_list PySem.F.slot_list_append PySem.F.type_list_append mt_append (pv 2) (pa_cons (pe_tup (pa_cons (pv 4) (pa_cons pe_bl pa_nil))) pa_nil)))) pss_nil)))))
      (pss_one (ps_ret (pv 2)))), ?_⟩
    -- found, other = [], mirrored(piece)
    refine ⟨Nat.zero_le _, fun l nl => ?_⟩
    have s1 : Same H (upd H l (.lst [])) := same_new nl
    refine ⟨_, rfl, q, p, rfl, s1.tupT hq, plen, by omega, fun H1 o s2 no ho => ?_⟩
    have s12 : Same H H1 := s1.trans s2
    have hl1 : H1 l = some (.lst []) := s2 _ _ upd_same
    refine ⟨_, _, rfl, ?_⟩
    -- range(len(ruler) - len(piece) + 1)
    have hR1 := s12.rul hR
    obtain ⟨dx, t, vs, hsl, hvs, htt⟩ := id hR1
    refine ⟨_, rfl, r, dx, vs, rfl, hsl, r, ms, rfl, hR1, ms.length, rfl, by omega, _, rfl, q, _, rfl, .inr (s12.tupT hq), _, _, rfl, rfl, _, _, rfl, rfl, ?_⟩
    rw [vI_len]
    refine ⟨_, rfl, by omega, by omega, ?_⟩
    rw [show ((ms.length : Int) - (p.length : Int) + 1).toNat = ms.length + 1 - p.length by omega]
    refine for_range (lo := 0) (n := ms.length + 1 - p.length) (fun i σ H3 => ∃ as x4 x5, σ = [some (.ref r), some (.ref q), some (.ref l), some (.ref o), x4, x5] ∧ Same H H3 ∧ H3 l = some (.lst (refs as)) ∧
      H3 o = some (.tup (vI (mir p))) ∧ Paired (SpT H3) as ((List.range i).flatMap (spotAt ms p))) ⟨[], none, none, rfl, s12, hl1, ho, .nil⟩ ?_ ?_
    · rintro i σ H3 hi ⟨as, x4, x5, rfl, sm, hL, hO, hP⟩
      have hin : i + p.length ≤ ms.length := by omega
      obtain ⟨dx', t', vs', hsl', hvs', ht'⟩ := id (sm.rul hR)
      refine ⟨_, rfl, r, dx', vs', rfl, hsl', r, ms, rfl, sm.rul hR, fun t3 ht3 => ?_⟩
      refine ⟨_, rfl, _, rfl, _, rfl, _, rfl, q, _, rfl, .inr (sm.tupT hq), _, _, rfl, rfl, _, rfl, cut_of (SqT.of ht3) fun H4 c s4 hc => ?_⟩
      rw [cut_seg (i := i) (n := p.length) hin (by omega) (by rw [vI_len]; omega)] at hc
      refine ⟨c, _, rfl, hc, by rw [seg_length _ _ _ hin]; exact plen, by rw [seg_length _ _ _ hin]; omega, fun H5 m s5 nm hm => ?_⟩
      have s35 : Same H3 H5 := s4.trans s5
      have sm5 : Same H H5 := sm.trans s35
      have hL5 := s35 _ _ hL
      have hO5 := s35 _ _ hO
      have hP5 := s35.spots hP
      have lenA : as.length ≤ 8 := by
        have e1 := Paired.length hP
        have e2 := flat_len (f := spotAt ms p) (fun i => spotAt_len ms p i plen) (List.range i)
        rw [List.length_range] at e2
        omega
      -- if marks == piece
      refine ⟨fun σ6 H6 => ∃ as6, σ6 = [some (.ref r), some (.ref q), some (.ref l), some (.ref o), some (.int (0 + (i : Int))), some (.ref m)] ∧ Same H H6 ∧ H6 l = some (.lst (refs as6)) ∧ H6 o = some (.tup (vI (mir p))) ∧ H6 m = some (.tup (vI (mv (seg ms i p.length)))) ∧
        as6.length ≤ 9 ∧ Paired (SpT H6) as6 ((List.range i).flatMap (spotAt ms p) ++ (if mv (seg ms i p.length) = p then [(i, false)] else [])), ?_, ?_⟩
      · refine ⟨_, rfl, _, rfl, _, _, .tup (SqT.of hm) (dpInts K H5 _), .tup (sm5.tupT hq) (dpInts K H5 _), shaped_tup _, shaped_tup _, _, rfl, ?_⟩
        rw [eqv_tup]
        by_cases hc1 : mv (seg ms i p.length) = p
        · refine ifY (decide_eq_true hc1) ?_
          refine ⟨_, rfl, .inl ⟨rfl, _, SqL.of hL5⟩, _, rfl, (by show 2 ≤ sizeLine; decide), fun T nT => ?_⟩
          have sT : Same H5 (upd H5 T (.tup [.int (0 + (i : Int)), .bl false])) := same_new nT
          refine ⟨l, _, _, rfl, rfl, sT _ _ hL5, by rw [refs_len]; exact small1000 (by omega), ?_⟩
          have nl2 : l ≠ T := ne_of_none hL5 nT
          refine ⟨as ++ [T], rfl, (sm5.trans sT).put nl _, by rw [upd_same, refs_snoc], ?_, ?_, by simp; omega, ?_⟩
          · rw [upd_ne (ne_of (sT _ _ hO5) (sT _ _ hL5) (by intro z; cases z))]
            exact sT _ _ hO5
          · rw [upd_ne (ne_of (sT _ _ hm) (sT _ _ hL5) (by intro z; cases z))]
            exact sT _ _ hm
          · rw [if_pos hc1]
            have keep : ∀ (a : Addr) (x : Nat × Bool), SpT H5 a x → SpT (upd (upd H5 T (.tup [.int (0 + (i : Int)), .bl false])) l (.lst (refs as ++ [.ref T]))) a x := fun a x hx => by
              show upd _ _ _ a = _
              rw [upd_ne (ne_of hx hL5 (by intro z; cases z))]
              exact sT _ _ hx
            refine (L2.Paired.mapP hP5 keep).snoc ?_
            show upd _ _ _ T = _
            rw [upd_ne nl2.symm, upd_same, Int.zero_add]
        · refine ifN (decide_eq_false hc1) ?_
          refine ⟨as, rfl, sm5, hL5, hO5, hm, by omega, ?_⟩
          rw [if_neg hc1, List.append_nil]
          exact hP5
      · -- if marks == other and other != piece
        rintro σ6 H6 ⟨as6, rfl, sm6, hL6, hO6, hM6, len6, hP6⟩
        refine ⟨_, rfl, _, rfl, _, _, .tup (SqT.of hM6) (dpInts K H6 _), .tup (SqT.of hO6) (dpInts K H6 _), shaped_tup _, shaped_tup _, _, rfl, ?_⟩
        rw [eqv_tup]
        have fin : ∀ H7 as7, Same H H7 → H7 l = some (.lst (refs as7)) → H7 o = some (.tup (vI (mir p))) → Paired (SpT H7) as7 ((List.range (i + 1)).flatMap (spotAt ms p)) →
            ∃ as x4 x5, [some (V.ref r), some (.ref q), some (.ref l), some (.ref o), some (.int (0 + (i : Int))), some (.ref m)] = [some (.ref r), some (.ref q), some (.ref l), some (.ref o), x4, x5] ∧ Same H H7 ∧ H7 l = some (.lst (refs as)) ∧
              H7 o = some (.tup (vI (mir p))) ∧ Paired (SpT H7) as ((List.range (i + 1)).flatMap (spotAt ms p)) := fun H7 as7 a b c d => ⟨as7, _, _, rfl, a, b, c, d⟩
        have grow : (List.range (i + 1)).flatMap (spotAt ms p) = ((List.range i).flatMap (spotAt ms p) ++ (if mv (seg ms i p.length) = p then [(i, false)] else [])) ++ (if mv (seg ms i p.length) = mir p ∧ mir p ≠ p then [(i, true)] else []) := by
          rw [List.range_succ, List.flatMap_append, List.append_assoc]
          simp [spotAt]
        by_cases hc1 : mv (seg ms i p.length) = mir p
        · refine ifY (decide_eq_true hc1) ?_
          refine ⟨_, rfl, _, rfl, _, _, .tup (SqT.of hO6) (dpInts K H6 _), .tup (sm6.tupT hq) (dpInts K H6 _), shaped_tup _, shaped_tup _, _, rfl, ?_⟩
          rw [eqv_tup]
          by_cases hc2 : mir p = p
          · refine ifN (by rw [decide_eq_true hc2]; rfl) ?_
            refine fin H6 as6 sm6 hL6 hO6 ?_
            rw [grow, if_neg (show ¬ (mv (seg ms i p.length) = mir p ∧ mir p ≠ p) from fun z => z.2 hc2), List.append_nil]
            exact hP6
          · refine ifY (by rw [decide_eq_false hc2]; rfl) ?_
            refine ⟨_, rfl, .inl ⟨rfl, _, SqL.of hL6⟩, _, rfl, (by show 2 ≤ sizeLine; decide), fun T nT => ?_⟩
            have sT : Same H6 (upd H6 T (.tup [.int (0 + (i : Int)), .bl true])) := same_new nT
            refine ⟨l, _, _, rfl, rfl, sT _ _ hL6, by rw [refs_len]; exact small1000 (by omega), ?_⟩
            have nl2 : l ≠ T := ne_of_none hL6 nT
            refine fin _ (as6 ++ [T]) ((sm6.trans sT).put nl _) (by rw [upd_same, refs_snoc]) ?_ ?_
            · rw [upd_ne (ne_of (sT _ _ hO6) (sT _ _ hL6) (by intro z; cases z))]
              exact sT _ _ hO6
            · rw [grow, if_pos (show mv (seg ms i p.length) = mir p ∧ mir p ≠ p from ⟨hc1, hc2⟩)]
              have keep : ∀ (a : Addr) (x : Nat × Bool), SpT H6 a x → SpT (upd (upd H6 T (.tup [.int (0 + (i : Int)), .bl true])) l (.lst (refs as6 ++ [.ref T]))) a x := fun a x hx => by
                show upd _ _ _ a = _
                rw [upd_ne (ne_of hx hL6 (by intro z; cases z))]
                exact sT _ _ hx
              refine (L2.Paired.mapP hP6 keep).snoc ?_
              show upd _ _ _ T = _
              rw [upd_ne nl2.symm, upd_same, Int.zero_add]
        · refine ifN (decide_eq_false hc1) ?_
          refine ifN rfl ?_
          refine fin H6 as6 sm6 hL6 hO6 ?_
          rw [grow, if_neg (show ¬ (mv (seg ms i p.length) = mir p ∧ mir p ≠ p) from fun z => hc1 z.1), List.append_nil]
          exact hP6
    · rintro σ H3 ⟨as, x4, x5, rfl, sm, hL, hO, hP⟩
      exact ⟨_, rfl, k H3 l as sm nl hL hP⟩
/-! ### spots -/
theorem scSp : FnScope ["ruler", "piece"] ["ruler", "piece"] (defScope sSp) := ⟨rfl, rfl, rfl, by decide +kernel, rfl, by decide +kernel, by decide +kernel⟩
theorem ok_sp {f fO fV : Addr} {fd fdO fdV : FuncData} (F : Fun K "spots" "spots" sSp f fd)
    (FO : Fun K "spots_on" "spots_on" sOn fO fdO) (GO : FnOk P w K mg base CX0 3 fO fdO ["ruler", "piece"] (spOn K C iM)) (bO : Binds K fdO ["ruler", "piece"] []) (gO : mg "spots_on" = some (.ref fO))
    (FV : Fun K "validate_piece" "validate_piece" sVal fV fdV) (GV : FnOk P w K mg base CX0 2 fV fdV ["piece", "index"] (spVal K)) (bV : Binds K fdV ["piece", "index"] []) (gV : mg "validate_piece" = some (.ref fV)) :
    FnOk P w K mg base CX0 4 f fd ["ruler", "piece"] (spOn K C iM) := by
  refine F.ok scSp (fun vs H Q E h => ?_) (fun cdv A outer s H vs Q E hr h => ?_)
  · obtain ⟨r, q, ms, p, rfl, _⟩ := h
    rfl
  · obtain ⟨r, q, ms, p, rfl, hR, gm, hq, gp, k⟩ := h
    have hr3 : Room 3 _ := hr
    have hr2 : Room 2 _ := hr.mono (by decide)
    refine ⟨_, pss_cons (ps_expr (pe_call GV hr2 (by rfl) gV FV.kp bV .nil pass0 (pa_cons (pv 1) (pa_cons pe_int pa_nil)))) (pss_one (ps_ret (pe_call GO hr3 (by rfl) gO FO.kp bO .nil pass0 (pa_cons (pv 0) (pa_cons (pv 1) pa_nil))))), ?_⟩
    refine ⟨_, rfl, q, p, rfl, hq, gp, fun H1 s1 => ?_⟩
    exact ⟨_, rfl, _, rfl, r, q, ms, p, rfl, s1.rul hR, gm, s1.tupT hq, gp, fun H2 l as s2 nl => k H2 l as (s1.trans s2) (s1.free nl)⟩
end
end K84
namespace K84
open PySem PySem.Spec PyProof.Rows L2 K84R
theorem ixN_at {n j : Nat} (h : j < n) : ixN n (j : Int) = some j := by
  unfold ixN
  rw [if_pos (by omega), if_pos (by omega), Int.toNat_natCast]
theorem seq_at {n j : Nat} (h : j < n) : seqIndex? (j : Int) n = some j := by
  unfold seqIndex?
  have h1 : ¬ ((j : Int) < 0) := by omega
  have h2 : (j : Int) < (n : Int) := by omega
  simp [h1, h2]
/-! ### the law's box: a list of a list of ints and an int -/
def BoxAt (H : Hp) (b l : Addr) : Prop := ∃ (s : Int) (ns : List Int), H b = some (.lst [.ref l, .int s]) ∧ H l = some (.lst (vI ns))
theorem vI_ne {ns : List Int} {a : Addr} {r : List V} : HO.lst (V.ref a :: r) ≠ .lst (vI ns) := fun z => by
  cases ns with
  | nil => cases z
  | cons n q => cases z
theorem BoxAt.ne {H : Hp} {b l : Addr} (h : BoxAt H b l) : b ≠ l := by
  obtain ⟨s, ns, h1, h2⟩ := h
  exact ne_of h1 h2 vI_ne
/-- all but the box stays -/
def Step (b l : Addr) (H H' : Hp) : Prop := ∀ c o, H c = some o → c ≠ b → c ≠ l → H' c = some o
theorem Step.refl (b l : Addr) (H : Hp) : Step b l H H := fun _ _ h _ _ => h
theorem Step.trans {b l : Addr} {H H1 H2 : Hp} (s : Step b l H H1) (t : Step b l H1 H2) : Step b l H H2 := fun c o h n1 n2 => t c o (s c o h n1 n2) n1 n2
theorem Step.of {b l : Addr} {H H' : Hp} (s : Same H H') : Step b l H H' := fun c o h _ _ => s c o h
theorem Step.new {b l p : Addr} {H H' : Hp} {o : HO} (s : Step b l H H') (n : H' p = none) : Step b l H (upd H' p o) := s.trans (.of (same_new n))
/-- a store where at first nothing was tracked -/
theorem Step.put {b l : Addr} {H H' : Hp} (s : Step b l H H') {D : Addr} (n : H D = none) (o : HO) : Step b l H (upd H' D o) := fun c u e n1 n2 => by
  rw [upd_ne (ne_of_none e n)]
  exact s c u e n1 n2
theorem Step.free {b l : Addr} {H H' : Hp} (s : Step b l H H') {p : Addr} (hb : ∃ o, H' b = some o) (hl : ∃ o, H' l = some o) (n : H' p = none) : H p = none := by
  cases e : H p with
  | none => rfl
  | some o =>
    have n1 : p ≠ b := fun z => by
      obtain ⟨u, hu⟩ := hb
      rw [z, hu] at n
      cases n
    have n2 : p ≠ l := fun z => by
      obtain ⟨u, hu⟩ := hl
      rw [z, hu] at n
      cases n
    rw [s p o e n1 n2] at n
    cases n
theorem BoxAt.some {H : Hp} {b l : Addr} (h : BoxAt H b l) : (∃ o, H b = some o) ∧ ∃ o, H l = some o := by
  obtain ⟨s, ns, h1, h2⟩ := h
  exact ⟨⟨_, h1⟩, ⟨_, h2⟩⟩
theorem BoxAt.same {H H' : Hp} {b l : Addr} (h : BoxAt H b l) (s : Same H H') : BoxAt H' b l := by
  obtain ⟨z, ns, h1, h2⟩ := h
  exact ⟨z, ns, s _ _ h1, s _ _ h2⟩
/-- what is no list stays -/
theorem Step.at {b l : Addr} {H H' : Hp} (s : Step b l H H') (h : BoxAt H b l) {a : Addr} {o : HO} (e : H a = some o) (n : ∀ xs, o ≠ .lst xs) : H' a = some o := by
  obtain ⟨z, ns, h1, h2⟩ := h
  exact s a o e (ne_of e h1 (n _)) (ne_of e h2 (n _))
theorem Step.rul {C b l : Addr} {iM : Nat} {H H' : Hp} {r : Addr} {ms : List Int} (s : Step b l H H') (hb : BoxAt H b l) (h : RulAt C iM H r ms) : RulAt C iM H' r ms := by
  obtain ⟨dx, t, vs, h1, h2, h3⟩ := h
  refine ⟨dx, t, vs, ?_, h2, s.at hb h3 fun xs z => by cases z⟩
  rcases h1 with ⟨a, c⟩ | ⟨a, c⟩
  · exact .inl ⟨s.at hb a fun xs z => (by cases z), c⟩
  · refine .inr ⟨s.at hb a fun xs z => ?_, s.at hb c fun xs z => (by cases z)⟩
    unfold SlX.SlO at z
    cases z
section
variable {P : Program} {w : World} {K : PySem.W.Frag} {mg : Str → Option Value} {base : Heap} {C pM pE pP gP gL : Addr} {iM iE : Nat}
/-! ### _law_begun -/
theorem scBeg : FnScope ["_law_script", "_law_stirred", "_law_cell"] ["_law_script"] (defScope sBeg) := ⟨rfl, rfl, rfl, by decide +kernel, rfl, by decide +kernel, by decide +kernel⟩
def spBeg (K : PySem.W.Frag) : Sp := fun vs H Q _ => ∃ (a : Addr) (ns : List Int), vs = [.ref a] ∧ SqL K H a (vI ns) ∧ ns.length ≤ 63 ∧
  ∀ (H' : Hp) (b l : Addr), Same H H' → BoxAt H' b l → Q (.ref b) H'
theorem ok_beg {f : Addr} {fd : FuncData} (F : Fun K "_law_begun" "_law_begun" sBeg f fd) (B : Bl mg) : FnOk P w K mg base CX0 1 f fd ["_law_script"] (spBeg K) := by
  refine F.ok scBeg (fun vs H Q E h => ?_) (fun cdv A outer s H vs Q E hr h => ?_)
  · obtain ⟨a, ns, rfl, _⟩ := h
    rfl
  · obtain ⟨a, ns, rfl, hS, hlen, k⟩ := h
    refine ⟨_, pss_cons (ps_set (i := 1) scBeg.nd rfl (Or.inl rfl) pe_int)
      (pss_cons (ps_for PassesOwn.never rfl (pi_list (pv 0)) (pg_name (i := 2) scBeg.nd rfl (Or.inl rfl))
        (pss_one (ps_set (i := 1) scBeg.nd rfl (Or.inl rfl) (pe_op op_mod (pe_callTy call_int1 (by rfl) B.int (by decide +kernel) (pa_cons
          (pe_op op_add (pe_op op_add (pe_op op_mul (pv 1) pe_int) (pe_op op_mul (pv 2) pe_int)) pe_int) pa_nil)) pe_int))))
      (pss_one (ps_ret (pe_lst (pa_cons (pe_callTy call_list_of (by rfl) B.list (by decide +kernel) (pa_cons (pv 0) pa_nil)) (pa_cons
        (pe_op op_mul (pv 1) (pe_callTy call_int1 (by rfl) B.int (by decide +kernel) (pa_cons (pe_cmpR op_gt (pe_callB call_len_seq (by rfl) B.len PySem.boot_len (pa_cons (pv 0) pa_nil)) pe_int (nomark _)) pa_nil))) pa_nil)))))), ?_⟩
    refine ⟨_, rfl, a, rfl, ⟨_, hS⟩, for_list (K := K) (a := a) (xs := vI ns) (fun i σ H' => ∃ (z : Int) (x2 : Option V), σ = [some (.ref a), some (.int z), x2] ∧ H' = H) ⟨0, none, rfl, rfl⟩ (fun i σ H' _ ⟨_, _, _, e⟩ => by rw [e]; exact hS) ?_ ?_⟩
    · rintro i y σ H' hy ⟨z, x2, rfl, rfl⟩
      obtain ⟨c, _, rfl⟩ := vI_at hy
      refine ⟨_, rfl, _, _, rfl, rfl, .inr ⟨by decide, by decide⟩, _, rfl, _, _, rfl, rfl, .inr ⟨by decide, by decide⟩, _, _, rfl, rfl, _, _, rfl, rfl, .inl ⟨_, rfl, _, _, rfl, rfl, (by show (0 : Int) < 2147483647; decide), ?_⟩⟩
      exact ⟨_, _, rfl, rfl⟩
    · rintro σ H' ⟨z, x2, rfl, rfl⟩
      refine ⟨_, rfl, a, _, rfl, .inl hS, fun l nl => ?_⟩
      have s1 : Same H' (upd H' l (.lst (vI ns))) := same_new nl
      refine ⟨_, rfl, _, rfl, a, _, rfl, .inl (s1.seq hS), _, _, rfl, rfl, .inr ⟨_, rfl, _, _, rfl, rfl, .inr (by split <;> decide), ?_⟩⟩
      refine ⟨(by show 2 ≤ sizeLine; decide), fun b nb => ?_⟩
      have s2 := s1.trans (same_new (o := .lst [.ref l, .int (z * (if decide ((2 : Int) < ((vI ns).length : Nat)) = true then 1 else 0))]) nb)
      refine k _ b l s2 ⟨_, ns, upd_same, ?_⟩
      rw [upd_ne (ne_of_none upd_same nb), upd_same]
/-! ### _law_take -/
theorem scTake : FnScope ["_law_box", "_law_many", "_law_figure"] ["_law_box", "_law_many"] (defScope sTake) := ⟨rfl, rfl, rfl, by decide +kernel, rfl, by decide +kernel, by decide +kernel⟩
def spTake : Sp := fun vs H Q _ => ∃ (b l : Addr) (m : Int), vs = [.ref b, .int m] ∧ BoxAt H b l ∧ 1 ≤ m ∧ m ≤ 1000 ∧
  ∀ (H' : Hp) (r : Int), Step b l H H' → BoxAt H' b l → 0 ≤ r → r < m → Q (.int r) H'
theorem ok_take {f : Addr} {fd : FuncData} (F : Fun K "_law_take" "_law_take" sTake f fd) (B : Bl mg) : FnOk P w K mg base CX0 1 f fd ["_law_box", "_law_many"] spTake := by
  refine F.ok scTake (fun vs H Q E h => ?_) (fun cdv A outer s H vs Q E hr h => ?_)
  · obtain ⟨b, l, m, rfl, _⟩ := h
    rfl
  · obtain ⟨b, l, m, rfl, hB, m1, m2, k⟩ := h
    have nbl := hB.ne
    obtain ⟨z, ns, hb, hl⟩ := hB
    refine ⟨_, pss_cons (ps_if (pt_cmpR (op_eqD hr.units) (pe_ix ix_list (pv 0) pe_int (fun _ _ => rfl)) (pe_lst pa_nil) (nomark _))
        (pss_cons (ps_asg (pe_op op_mod (pe_callTy call_int1 (by rfl) B.int (by decide +kernel) (pa_cons (pe_op op_mul (pe_ix ix_list (pv 0) pe_int (fun _ _ => rfl)) pe_int) pa_nil)) pe_int) (pg_sub (pv 0) pe_int set_list))
        (pss_one (ps_ret (pe_op op_mod (pe_callTy call_int1 (by rfl) B.int (by decide +kernel) (pa_cons (pe_op op_fdiv (pe_ix ix_list (pv 0) pe_int (fun _ _ => rfl)) pe_int) pa_nil)) (pv 1))))) pss_nil)
      (pss_cons (ps_set (i := 2) scTake.nd rfl (Or.inl rfl) (pe_ix ix_list (pe_ix ix_list (pv 0) pe_int (fun _ _ => rfl)) pe_int (fun _ _ => rfl)))
      (pss_cons (ps_asg (pe_op op_fdiv (pv 2) (pv 1)) (pg_sub (pe_ix ix_list (pv 0) pe_int (fun _ _ => rfl)) pe_int set_list))
      (C8.pss_cut (ps_if (PW.pt (pw_or (pt_cmpR op_eq (pe_ix ix_list (pe_ix ix_list (pv 0) pe_int (fun _ _ => rfl)) pe_int (fun _ _ => rfl)) pe_int (nomark _))
          (pw_or1 (pt_cmpR op_eq (pe_ix ix_list (pe_ix ix_list (pv 0) pe_int (fun _ _ => rfl)) pe_int (fun _ _ => rfl)) (pe_un un_neg pe_int) (nomark _)))))
          (pss_one (ps_expr (pe_bm PySem.F.plainAttrs_list PySem.F.slot_list_pop PySem.F.type_list_pop mt_popAt (pe_ix ix_list (pv 0) pe_int (fun _ _ => rfl)) (pa_cons pe_int pa_nil)))) pss_nil)
      (pss_one (ps_ret (pe_op op_mod (pv 2) (pv 1))))))), ?_⟩
    -- if _law_box[0] == []
    refine ⟨_, rfl, b, _, 0, .ref l, rfl, rfl, SqL.of hb, atI_nat (j := 0) rfl, Nat.zero_le _, fun e ne => ?_⟩
    have s1 : Same H (upd H e (.lst [])) := same_new ne
    have hb1 := s1 _ _ hb
    have hl1 := s1 _ _ hl
    refine ⟨_, _, .lst (SqL.of hl1) (dpInts K _ ns), .lst (ds := ([] : List Int).map PyData.int) (SqL.of upd_same) .nil, shaped_lst ns, shaped_lst [], _, rfl, ?_⟩
    rw [eqv_lst]
    generalize upd H e (.lst []) = H1 at s1 hb1 hl1 ⊢
    cases ns with
    | nil =>
      refine ifY (decide_eq_true rfl) ?_
      refine ⟨_, rfl, b, _, 1, .int z, rfl, rfl, SqL.of hb1, atI_nat (j := 1) rfl, _, _, rfl, rfl, .inr ⟨by decide, by decide⟩, .inl ⟨_, rfl, _, _, rfl, rfl, (by show (0 : Int) < 2147483647; decide), ?_⟩⟩
      refine ⟨_, rfl, b, _, 1, 1, rfl, rfl, hb1, rfl, ?_⟩
      refine ⟨_, rfl, b, _, 1, _, rfl, rfl, SqL.of upd_same, atI_nat (j := 1) rfl, _, _, rfl, rfl, ⟨by decide, by decide⟩, .inl ⟨_, rfl, _, rfl, _, _, rfl, rfl, (by show (0 : Int) < m; omega), ?_⟩⟩
      refine k _ _ (fun c o hc n1 n2 => ?_) ⟨_, [], upd_same, ?_⟩ (Int.emod_nonneg _ (by omega)) (Int.emod_lt_of_pos _ (by omega))
      · rw [upd_ne n1]
        exact s1 _ _ hc
      · rw [upd_ne nbl.symm]
        exact hl1
    | cons n r =>
      refine ifN (decide_eq_false fun q => by cases q) ?_
      refine ⟨_, rfl, b, _, 0, .ref l, rfl, rfl, SqL.of hb1, atI_nat (j := 0) rfl, l, _, 0, .int n, rfl, rfl, SqL.of hl1, atI_nat (j := 0) rfl, ?_⟩
      refine ⟨_, rfl, _, rfl, _, _, rfl, rfl, ⟨by omega, by omega⟩, _, rfl, b, _, 0, .ref l, rfl, rfl, SqL.of hb1, atI_nat (j := 0) rfl, l, _, 0, 0, rfl, rfl, hl1, ixN_at (j := 0) (by rw [vI_len]; exact Nat.succ_pos _), ?_⟩
      have hb2 : (upd H1 l (.lst ((vI (n :: r)).set 0 (.int (n / m))))) b = some (.lst [.ref l, .int z]) := by
        rw [upd_ne nbl]
        exact hb1
      have hl2 : (upd H1 l (.lst ((vI (n :: r)).set 0 (.int (n / m))))) l = some (.lst (vI ((n / m) :: r))) := upd_same
      have st2 : Step b l H (upd H1 l (.lst ((vI (n :: r)).set 0 (.int (n / m))))) := fun c o hc n1 n2 => by
        rw [upd_ne n2]
        exact s1 _ _ hc
      generalize upd H1 l (.lst ((vI (n :: r)).set 0 (.int (n / m)))) = H2 at hb2 hl2 st2 ⊢
      refine ⟨fun σ' H' => σ' = [some (.ref b), some (.int m), some (.int n)] ∧ Step b l H H' ∧ BoxAt H' b l, ?_, ?_⟩
      · have stay : ([some (V.ref b), some (.int m), some (.int n)] : L2.St) = [some (.ref b), some (.int m), some (.int n)] ∧ Step b l H H2 ∧ BoxAt H2 b l := ⟨rfl, st2, z, _, hb2, hl2⟩
        have gone : ([some (V.ref b), some (.int m), some (.int n)] : L2.St) = [some (.ref b), some (.int m), some (.int n)] ∧ Step b l H (upd H2 l (.lst ((vI ((n / m) :: r)).eraseIdx 0))) ∧ BoxAt (upd H2 l (.lst ((vI ((n / m) :: r)).eraseIdx 0))) b l := by
          refine ⟨rfl, fun c o hc n1 n2 => ?_, z, r, ?_, upd_same⟩
          · rw [upd_ne n2]
            exact st2 c o hc n1 n2
          · rw [upd_ne nbl]
            exact hb2
        refine ⟨_, rfl, b, _, 0, .ref l, rfl, rfl, SqL.of hb2, atI_nat (j := 0) rfl, l, _, 0, .int (n / m), rfl, rfl, SqL.of hl2, atI_nat (j := 0) rfl, rfl, _, rfl, ?_⟩
        refine ite2 (fun _ => ?_) (fun _ => ?_)
        · refine iteT ?_
          exact ⟨_, rfl, b, _, 0, .ref l, rfl, rfl, SqL.of hb2, atI_nat (j := 0) rfl, .inl ⟨rfl, _, SqL.of hl2⟩, l, _, 0, 0, _, rfl, rfl, hl2, by decide, by decide, seq_at (j := 0) (by rw [vI_len]; exact Nat.succ_pos _), rfl, gone⟩
        · refine ⟨_, rfl, b, _, 0, .ref l, rfl, rfl, SqL.of hb2, atI_nat (j := 0) rfl, l, _, 0, .int (n / m), rfl, rfl, SqL.of hl2, atI_nat (j := 0) rfl, _, rfl, rfl, _, rfl, ?_⟩
          refine ite2 (fun _ => ?_) (fun _ => ?_)
          · exact ⟨_, rfl, b, _, 0, .ref l, rfl, rfl, SqL.of hb2, atI_nat (j := 0) rfl, .inl ⟨rfl, _, SqL.of hl2⟩, l, _, 0, 0, _, rfl, rfl, hl2, by decide, by decide, seq_at (j := 0) (by rw [vI_len]; exact Nat.succ_pos _), rfl, gone⟩
          · exact stay
      · rintro σ' H' ⟨rfl, st, bx⟩
        exact ⟨_, rfl, _, rfl, _, _, rfl, rfl, (by show (0 : Int) < m; omega), k H' _ st bx (Int.emod_nonneg _ (by omega)) (Int.emod_lt_of_pos _ (by omega))⟩
end
end K84
namespace K84
open PySem PySem.Spec PyProof.Rows L2 K84R
/-! ### marks that are drawn -/
def pool (n : Nat) : List Int := (List.range n).map fun (i : Nat) => 1 + (i : Int)
theorem pool_len (n : Nat) : (pool n).length = n := by simp [pool]
theorem pool_nd (n : Nat) : (0 :: pool n).Nodup := by
  refine List.nodup_cons.mpr ⟨fun h => ?_, ?_⟩
  · obtain ⟨i, _, e⟩ := List.mem_map.mp h
    omega
  · unfold pool
    exact List.pairwise_map.mpr (List.nodup_range.imp fun h e => h (by omega))
theorem pool_mem {n : Nat} {x : Int} (h : x ∈ 0 :: pool n) : 0 ≤ x ∧ x ≤ n := by
  rcases List.mem_cons.mp h with rfl | later
  · omega
  · obtain ⟨i, hi, rfl⟩ := List.mem_map.mp later
    have := List.mem_range.mp hi
    omega
theorem marks_good {n : Nat} {fs ls ms : List Int} (hp : (fs ++ ls).Perm (0 :: pool n)) (h0 : 0 ∈ fs) (h2 : 2 ≤ fs.length) (h8 : fs.length ≤ 8) (hn : n ≤ 30) (hs : ms.Perm fs) (hr : ms.Pairwise (· ≤ ·)) : GoodM ms := by
  have nd1 : (fs ++ ls).Nodup := hp.symm.nodup (pool_nd n)
  have nd2 : fs.Nodup := (List.nodup_append.mp nd1).1
  have nd3 : ms.Nodup := hs.symm.nodup nd2
  have hlt : ms.Pairwise (· < ·) := lt_of_le_nodup ms hr nd3
  have bd : ∀ x ∈ ms, 0 ≤ x ∧ x ≤ n := fun x hx => pool_mem (hp.mem_iff.mp (List.mem_append_left _ (hs.mem_iff.mp hx)))
  have hl := hs.length_eq
  refine ⟨by omega, by omega, ?_, hlt, fun m hm => by have := bd m hm; omega⟩
  have z : (0 : Int) ∈ ms := hs.mem_iff.mpr h0
  cases ms with
  | nil => cases z
  | cons x r =>
    rcases List.mem_cons.mp z with e | e
    · rw [← e]
      rfl
    · have l := List.rel_of_pairwise_cons hlt e
      have := bd x List.mem_cons_self
      omega
theorem pool_rg (n : Nat) : rgV 1 ((n : Int) + 1) = vI (pool n) := by
  unfold rgV pool vI
  rw [show ((n : Int) + 1 - 1).toNat = n by omega, List.map_map]
  rfl
theorem erase_vI (ls : List Int) (k : Nat) : (vI ls).eraseIdx k = vI (ls.eraseIdx k) := erase_mapI ls k
theorem vI_snoc (fs : List Int) (y : Int) : vI fs ++ [.int y] = vI (fs ++ [y]) := by
  unfold vI
  rw [List.map_append]
  rfl
section
variable {P : Program} {w : World} {K : PySem.W.Frag} {mg : Str → Option Value} {base : Heap} {C pM pE pP gP gL : Addr} {iM iE : Nat}
/-! ### _law_marks -/
theorem scMarks : FnScope ["_law_box", "_law_most", "_law_length", "_law_left", "_law_found", "_law_turn"] ["_law_box", "_law_most", "_law_length"] (defScope sMarks) := ⟨rfl, rfl, rfl, by decide +kernel, rfl, by decide +kernel, by decide +kernel⟩
def spMarks : Sp := fun vs H Q _ => ∃ (b l : Addr) (n : Nat), vs = [.ref b, .int 8, .int (n : Nat)] ∧ BoxAt H b l ∧ 9 ≤ n ∧ n ≤ 30 ∧
  ∀ (H' : Hp) (t : Addr) (ms : List Int), Step b l H H' → BoxAt H' b l → H' t = some (.tup (vI ms)) → GoodM ms → Q (.ref t) H'
theorem ok_marks {f fT : Addr} {fd fdT : FuncData} (F : Fun K "_law_marks" "_law_marks" sMarks f fd) (B : Bl mg)
    (FT : Fun K "_law_take" "_law_take" sTake fT fdT) (bT : Binds K fdT ["_law_box", "_law_many"] []) (gT : mg "_law_take" = some (.ref fT)) :
    FnOk P w K mg base CX0 2 f fd ["_law_box", "_law_most", "_law_length"] spMarks := by
  have GT : FnOk P w K mg base CX0 1 fT fdT ["_law_box", "_law_many"] spTake := ok_take FT B
  refine F.ok scMarks (fun vs H Q E h => ?_) (fun cdv A outer s H vs Q E hr h => ?_)
  · obtain ⟨b, l, n, rfl, _⟩ := h
    rfl
  · obtain ⟨b, l, n, rfl, hB, n9, n30, k⟩ := h
    have hr1 : Room 1 _ := hr
    refine ⟨_, pss_cons (ps_par (i := 3) (j := 4) (by rfl) scMarks.nd rfl rfl (by decide) rfl rfl (pa_cons (pe_listRg rfl (by rfl) B.list (prg_2 (by rfl) B.range pe_int (pe_op op_add (pv 2) pe_int))) (pa_cons (pe_lst (pa_cons pe_int pa_nil)) pa_nil)) (by rfl))
      (pss_cons (ps_for PassesOwn.never rfl (pi_range1 (by rfl) B.range (pa_cons (pe_op op_add pe_int (pe_call GT hr1 (by rfl) gT FT.kp bT .nil pass0 (pa_cons (pv 0) (pa_cons (pe_op op_sub (pv 1) pe_int) pa_nil)))) pa_nil))
          (pg_name (i := 5) scMarks.nd rfl (Or.inl rfl))
        (pss_one (ps_if (pt_cmpR (op_neD hr.units) (pv 3) (pe_lst pa_nil) (nomark _))
          (pss_one (ps_expr (pe_bm PySem.F.plainAttrs_list PySem.F.slot_list_append PySem.F.type_list_append mt_append (pv 4) (pa_cons
            (pe_bm PySem.F.plainAttrs_list PySem.F.slot_list_pop PySem.F.type_list_pop mt_popAt (pv 3) (pa_cons
              (pe_call GT hr1 (by rfl) gT FT.kp bT .nil pass0 (pa_cons (pv 0) (pa_cons (pe_callB call_len_seq (by rfl) B.len PySem.boot_len (pa_cons (pv 3) pa_nil)) pa_nil))) pa_nil)) pa_nil)))) pss_nil)))
      (pss_one (ps_ret (pe_callTy call_tuple_of (by rfl) B.tuple (by decide +kernel) (pa_cons (pe_callB cr_sorted (by rfl) B.sorted (by decide +kernel) (pa_cons (pv 4) pa_nil)) pa_nil))))), ?_⟩
    -- _law_left, _law_found
    refine ⟨_, rfl, _, _, rfl, rfl, 1, (n : Int) + 1, rfl, rfl, RgOk.of_le (by omega) (by omega) (by omega) (by omega), fun L nL => ?_⟩
    rw [pool_rg]
    have s1 : Same H (upd H L (.lst (vI (pool n)))) := same_new nL
    refine ⟨(by show 1 ≤ sizeLine; decide), fun Fo nF => ?_⟩
    have s2 : Same (upd H L (.lst (vI (pool n)))) (upd (upd H L (.lst (vI (pool n)))) Fo (.lst (vI [0]))) := same_new nF
    have nFH : H Fo = none := s1.free nF
    have hL1 : (upd (upd H L (.lst (vI (pool n)))) Fo (.lst (vI [0]))) L = some (.lst (vI (pool n))) := s2 _ _ upd_same
    have hF1 : (upd (upd H L (.lst (vI (pool n)))) Fo (.lst (vI [0]))) Fo = some (.lst (vI [0])) := upd_same
    have nLF : L ≠ Fo := ne_of_none upd_same nF
    have s12 := s1.trans s2
    have hB1 := hB.same s12
    obtain ⟨⟨ob, hob⟩, ⟨ol, hol⟩⟩ := hB.some
    have nLb : L ≠ b := (ne_of_none hob nL).symm
    have nLl : L ≠ l := (ne_of_none hol nL).symm
    have nFb : Fo ≠ b := (ne_of_none hob nFH).symm
    have nFl : Fo ≠ l := (ne_of_none hol nFH).symm
    refine ⟨_, _, rfl, ?_⟩
    show _
    refine ⟨_, rfl, _, rfl, _, _, rfl, rfl, b, l, 7, rfl, hB1, by decide, by decide, fun H2 r st2 hB2 r0 r7 => ?_⟩
    have hL2 := st2 _ _ hL1 nLb nLl
    have hF2 := st2 _ _ hF1 nFb nFl
    have st02 : Step b l H H2 := (Step.of s12).trans st2
    refine ⟨_, _, rfl, rfl, _, rfl, by omega, by omega, ?_⟩
    obtain ⟨t, ht1, ht7, et⟩ : ∃ t : Nat, 1 ≤ t ∧ t ≤ 7 ∧ (1 + r).toNat = t := ⟨(1 + r).toNat, by omega, by omega, rfl⟩
    rw [et]
    refine for_range (lo := 0) (n := t) (fun i σ H3 => ∃ (ls fs : List Int) (x5 : Option V), σ = [some (.ref b), some (.int 8), some (.int (n : Nat)), some (.ref L), some (.ref Fo), x5] ∧ Step b l H H3 ∧ BoxAt H3 b l ∧
      H3 L = some (.lst (vI ls)) ∧ H3 Fo = some (.lst (vI fs)) ∧ fs.length = i + 1 ∧ ls.length + i = n ∧ (fs ++ ls).Perm (0 :: pool n) ∧ 0 ∈ fs) ⟨pool n, [0], none, rfl, st02, hB2, hL2, hF2, rfl, pool_len n, .refl _, List.mem_cons_self⟩ ?_ ?_
    · rintro i σ H3 hi ⟨ls, fs, x5, rfl, st, hB3, hL3, hF3, lf, ll, hp, h0⟩
      have ne0 : ls ≠ [] := fun z => by rw [z] at ll; simp at ll; omega
      refine ⟨_, rfl, Nat.zero_le _, fun e ne => ?_⟩
      have s4 : Same H3 (upd H3 e (.lst [])) := same_new ne
      have hL4 := s4 _ _ hL3
      have hF4 := s4 _ _ hF3
      have hB4 := hB3.same s4
      have st4 : Step b l H (upd H3 e (.lst [])) := st.trans (.of s4)
      refine ⟨_, _, .lst (SqL.of hL4) (dpInts K _ ls), .lst (ds := ([] : List Int).map PyData.int) (SqL.of upd_same) .nil, shaped_lst ls, shaped_lst [], _, rfl, ?_⟩
      rw [eqv_lst]
      generalize upd H3 e (.lst []) = H4 at s4 hL4 hF4 hB4 st4 ⊢
      refine ifY (by rw [decide_eq_false ne0]; rfl) ?_
      refine ⟨_, rfl, .inl ⟨rfl, _, SqL.of hF4⟩, _, rfl, .inl ⟨rfl, _, SqL.of hL4⟩, _, rfl, _, rfl, L, _, rfl, .inl (SqL.of hL4), b, l, _, rfl, hB4, ?_, ?_, fun H5 r st5 hB5 r0 rn => ?_⟩
      · rw [vI_len]; omega
      · rw [vI_len]; omega
      · rw [vI_len] at rn
        obtain ⟨j, rfl⟩ : ∃ j : Nat, r = (j : Int) := ⟨r.toNat, by omega⟩
        have hj : j < ls.length := by omega
        have hL5 := st5 _ _ hL4 nLb nLl
        have hF5 := st5 _ _ hF4 nFb nFl
        refine ⟨L, _, _, j, _, rfl, rfl, hL5, by omega, by omega, seq_at (by rw [vI_len]; exact hj), at_vI (List.getElem?_eq_getElem hj), ?_⟩
        rw [erase_vI]
        refine ⟨Fo, _, _, rfl, rfl, by rw [upd_ne nLF.symm]; exact hF5, by rw [vI_len]; exact small1000 (by omega), ?_⟩
        rw [vI_snoc]
        have st6 : Step b l H (upd (upd H5 L (.lst (vI (ls.eraseIdx j)))) Fo (.lst (vI (fs ++ [ls[j]])))) := ((st4.trans st5).put nL _).put nFH _
        refine ⟨ls.eraseIdx j, fs ++ [ls[j]], _, rfl, st6, ?_, ?_, upd_same, by simp; omega, ?_, ?_, List.mem_append_left _ h0⟩
        · obtain ⟨z, ns, h1, h2⟩ := hB5
          exact ⟨z, ns, by rw [upd_ne nFb.symm, upd_ne nLb.symm]; exact h1, by rw [upd_ne nFl.symm, upd_ne nLl.symm]; exact h2⟩
        · rw [upd_ne nLF, upd_same]
        · rw [List.length_eraseIdx_of_lt hj]; omega
        · refine List.Perm.trans ?_ hp
          rw [List.append_assoc]
          exact List.Perm.append_left fs (erase_perm ls j ls[j] (List.getElem?_eq_getElem hj))
    · rintro σ H3 ⟨ls, fs, x5, rfl, st, hB3, hL3, hF3, lf, ll, hp, h0⟩
      refine ⟨_, rfl, Fo, fs, rfl, SqL.of hF3, by omega, fun ms q hs hle nq => ?_⟩
      refine ⟨q, _, rfl, .inl ⟨SqL.of upd_same, fun u nu => ?_⟩⟩
      refine k _ u ms ((st.new nq).new nu) ((hB3.same (same_new nq)).same (same_new nu)) upd_same ?_
      exact marks_good hp h0 (by omega) (by omega) n30 hs hle
/-! ### _law_ruler -/
theorem scRul : FnScope ["_law_box", "_law_most", "_law_length"] ["_law_box", "_law_most", "_law_length"] (defScope sRul) := ⟨rfl, rfl, rfl, by decide +kernel, rfl, by decide +kernel, by decide +kernel⟩
def spRul (C : Addr) (iM : Nat) : Sp := fun vs H Q _ => ∃ (b l : Addr) (n : Nat), vs = [.ref b, .int 8, .int (n : Nat)] ∧ BoxAt H b l ∧ 9 ≤ n ∧ n ≤ 30 ∧
  ∀ (H' : Hp) (r : Addr) (ms : List Int), Step b l H H' → BoxAt H' b l → RulAt C iM H' r ms → GoodM ms → Q (.ref r) H'
theorem ok_rul {f fT fM fI : Addr} {fd fdT fdM fdI : FuncData} (F : Fun K "_law_ruler" "_law_ruler" sRul f fd)
    (FT : Fun K "_law_take" "_law_take" sTake fT fdT) (GT : FnOk P w K mg base CX0 1 fT fdT ["_law_box", "_law_many"] spTake) (bT : Binds K fdT ["_law_box", "_law_many"] []) (gT : mg "_law_take" = some (.ref fT))
    (FM : Fun K "_law_marks" "_law_marks" sMarks fM fdM) (GM : FnOk P w K mg base CX0 2 fM fdM ["_law_box", "_law_most", "_law_length"] spMarks) (bM : Binds K fdM ["_law_box", "_law_most", "_law_length"] []) (gM : mg "_law_marks" = some (.ref fM))
    (MK : Mk K C fI) (GI : FnOk P w K mg base CX0 2 fI fdI ["self", "marks", "error"] (spRIni C iM)) (bI : Binds K fdI ["self", "marks", "error"] []) (gC : mg "Ruler" = some (.ref C)) :
    FnOk P w K mg base CX0 4 f fd ["_law_box", "_law_most", "_law_length"] (spRul C iM) := by
  refine F.ok scRul (fun vs H Q E h => ?_) (fun cdv A outer s H vs Q E hr h => ?_)
  · obtain ⟨b, l, n, rfl, _⟩ := h
    rfl
  · obtain ⟨b, l, n, rfl, hB, n9, n30, k⟩ := h
    have hr3 : Room 3 _ := hr
    have hr2 : Room 2 _ := hr.mono (by decide)
    have hr1 : Room 1 _ := hr.mono (by decide)
    refine ⟨_, pss_one (ps_ret (pe_make MK GI hr3 (by rfl) gC bI .nil pass0 (pa_cons (pe_call GM hr2 (by rfl) gM FM.kp bM .nil pass0 (pa_cons (pv 0) (pa_cons (pv 1) (pa_cons (pv 2) pa_nil))))
      (pa_cons (pe_call GT hr1 (by rfl) gT FT.kp bT .nil pass0 (pa_cons (pv 0) (pa_cons pe_int pa_nil))) pa_nil)))), ?_⟩
    refine ⟨_, rfl, _, rfl, _, rfl, b, l, n, rfl, hB, n9, n30, fun H1 t ms st1 hB1 ht g => ?_⟩
    refine ⟨_, rfl, b, l, 4, rfl, hB1, by decide, by decide, fun H2 e st2 hB2 e0 e4 => ?_⟩
    intro x dx nx ndx nex
    have ht2 : H2 t = some (.tup (vI ms)) := st2.at hB1 ht fun xs z => by cases z
    have sN : Same H2 (upd (upd H2 dx (.own x)) x (.ins C dx [])) := fun c o hc => by
      rw [upd_ne (ne_of_none hc nx), upd_ne (ne_of_none hc ndx)]
      exact hc
    refine ⟨x, dx, t, ms, e, rfl, upd_same, nex, by rw [upd_ne nex, upd_same], sN _ _ ht2, g, e0, by omega, fun H3 hR keep => ⟨rfl, ?_⟩⟩
    have s23 : Same H2 H3 := fun c o hc => keep c o (sN _ _ hc) (ne_of_none hc nx) (ne_of_none hc ndx)
    exact k H3 x ms ((st1.trans st2).trans (.of s23)) (hB2.same s23) hR g
end
end K84
namespace K84
open PySem PySem.Spec PyProof.Rows L2 K84R
/-! ### places on the heap -/
def PlT (H : Hp) (a : Addr) (c : Pl) : Prop := H a = some (.tup [.int (c.1 : Nat), .int (c.2.1 : Nat), .bl c.2.2])
theorem _root_.L2.Same.pls {H H' : Hp} (s : Same H H') {as : List Addr} {cs : List Pl} (h : Paired (PlT H) as cs) : Paired (PlT H') as cs := L2.Paired.mapP h fun _ _ z => s _ _ z
def plD (c : Pl) : PyData := .tuple [.int (c.1 : Nat), .int (c.2.1 : Nat), .bool c.2.2]
theorem dpPl (K : PySem.W.Frag) {H : Hp} {a : Addr} {c : Pl} (h : PlT H a c) : Dp K H (.ref a) (plD c) := .tup (SqT.of h) (.cons (.int _) (.cons (.int _) (.cons (.bl _) .nil)))
theorem dpPls (K : PySem.W.Frag) {H : Hp} : ∀ {as : List Addr} {cs : List Pl}, Paired (PlT H) as cs → DpAll K H (refs as) (cs.map plD)
  | _, _, .nil => .nil
  | _, _, .cons h t => .cons (dpPl K h) (dpPls K t)
theorem lay_pls : ∀ cs : List Pl, PyData.canLayAll0 (cs.map plD) = true
  | [] => rfl
  | c :: r => by
    have ih := lay_pls r
    simp [PyData.canLayAll0, PyData.canLay0, plD, ih]
theorem depth_pls : ∀ cs : List Pl, PyData.depthAll (cs.map plD) ≤ 3
  | [] => Nat.le_trans (Nat.le_of_eq (by simp [PyData.depthAll])) (Nat.zero_le _)
  | c :: r => by
    have ih := depth_pls r
    simp [PyData.depthAll, PyData.depth, plD]
    try omega
theorem shaped_pl (c : Pl) : SeqAt.shaped (plD c) = true := by
  refine Bool.and_eq_true_iff.mpr ⟨?_, decide_eq_true ?_⟩
  · simp [plD, PyData.canLay0, PyData.canLayAll0]
  · simp [plD, PyData.depth, PyData.depthAll]
theorem shaped_lpl (cs : List Pl) : SeqAt.shaped (.list (cs.map plD)) = true := by
  have h1 := lay_pls cs
  have h2 := depth_pls cs
  refine Bool.and_eq_true_iff.mpr ⟨h1, decide_eq_true ?_⟩
  show PyData.depth _ ≤ 64
  simp only [PyData.depth]
  omega
theorem shaped_tpl (cs : List Pl) : SeqAt.shaped (.tuple (cs.map plD)) = true := by
  have h1 := lay_pls cs
  have h2 := depth_pls cs
  refine Bool.and_eq_true_iff.mpr ⟨h1, decide_eq_true ?_⟩
  show PyData.depth _ ≤ 64
  simp only [PyData.depth]
  omega
theorem eqv_pl (c d : Pl) : PyData.eqv (plD c) (plD d) = decide (c = d) := by
  obtain ⟨a, b, t⟩ := c
  obtain ⟨a', b', t'⟩ := d
  rw [Bool.eq_iff_iff]
  simp [plD, PyData.eqv, PyData.eqvAll]
  constructor
  · rintro ⟨h1, h2, h3⟩
    exact ⟨by omega, by omega, h3⟩
  · rintro ⟨h1, h2, h3⟩
    exact ⟨by omega, by omega, h3⟩
theorem eqv_lnil (cs : List Pl) : PyData.eqv (.list (cs.map plD)) (.list []) = decide (cs = []) := by
  cases cs with
  | nil => simp [PyData.eqv, PyData.eqvAll]
  | cons c r => simp [PyData.eqv, PyData.eqvAll]
/-! ### the rulers on the heap -/
def RulsAt (C : Addr) (iM : Nat) (H : Hp) (rt : Addr) (mss : List (List Int)) : Prop := ∃ rs : List Addr, H rt = some (.tup (refs rs)) ∧ Paired (RulAt C iM H) rs mss
theorem _root_.L2.Same.ruls {C : Addr} {iM : Nat} {H H' : Hp} (s : Same H H') {rt : Addr} {mss : List (List Int)} (h : RulsAt C iM H rt mss) : RulsAt C iM H' rt mss := by
  obtain ⟨rs, h1, h2⟩ := h
  exact ⟨rs, s _ _ h1, L2.Paired.mapP h2 fun _ _ z => s.rul z⟩
theorem get_snd {α β : Type} {G : α → β → Prop} : ∀ {l : List α} {m : List β}, Paired G l m → ∀ {i : Nat} {b : β}, m[i]? = some b → ∃ a, l[i]? = some a ∧ G a b
  | _, _, .nil, i, b, h => by simp at h
  | _, _, .cons h t, 0, b, e => by
    have e' := Option.some.inj e
    subst e'
    exact ⟨_, rfl, h⟩
  | _, _, .cons h t, i + 1, b, e => get_snd t (i := i) (by simpa using e)
theorem get_fst {α β : Type} {G : α → β → Prop} : ∀ {l : List α} {m : List β}, Paired G l m → ∀ {i : Nat} {a : α}, l[i]? = some a → ∃ b, m[i]? = some b ∧ G a b
  | _, _, .nil, i, b, h => by simp at h
  | _, _, .cons h t, 0, b, e => by
    have e' := Option.some.inj e
    subst e'
    exact ⟨_, rfl, h⟩
  | _, _, .cons h t, i + 1, b, e => get_fst t (i := i) (by simpa using e)
theorem refs_at {as : List Addr} {i : Nat} {y : V} (h : (refs as)[i]? = some y) : ∃ a, as[i]? = some a ∧ y = .ref a := by
  rw [List.getElem?_map] at h
  cases e : as[i]? with
  | none => exact absurd h (by rw [e]; intro q; cases q)
  | some z => rw [e] at h; exact ⟨z, rfl, (Option.some.inj h).symm⟩
theorem at_refs {as : List Addr} {i : Nat} {a : Addr} (h : as[i]? = some a) : (refs as)[i]? = some (.ref a) := by
  rw [List.getElem?_map, h]
  rfl
/-! ### an Origin's attributes -/
theorem d1 : ¬ (("size" : Str) = "all_rulers") := by decide +kernel
theorem d2 : ¬ (("left" : Str) = "all_rulers") := by decide +kernel
theorem d3 : ¬ (("left" : Str) = "size") := by decide +kernel
theorem d4 : ¬ (("accepted" : Str) = "all_rulers") := by decide +kernel
theorem d5 : ¬ (("accepted" : Str) = "size") := by decide +kernel
theorem d6 : ¬ (("accepted" : Str) = "left") := by decide +kernel
def oF1 (rt : Addr) : List (Str × V) := putF "all_rulers" (.ref rt) []
def oF2 (rt : Addr) (sz : Nat) : List (Str × V) := putF "size" (.int (sz : Nat)) (oF1 rt)
def oF3 (rt : Addr) (sz : Nat) (ll : Addr) : List (Str × V) := putF "left" (.ref ll) (oF2 rt sz)
def oF (rt : Addr) (sz : Nat) (ll la : Addr) : List (Str × V) := putF "accepted" (.ref la) (oF3 rt sz ll)
theorem oF_eq (rt : Addr) (sz : Nat) (ll la : Addr) : oF rt sz ll la = [(("all_rulers" : Str), V.ref rt), ("size", V.int (sz : Nat)), ("left", V.ref ll), ("accepted", V.ref la)] := by
  unfold oF oF3 oF2 oF1
  simp only [putF, Ne.symm d1, Ne.symm d2, Ne.symm d3, Ne.symm d4, Ne.symm d5, Ne.symm d6, if_false]
theorem oF_len (rt : Addr) (sz : Nat) (ll la : Addr) : (oF rt sz ll la).length < 1000 := by
  rw [oF_eq]
  show 4 < 1000
  decide
theorem oF3_size (rt : Addr) (sz : Nat) (ll : Addr) : (oF3 rt sz ll).lookup ("left" : Str) = some (.ref ll) := by
  unfold oF3
  rw [lookup_putF, if_pos rfl]
theorem oF_acc (rt : Addr) (sz : Nat) (ll la : Addr) : (oF rt sz ll la).lookup ("accepted" : Str) = some (.ref la) := by
  unfold oF
  rw [lookup_putF, if_pos rfl]
theorem oF_left (rt : Addr) (sz : Nat) (ll la : Addr) : (oF rt sz ll la).lookup ("left" : Str) = some (.ref ll) := by
  unfold oF
  rw [lookup_putF, if_neg (Ne.symm d6), oF3_size]
theorem oF_sz (rt : Addr) (sz : Nat) (ll la : Addr) : (oF rt sz ll la).lookup ("size" : Str) = some (.int (sz : Nat)) := by
  unfold oF oF3 oF2
  rw [lookup_putF, if_neg (Ne.symm d5), lookup_putF, if_neg (Ne.symm d3), lookup_putF, if_pos rfl]
theorem oF_all (rt : Addr) (sz : Nat) (ll la : Addr) : (oF rt sz ll la).lookup ("all_rulers" : Str) = some (.ref rt) := by
  unfold oF oF3 oF2 oF1
  rw [lookup_putF, if_neg (Ne.symm d4), lookup_putF, if_neg (Ne.symm d2), lookup_putF, if_neg (Ne.symm d1), lookup_putF, if_pos rfl]
theorem oF_no (rt : Addr) (sz : Nat) (ll la : Addr) {m : Str} (h1 : ¬ m = "accepted") (h2 : ¬ m = "left") (h3 : ¬ m = "size") (h4 : ¬ m = "all_rulers") : (oF rt sz ll la).lookup m = none := by
  unfold oF oF3 oF2 oF1
  rw [lookup_putF, if_neg h1, lookup_putF, if_neg h2, lookup_putF, if_neg h3, lookup_putF, if_neg h4]
  rfl
theorem oF_put (rt : Addr) (sz : Nat) (ll la l2 : Addr) : putF "left" (.ref l2) (oF rt sz ll la) = oF rt sz l2 la := by
  rw [oF_eq, oF_eq]
  simp only [putF, Ne.symm d2, Ne.symm d3, if_false, if_true]
/-- an Origin stands at o, over the rulers at rt, a piece of so many marks; la: the list of what was told -/
def OrgAt (D : Addr) (H : Hp) (o rt ll la : Addr) (sz na : Nat) (left : List Pl) : Prop :=
  ∃ (dx : Addr) (as : List Addr) (acc : List V), H o = some (.ins D dx (oF rt sz ll la)) ∧ H ll = some (.lst (refs as)) ∧ Paired (PlT H) as left ∧ H la = some (.lst acc) ∧ acc.length = na
theorem _root_.L2.Same.org {D : Addr} {H H' : Hp} (s : Same H H') {o rt ll la : Addr} {sz na : Nat} {left : List Pl} (h : OrgAt D H o rt ll la sz na left) : OrgAt D H' o rt ll la sz na left := by
  obtain ⟨dx, as, acc, h1, h2, h3, h4, h5⟩ := h
  exact ⟨dx, as, acc, s _ _ h1, s _ _ h2, s.pls h3, s _ _ h4, h5⟩
structure OTxt (K : PySem.W.Frag) (D : Addr) : Prop where
  cl : Cls K D
  nA : NoAttr K D "all_rulers"
  nS : NoAttr K D "size"
  nL : NoAttr K D "left"
  nC : NoAttr K D "accepted"
section
variable {P : Program} {w : World} {K : PySem.W.Frag} {mg : Str → Option Value} {base : Heap} {C D pM pE pP gP gL : Addr} {iM iE : Nat}
/-! ### validate_index -/
theorem scOVal : FnScope ["self", "index"] ["self", "index"] (defScope sOVal) := ⟨rfl, rfl, rfl, by decide +kernel, rfl, by decide +kernel, by decide +kernel⟩
def spOVal (D : Addr) : Sp := fun vs H Q _ => ∃ (o rt ll la : Addr) (sz na : Nat) (left : List Pl) (ix : Nat), vs = [.ref o, .int (ix : Nat)] ∧ OrgAt D H o rt ll la sz na left ∧ ix < sz ∧ Q .non H
theorem ok_oval {f fN : Addr} {fd fdN : FuncData} (F : Fun K "validate_index" "Origin.validate_index" sOVal f fd) (T : OTxt K D) (B : Bl mg)
    (FN : Fun K "is_number" "is_number" sNum fN fdN) (bN : Binds K fdN ["value", "lowest", "highest"] []) (gN : mg "is_number" = some (.ref fN)) : FnOk P w K mg base CX0 2 f fd ["self", "index"] (spOVal D) := by
  have GN : FnOk P w K mg base CX0 1 fN fdN ["value", "lowest", "highest"] spNum := ok_num FN B
  refine F.ok scOVal (fun vs H Q E h => ?_) (fun cdv A outer s H vs Q E hr h => ?_)
  · obtain ⟨o, rt, ll, la, sz, na, left, ix, rfl, _⟩ := h
    rfl
  · obtain ⟨o, rt, ll, la, sz, na, left, ix, rfl, ⟨dx, as, acc, h1, _⟩, hix, q⟩ := h
    have hr1 : Room 1 _ := hr
    refine ⟨_, pss_one (ps_if (pt_not (pt_val (pe_call GN hr1 (by rfl) gN FN.kp bN .nil pass0 (pa_cons (pv 1) (pa_cons pe_int (pa_cons (pe_op op_sub (pe_fld (pv 0) rfl) pe_int) pa_nil)))))) (pss_one ps_never) pss_nil), ?_⟩
    refine ⟨_, rfl, _, rfl, o, D, dx, _, _, rfl, h1, T.cl, T.nS, oF_sz _ _ _ _, _, _, rfl, rfl, ?_⟩
    have b2 : (decide ((0 : Int) ≤ (ix : Nat)) && decide (((ix : Nat) : Int) ≤ (sz : Nat) - 1)) = true := by
      rw [decide_eq_true (by omega), decide_eq_true (by omega)]
      rfl
    exact ⟨_, _, _, rfl, true, by rw [b2], iteF q⟩
/-! ### number_at -/
theorem scOAt : FnScope ["self", "place", "index", "number", "first", "turned"] ["self", "place", "index"] (defScope sOAt) := ⟨rfl, rfl, rfl, by decide +kernel, rfl, by decide +kernel, by decide +kernel⟩
def spAt (C : Addr) (iM : Nat) (D : Addr) : Sp := fun vs H Q _ => ∃ (o rt ll la : Addr) (sz na : Nat) (left : List Pl) (a : Addr) (c : Pl) (ix : Nat) (mss : List (List Int)), vs = [.ref o, .ref a, .int (ix : Nat)] ∧
  OrgAt D H o rt ll la sz na left ∧ RulsAt C iM H rt mss ∧ PlT H a c ∧ OnR mss sz c ∧ ix < sz ∧ Q (.int (numAt mss sz c ix)) H
theorem ok_at {f : Addr} {fd fdP : FuncData} (F : Fun K "number_at" "Origin.number_at" sOAt f fd) (T : OTxt K D) (R : RTxt K C pM pE pP gP gL iM iE)
    (FP : Fun K "marks" "Ruler.marks" sRMk gP fdP) (bP : Binds K fdP ["self"] []) : FnOk P w K mg base CX0 3 f fd ["self", "place", "index"] (spAt C iM D) := by
  have GP := (ok_rmk (P := P) (w := w) (mg := mg) (base := base) FP R).raw bP .nil
  refine F.ok scOAt (fun vs H Q E h => ?_) (fun cdv A outer s H vs Q E hr h => ?_)
  · obtain ⟨o, rt, ll, la, sz, na, left, a, c, ix, mss, rfl, _⟩ := h
    rfl
  · obtain ⟨o, rt, ll, la, sz, na, left, a, c, ix, mss, rfl, ⟨dx, as, acc, h1, _⟩, ⟨rs, hrt, hrs⟩, hc, ⟨ms, hms, hon⟩, hix, q⟩ := h
    have hr2 : Room 2 _ := hr
    refine ⟨_, pss_cons (ps_asg (pv 1) (pg_tup rfl (pgs_cons (pg_name (i := 3) scOAt.nd rfl (Or.inl rfl)) (pgs_cons (pg_name (i := 4) scOAt.nd rfl (Or.inl rfl)) (pgs_cons (pg_name (i := 5) scOAt.nd rfl (Or.inl rfl)) pgs_nil)))))
      (pss_one (ps_ret (pe_ix ix_tup (SlX.pe_propSl (CX := CX0) (E := E0) (pe_ix ix_tup (pe_fld (pv 0) rfl) (pv 3) (fun _ _ => rfl)) R.cl R.pAt R.pGet R.pTk R.pRc GP hr2 (fun _ _ _ _ z => z))
        (pe_op op_add (pv 4) (pe_ifExp (pt_val (pv 5)) (pe_op op_sub (pe_op op_sub (pe_fld (pv 0) rfl) pe_int) (pv 2)) (pv 2))) (fun _ _ => rfl)))), ?_⟩
    obtain ⟨cn, ci, ct⟩ := c
    obtain ⟨r, hr1, hR⟩ := get_snd hrs (show mss[cn]? = some ms from hms)
    obtain ⟨dx', t', vs', hsl', hvs', ht'⟩ := id hR
    refine ⟨_, rfl, a, _, rfl, SqT.of hc, rfl, _, _, rfl, _, _, rfl, _, _, rfl, rfl, ?_⟩
    refine ⟨_, rfl, o, D, dx, _, _, rfl, h1, T.cl, T.nA, oF_all _ _ _ _, _, rfl, rt, _, _, _, rfl, rfl, SqT.of hrt, atI_nat (j := cn) (at_refs hr1), ?_⟩
    refine ⟨r, dx', vs', rfl, hsl', r, ms, rfl, hR, fun t ht => ?_⟩
    have sp : spotIx sz (cn, ci, ct) ix < ms.length := by
      show ci + (if ct = true then sz - 1 - ix else ix) < ms.length
      have : ci + sz ≤ ms.length := hon
      split <;> omega
    have en : numAt mss sz (cn, ci, ct) ix = ms[spotIx sz (cn, ci, ct) ix] := by
      show (mss.getD cn []).getD (spotIx sz (cn, ci, ct) ix) 0 = _
      rw [List.getD_eq_getElem?_getD, List.getD_eq_getElem?_getD, show mss[cn]? = some ms from hms]
      show (ms[spotIx sz (cn, ci, ct) ix]?).getD 0 = _
      rw [List.getElem?_eq_getElem sp]
      rfl
    rw [en] at q
    refine ⟨_, rfl, _, rfl, ct, rfl, ?_⟩
    cases ct with
    | true =>
      refine iteT ⟨_, rfl, o, D, dx, _, _, rfl, h1, T.cl, T.nS, oF_sz _ _ _ _, _, _, rfl, rfl, _, rfl, _, _, rfl, rfl, _, _, rfl, rfl, ?_⟩
      exact ⟨t, _, _, _, rfl, rfl, SqT.of ht, at_of (j := spotIx sz (cn, ci, true) ix) (by show ((ci : Nat) : Int) + (((sz : Nat) : Int) - 1 - (ix : Nat)) = ((ci + (if true = true then sz - 1 - ix else ix) : Nat) : Int); rw [if_pos rfl]; omega) (at_vI (List.getElem?_eq_getElem sp)), q⟩
    | false =>
      refine iteF ⟨_, rfl, _, _, rfl, rfl, ?_⟩
      exact ⟨t, _, _, _, rfl, rfl, SqT.of ht, at_of (j := spotIx sz (cn, ci, false) ix) (by show ((ci : Nat) : Int) + (ix : Nat) = ((ci + (if false = true then sz - 1 - ix else ix) : Nat) : Int); rw [if_neg (by decide)]; omega) (at_vI (List.getElem?_eq_getElem sp)), q⟩
/-! ### candidates -/
theorem scOCan : FnScope ["self"] ["self"] (defScope sOCan) := ⟨rfl, rfl, rfl, by decide +kernel, rfl, by decide +kernel, by decide +kernel⟩
def spOCan (D : Addr) : Sp := fun vs H Q _ => ∃ (o rt ll la : Addr) (sz na : Nat) (left : List Pl), vs = [.ref o] ∧ OrgAt D H o rt ll la sz na left ∧
  ∀ (H' : Hp) (t : Addr) (as : List Addr), Same H H' → H' t = some (.tup (refs as)) → Paired (PlT H') as left → Q (.ref t) H'
theorem ok_ocan {f : Addr} {fd : FuncData} (F : Fun K "candidates" "Origin.candidates" sOCan f fd) (T : OTxt K D) (B : Bl mg) : FnOk P w K mg base CX0 1 f fd ["self"] (spOCan D) := by
  refine F.ok scOCan (fun vs H Q E h => ?_) (fun cdv A outer s H vs Q E hr h => ?_)
  · obtain ⟨o, rt, ll, la, sz, na, left, rfl, _⟩ := h
    rfl
  · obtain ⟨o, rt, ll, la, sz, na, left, rfl, ⟨dx, as, acc, h1, h2, h3, h4, h5⟩, q⟩ := h
    refine ⟨_, pss_one (ps_ret (pe_callTy call_tuple_of (by rfl) B.tuple (by decide +kernel) (pa_cons (pe_fld (pv 0) rfl) pa_nil))), ?_⟩
    refine ⟨_, rfl, o, D, dx, _, _, rfl, h1, T.cl, T.nL, oF_left _ _ _ _, ll, _, rfl, .inl ⟨SqL.of h2, fun t nt => ?_⟩⟩
    exact q _ t as (same_new nt) upd_same ((same_new nt).pls h3)
end
end K84
namespace K84
open PySem PySem.Spec PyProof.Rows L2 K84R
theorem take_snoc {α : Type} {l : List α} {i : Nat} {x : α} (h : l[i]? = some x) : l.take (i + 1) = l.take i ++ [x] := by
  rw [List.take_add_one, h]
  rfl
section
variable {P : Program} {w : World} {K : PySem.W.Frag} {mg : Str → Option Value} {base : Heap} {C D pM pE pP gP gL : Addr} {iM iE : Nat}
/-! ### numbers -/
theorem scONum : FnScope ["self", "index", "place"] ["self", "index"] (defScope sONum) := ⟨rfl, rfl, rfl, by decide +kernel, rfl, by decide +kernel, by decide +kernel⟩
def spONum (C : Addr) (iM : Nat) (D : Addr) : Sp := fun vs H Q _ => ∃ (o rt ll la : Addr) (sz na : Nat) (left : List Pl) (ix : Nat) (mss : List (List Int)), vs = [.ref o, .int (ix : Nat)] ∧
  OrgAt D H o rt ll la sz na left ∧ RulsAt C iM H rt mss ∧ (∀ c ∈ left, OnR mss sz c) ∧ ix < sz ∧ left.length ≤ 32 ∧
  ∀ (H' : Hp) (l : Addr) (ns : List Int), Same H H' → H' l = some (.lst (vI ns)) → (∀ k, k ∈ ns ↔ ∃ c ∈ left, numAt mss sz c ix = k) → ns.length ≤ 32 → Q (.ref l) H'
theorem ok_onum {f fV fA : Addr} {fd fdV fdA : FuncData} (F : Fun K "numbers" "Origin.numbers" sONum f fd) (T : OTxt K D) (B : Bl mg)
    (GV : FnOk P w K mg base CX0 2 fV fdV ["self", "index"] (spOVal D)) (bV : Binds K fdV ["self", "index"] []) (mV : Meth K D "validate_index" fV)
    (GA : FnOk P w K mg base CX0 3 fA fdA ["self", "place", "index"] (spAt C iM D)) (bA : Binds K fdA ["self", "place", "index"] []) (mA : Meth K D "number_at" fA) :
    FnOk P w K mg base CX0 4 f fd ["self", "index"] (spONum C iM D) := by
  refine F.ok scONum (fun vs H Q E h => ?_) (fun cdv A outer s H vs Q E hr h => ?_)
  · obtain ⟨o, rt, ll, la, sz, na, left, ix, mss, rfl, _⟩ := h
    rfl
  · obtain ⟨o, rt, ll, la, sz, na, left, ix, mss, rfl, hO, hR, hon, hix, hlen, q⟩ := h
    have hr3 : Room 3 _ := hr
    have hr2 : Room 2 _ := hr.mono (by decide)
    have noV : ∀ ll, (oF rt sz ll la).lookup ("validate_index" : Str) = none := fun ll => oF_no _ _ _ _ (by decide +kernel) (by decide +kernel) (by decide +kernel) (by decide +kernel)
    have noA : ∀ ll, (oF rt sz ll la).lookup ("number_at" : Str) = none := fun ll => oF_no _ _ _ _ (by decide +kernel) (by decide +kernel) (by decide +kernel) (by decide +kernel)
    refine ⟨_, pss_cons (ps_expr (pe_meth (pv 0) T.cl mV GV hr2 bV .nil pass0 (pa_cons (pv 1) pa_nil)))
      (pss_one (ps_ret (pe_callB (cr_sortedSet rfl) (by rfl) B.sorted (by decide +kernel) (pa_cons (pe_callTy (call_setL rfl) (by rfl) B.set (by decide +kernel) (pa_cons
        (pe_lc (own := [("place", 2)]) (g := gName 2) (tt := tYes) rfl scONum.nd (pi_list (pe_fld (pv 0) rfl)) (blkOk_by (N := ["self", "index", "place"]) (sc := defScope sONum) (by decide +kernel))
          (fun _ _ _ _ _ => pg_name (i := 2) scONum.nd rfl (Or.inl rfl)) (fun _ _ _ _ _ => pts_nil)
          (fun _ _ _ _ _ => pe_meth (pv 0) T.cl mA GA hr3 bA .nil pass0 (pa_cons (pv 2) (pa_cons (pv 1) pa_nil)))) pa_nil)) pa_nil)))), ?_⟩
    obtain ⟨dx, as, acc, h1, h2, h3, h4, h5⟩ := id hO
    refine ⟨_, rfl, o, dx, _, rfl, h1, noV ll, _, rfl, o, rt, ll, la, sz, na, left, ix, rfl, hO, hix, ?_⟩
    refine ⟨_, rfl, o, D, dx, _, _, rfl, h1, T.cl, T.nL, oF_left _ _ _ _, ll, rfl, ⟨_, SqL.of h2⟩, fun L nL => ?_⟩
    have len2 := Paired.length h3
    refine lc_list (K := K) (a := ll) (xs := refs as) (fun i H3 => Same H H3 ∧ H3 L = some (.lst (vI ((left.take i).map fun c => numAt mss sz c ix)))) ⟨same_new nL, upd_same⟩ (fun i H3 _ z => Same.seq z.1 (SqL.of h2)) ?_ ?_
    · rintro i y H3 hy ⟨sm, hL⟩
      obtain ⟨a, ha, rfl⟩ := refs_at hy
      obtain ⟨c, hc, pc⟩ := get_fst h3 ha
      refine ⟨rfl, tyes ?_⟩
      refine ⟨_, rfl, o, dx, _, rfl, sm _ _ h1, noA ll, _, rfl, _, rfl, o, rt, ll, la, sz, na, left, a, c, ix, mss, rfl, sm.org hO, sm.ruls hR, sm _ _ pc, hon c (List.mem_of_getElem? hc), hix, ?_⟩
      refine ⟨_, hL, ?_, sm.put nL _, ?_⟩
      · rw [vI_len, List.length_map, List.length_take]
        exact small1000 (by omega)
      · rw [upd_same, vI_snoc, take_snoc hc, List.map_append]
        rfl
    · rintro H3 ⟨sm, hL⟩
      rw [refs_len, len2, List.take_of_length_le (Nat.le_refl _)] at hL
      refine ⟨L, _, rfl, SqL.of hL, by rw [List.length_map]; omega, fun S n nS hn => ?_⟩
      rw [List.length_map] at hn
      refine ⟨S, _, n, rfl, upd_same, by omega, fun ns p _ hmem hlen np => ?_⟩
      refine q _ p ns ((sm.trans (same_new nS)).trans (same_new np)) upd_same (fun k => ?_) (by omega)
      rw [hmem k, decide_eq_true_eq, List.mem_map]
/-! ### tell, see -/
theorem scOTell : FnScope ["self", "word", "index", "number", "left", "place"] ["self", "word", "index", "number"] (defScope sOTell) := ⟨rfl, rfl, rfl, by decide +kernel, rfl, by decide +kernel, by decide +kernel⟩
def seen (mss : List (List Int)) (sz ix : Nat) (num : Int) (left : List Pl) : List Pl := left.filter fun c => decide (numAt mss sz c ix = num)
def spSee (C : Addr) (iM : Nat) (D : Addr) (pre : List V) : Sp := fun vs H Q _ => ∃ (o rt ll la : Addr) (sz na : Nat) (left : List Pl) (ix : Nat) (num : Int) (mss : List (List Int)), vs = .ref o :: (pre ++ [.int (ix : Nat), .int num]) ∧
  OrgAt D H o rt ll la sz na left ∧ RulsAt C iM H rt mss ∧ (∀ c ∈ left, OnR mss sz c) ∧ ix < sz ∧ left.length ≤ 32 ∧ na ≤ 100 ∧ seen mss sz ix num left ≠ [] ∧
  ∀ (H' : Hp) (n : Int) (l2 : Addr), OrgAt D H' o rt l2 la sz (na + 1) (seen mss sz ix num left) → (∀ c u, H c = some u → c ≠ o → c ≠ la → H' c = some u) → Q (.int n) H'
theorem ok_tell {f fV fA : Addr} {fd fdV fdA : FuncData} (F : Fun K "tell" "Origin.tell" sOTell f fd) (T : OTxt K D) (B : Bl mg) (Cn : Consts mg)
    (GV : FnOk P w K mg base CX0 2 fV fdV ["self", "index"] (spOVal D)) (bV : Binds K fdV ["self", "index"] []) (mV : Meth K D "validate_index" fV)
    (GA : FnOk P w K mg base CX0 3 fA fdA ["self", "place", "index"] (spAt C iM D)) (bA : Binds K fdA ["self", "place", "index"] []) (mA : Meth K D "number_at" fA) :
    FnOk P w K mg base CX0 4 f fd ["self", "word", "index", "number"] (spSee C iM D [.str "see"]) := by
  refine F.ok scOTell (fun vs H Q E h => ?_) (fun cdv A outer s H vs Q E hr h => ?_)
  · obtain ⟨o, rt, ll, la, sz, na, left, ix, num, mss, rfl, _⟩ := h
    rfl
  · obtain ⟨o, rt, ll, la, sz, na, left, ix, num, mss, rfl, hO, hR, hon, hix, hlen, hna, hne, q⟩ := h
    obtain ⟨tS, hS⟩ := Cn.see
    have hr3 : Room 3 _ := hr
    have hr2 : Room 2 _ := hr.mono (by decide)
    have noV : ∀ ll, (oF rt sz ll la).lookup ("validate_index" : Str) = none := fun ll => oF_no _ _ _ _ (by decide +kernel) (by decide +kernel) (by decide +kernel) (by decide +kernel)
    have noA : ∀ ll, (oF rt sz ll la).lookup ("number_at" : Str) = none := fun ll => oF_no _ _ _ _ (by decide +kernel) (by decide +kernel) (by decide +kernel) (by decide +kernel)
    refine ⟨_, pss_cons (ps_expr (pe_meth (pv 0) T.cl mV GV hr2 bV .nil pass0 (pa_cons (pv 2) pa_nil)))
      (pss_cons (ps_setLc (i := 4) (own := [("place", 5)]) (g := gName 5) rfl scOTell.nd rfl rfl (sw_true rfl rfl rfl (by decide +kernel)) (pi_list (pe_fld (pv 0) rfl))
          (blkOk_by (N := ["self", "word", "index", "number", "left", "place"]) (sc := defScope sOTell) (by decide +kernel))
          (fun _ _ _ _ _ => pg_name (i := 5) scOTell.nd rfl (Or.inl rfl))
          (fun _ _ _ _ _ => pts_one (pt_cmpR op_eq (pe_cmpR op_eq (pe_meth (pv 0) T.cl mA GA hr3 bA .nil pass0 (pa_cons (pv 5) (pa_cons (pv 2) pa_nil))) (pv 3) (nomark _))
            (pe_cmpR op_eq (pv 1) (pe_glob (v := .str "see") (by rfl) hS ⟨_, rfl⟩) (nomark _)) (nomark _)))
          (fun _ _ _ _ _ => pv 5))
      (pss_cons (ps_if (pt_cmpR (op_eqD hr.units) (pv 4) (pe_lst pa_nil) (nomark _)) (pss_one ps_never) pss_nil)
      (pss_cons (ps_fld (pv 0) (pv 4) rfl)
      (pss_cons (ps_expr (pe_bm PySem.F.plainAttrs_list PySem.F.slot_list_append PySem.F.type_list_append mt_append (pe_fld (pv 0) rfl) (pa_cons (pe_tup (pa_cons (pv 1) (pa_cons (pv 2) (pa_cons (pv 3) pa_nil)))) pa_nil)))
      (pss_one (ps_ret (pe_callB call_len_seq (by rfl) B.len PySem.boot_len (pa_cons (pv 4) pa_nil)))))))), ?_⟩
    obtain ⟨dx, as, acc, h1, h2, h3, h4, h5⟩ := id hO
    refine ⟨_, rfl, o, dx, _, rfl, h1, noV ll, _, rfl, o, rt, ll, la, sz, na, left, ix, rfl, hO, hix, ?_⟩
    -- left = [..]
    refine ⟨_, rfl, o, D, dx, _, _, rfl, h1, T.cl, T.nL, oF_left _ _ _ _, ll, rfl, ⟨_, SqL.of h2⟩, fun L nL => ?_⟩
    have len2 := Paired.length h3
    refine lc_list (K := K) (a := ll) (xs := refs as) (fun i H3 => ∃ bs, Same H H3 ∧ H3 L = some (.lst (refs bs)) ∧ Paired (PlT H3) bs (seen mss sz ix num (left.take i)) ∧ bs.length ≤ i) ⟨[], same_new nL, upd_same, .nil, Nat.le_refl _⟩ (fun i H3 _ ⟨_, z, _⟩ => Same.seq z (SqL.of h2)) ?_ ?_
    · rintro i y H3 hy ⟨bs, sm, hL, hP, hb⟩
      obtain ⟨a, ha, rfl⟩ := refs_at hy
      obtain ⟨c, hc, pc⟩ := get_fst h3 ha
      have below : i < as.length := (List.getElem?_eq_some_iff.mp ha).1
      have grow : seen mss sz ix num (left.take (i + 1)) = seen mss sz ix num (left.take i) ++ seen mss sz ix num [c] := by
        unfold seen
        rw [take_snoc hc, List.filter_append]
      refine ⟨rfl, ?_⟩
      refine ⟨_, rfl, o, dx, _, rfl, sm _ _ h1, noA ll, _, rfl, _, rfl, o, rt, ll, la, sz, na, left, a, c, ix, mss, rfl, sm.org hO, sm.ruls hR, sm _ _ pc, hon c (List.mem_of_getElem? hc), hix, ?_⟩
      refine ⟨_, rfl, rfl, _, rfl, rfl, rfl, _, rfl, ?_⟩
      by_cases he : numAt mss sz c ix = num
      · have t1 : decide (V.bl (decide (V.int (numAt mss sz c ix) = V.int num)) = V.bl (decide (V.str "see" = V.str "see"))) = true := by
          rw [he]
          simp
        refine ifY t1 ?_
        refine ⟨_, rfl, _, hL, by rw [refs_len]; exact small1000 (by omega), bs ++ [a], sm.put nL _, by rw [upd_same, refs_snoc], ?_, by simp; omega⟩
        rw [grow, show seen mss sz ix num [c] = [c] from by unfold seen; rw [List.filter_cons_of_pos (by rw [decide_eq_true he])]; rfl]
        have keep : ∀ (b : Addr) (d : Pl), PlT H3 b d → PlT (upd H3 L (.lst (refs bs ++ [.ref a]))) b d := fun b d hd => by
          show upd _ _ _ b = _
          rw [upd_ne (ne_of hd hL (by intro z; cases z))]
          exact hd
        exact (L2.Paired.mapP hP keep).snoc (keep a c (sm _ _ pc))
      · have t1 : decide (V.bl (decide (V.int (numAt mss sz c ix) = V.int num)) = V.bl (decide (V.str "see" = V.str "see"))) = false := by
          have e1 : decide (V.int (numAt mss sz c ix) = V.int num) = false := decide_eq_false fun z => he (V.int.inj z)
          rw [e1]
          simp
        refine ifN t1 ?_
        refine ⟨bs, sm, hL, ?_, by omega⟩
        rw [grow, show seen mss sz ix num [c] = [] from by unfold seen; rw [List.filter_cons_of_neg (by rw [decide_eq_false he]; exact Bool.false_ne_true)]; rfl, List.append_nil]
        exact hP
    · rintro H3 ⟨bs, sm, hL, hP, hb⟩
      rw [refs_len, len2, List.take_of_length_le (Nat.le_refl _)] at hP
      rw [refs_len] at hb
      -- if left == []
      refine ⟨_, rfl, Nat.zero_le _, fun e ne => ?_⟩
      have s4 : Same H3 (upd H3 e (.lst [])) := same_new ne
      refine ⟨_, _, .lst (SqL.of (s4 _ _ hL)) (dpPls K (s4.pls hP)), .lst (ds := []) (SqL.of upd_same) .nil, shaped_lpl _, shaped_lst [], _, rfl, ?_⟩
      rw [eqv_lnil]
      generalize upd H3 e (.lst []) = H4 at s4 ⊢
      refine ifN (decide_eq_false hne) ?_
      have sm4 := sm.trans s4
      have hL4 := s4 _ _ hL
      have hP4 := s4.pls hP
      have h14 := sm4 _ _ h1
      have h44 := sm4 _ _ h4
      -- self.left = left
      refine ⟨_, rfl, _, rfl, o, D, dx, _, rfl, h14, T.cl, T.nL, oF_len _ _ _ _, ?_⟩
      rw [oF_put]
      have lo : la ≠ o := ne_of h4 h1 (by intro z; cases z)
      have Lo : L ≠ o := (ne_of_none h1 nL).symm
      -- self.accepted.append(..)
      refine ⟨_, rfl, o, D, dx, _, _, rfl, upd_same, T.cl, T.nC, oF_acc _ _ _ _, .inl ⟨rfl, _, SqL.of (by rw [upd_ne lo]; exact h44)⟩, _, rfl, _, rfl, _, rfl, (by show 3 ≤ sizeLine; decide), fun t nt => ?_⟩
      have nto : o ≠ t := ne_of_none upd_same nt
      have ntl : la ≠ t := ne_of_none (by rw [upd_ne lo]; exact h44) nt
      have ntL : L ≠ t := ne_of_none (show (upd H4 o (.ins D dx (oF rt sz L la))) L = _ by rw [upd_ne Lo]; exact hL4) nt
      have nt4 : H4 t = none := by
        rw [upd_ne nto.symm] at nt
        exact nt
      refine ⟨la, _, _, rfl, rfl, by rw [upd_ne ntl, upd_ne lo]; exact h44, small1000 (by omega), ?_⟩
      have Lla : L ≠ la := (ne_of_none h4 nL).symm
      refine ⟨_, rfl, L, _, rfl, .inl (SqL.of (by rw [upd_ne Lla, upd_ne ntL, upd_ne Lo]; exact hL4)), ?_⟩
      refine q _ _ L ⟨dx, bs, _, ?_, ?_, ?_, upd_same, by rw [List.length_append, h5]; rfl⟩ (fun c u hc n1 n2 => ?_)
      · rw [upd_ne lo.symm, upd_ne nto, upd_same]
      · rw [upd_ne Lla, upd_ne ntL, upd_ne Lo]
        exact hL4
      · refine L2.Paired.mapP hP4 fun b d hd => ?_
        show upd _ _ _ b = _
        rw [upd_ne (ne_of hd h44 (by intro z; cases z)), upd_ne (ne_of_none hd nt4), upd_ne (ne_of hd h14 (by intro z; cases z))]
        exact hd
      · rw [upd_ne n2, upd_ne (ne_of_none (sm4 _ _ hc) nt4), upd_ne n1]
        exact sm4 _ _ hc
theorem scOSee : FnScope ["self", "index", "number"] ["self", "index", "number"] (defScope sOSee) := ⟨rfl, rfl, rfl, by decide +kernel, rfl, by decide +kernel, by decide +kernel⟩
theorem ok_see {f fT : Addr} {fd fdT : FuncData} (F : Fun K "see" "Origin.see" sOSee f fd) (T : OTxt K D) (Cn : Consts mg)
    (GT : FnOk P w K mg base CX0 4 fT fdT ["self", "word", "index", "number"] (spSee C iM D [.str "see"])) (bT : Binds K fdT ["self", "word", "index", "number"] []) (mT : Meth K D "tell" fT) :
    FnOk P w K mg base CX0 5 f fd ["self", "index", "number"] (spSee C iM D []) := by
  refine F.ok scOSee (fun vs H Q E h => ?_) (fun cdv A outer s H vs Q E hr h => ?_)
  · obtain ⟨o, rt, ll, la, sz, na, left, ix, num, mss, rfl, _⟩ := h
    rfl
  · obtain ⟨o, rt, ll, la, sz, na, left, ix, num, mss, rfl, hO, rest⟩ := h
    obtain ⟨tS, hS⟩ := Cn.see
    have hr4 : Room 4 _ := hr
    obtain ⟨dx, as, acc, h1, _⟩ := id hO
    refine ⟨_, pss_one (ps_ret (pe_meth (pv 0) T.cl mT GT hr4 bT .nil pass0 (pa_cons (pe_glob (v := .str "see") (by rfl) hS ⟨_, rfl⟩) (pa_cons (pv 1) (pa_cons (pv 2) pa_nil))))), ?_⟩
    exact ⟨_, rfl, o, dx, _, rfl, h1, oF_no _ _ _ _ (by decide +kernel) (by decide +kernel) (by decide +kernel) (by decide +kernel), _, rfl, _, rfl, o, rt, ll, la, sz, na, left, ix, num, mss, rfl, hO, rest⟩
end
end K84
namespace K84
open PySem PySem.Spec PyProof.Rows L2 K84R
theorem candsFrom_snoc (p : List Int) (m : List Int) : ∀ (l : List (List Int)) (n : Nat), candsFrom p n (l ++ [m]) = candsFrom p n l ++ candsAt p (n + l.length) m
  | [], n => by simp [candsFrom]
  | x :: r, n => by
    have ih := candsFrom_snoc p m r (n + 1)
    show candsAt p n x ++ candsFrom p (n + 1) (r ++ [m]) = (candsAt p n x ++ candsFrom p (n + 1) r) ++ candsAt p (n + (r.length + 1)) m
    rw [ih, List.append_assoc, show n + 1 + r.length = n + (r.length + 1) by omega]
section
variable {P : Program} {w : World} {K : PySem.W.Frag} {mg : Str → Option Value} {base : Heap} {C D pM pE pP gP gL : Addr} {iM iE : Nat}
/-! ### Origin.__init__ -/
theorem scOIni : FnScope ["self", "rulers", "piece", "number", "ruler", "first", "turned"] ["self", "rulers", "piece"] (defScope sOIni) := ⟨rfl, rfl, rfl, by decide +kernel, rfl, by decide +kernel, by decide +kernel⟩
def spOIni (K : PySem.W.Frag) (C : Addr) (iM : Nat) (D : Addr) : Sp := fun vs H Q _ => ∃ (H0 : Hp) (o rt q dx : Addr) (mss : List (List Int)) (p : List Int), vs = [.ref o, .ref rt, .ref q] ∧ Same H0 H ∧ H0 o = none ∧ H o = some (.ins D dx []) ∧
  RulsAt C iM H0 rt mss ∧ (∀ ms ∈ mss, GoodM ms) ∧ 1 ≤ mss.length ∧ mss.length ≤ 4 ∧ SqT K H0 q (vI p) ∧ GoodP p ∧ candsL mss p ≠ [] ∧
  ∀ (H' : Hp) (ll la : Addr), Same H0 H' → H0 ll = none → H0 la = none → OrgAt D H' o rt ll la p.length 0 (candsL mss p) → Q .non H'
theorem ok_oini {f fS : Addr} {fd fdS : FuncData} (F : Fun K "__init__" "Origin.__init__" sOIni f fd) (T : OTxt K D) (B : Bl mg) (Cn : Consts mg)
    (FS : Fun K "spots" "spots" sSp fS fdS) (GS : FnOk P w K mg base CX0 4 fS fdS ["ruler", "piece"] (spOn K C iM)) (bS : Binds K fdS ["ruler", "piece"] []) (gS : mg "spots" = some (.ref fS)) :
    FnOk P w K mg base CX0 5 f fd ["self", "rulers", "piece"] (spOIni K C iM D) := by
  refine F.ok scOIni (fun vs H Q E h => ?_) (fun cdv A outer s H vs Q E hr h => ?_)
  · obtain ⟨H0, o, rt, q, dx, mss, p, rfl, _⟩ := h
    rfl
  · obtain ⟨H0, o, rt, q, dx, mss, p, rfl, s0, no0, ho, hR, hG, m1, m4, hq, gp, hne, k⟩ := h
    obtain ⟨tO, hMO⟩ := Cn.maxO
    have hr4 : Room 4 _ := hr
    obtain ⟨rs, hrt, hrs⟩ := id hR
    have lrs := Paired.length hrs
    obtain ⟨plen, plen8, _⟩ := id gp
    refine ⟨_, pss_cons (ps_if (pt_not (pt_chain op_le op_le pe_int (pe_callB call_len_seq (by rfl) B.len PySem.boot_len (pa_cons (pv 1) pa_nil)) (pe_glob (v := .int 6) (by rfl) hMO ⟨_, rfl⟩))) (pss_one ps_never) pss_nil)
      (pss_cons (ps_fld (pv 0) (pv 1) rfl)
      (pss_cons (ps_fld (pv 0) (pe_callB call_len_seq (by rfl) B.len PySem.boot_len (pa_cons (pv 2) pa_nil)) rfl)
      (pss_cons (ps_fld (pv 0) (pe_lst pa_nil) rfl)
      (pss_cons (ps_for PassesOwn.never rfl (pi_en (by rfl) B.enum (pa_cons (pv 1) pa_nil))
          (pg_tup rfl (pgs_cons (pg_name (i := 3) scOIni.nd rfl (Or.inr rfl)) (pgs_cons (pg_name (i := 4) scOIni.nd rfl (Or.inl rfl)) pgs_nil)))
        (pss_one (ps_expr (pe_bm PySem.F.plainAttrs_list PySem.F.slot_list_extend PySem.F.type_list_extend mt_extend (pe_fld (pv 0) rfl) (pa_cons
          (pe_lc (own := [("first", 5), ("turned", 6)]) (g := gTup K 2 (gCons (gName 5) (gCons (gName 6) gNil))) (tt := tYes) rfl scOIni.nd
            (pi_list (pe_call GS hr4 (by rfl) gS FS.kp bS .nil pass0 (pa_cons (pv 4) (pa_cons (pv 2) pa_nil))))
            (blkOk_by (N := ["self", "rulers", "piece", "number", "ruler", "first", "turned"]) (sc := defScope sOIni) (by decide +kernel))
            (fun _ _ _ _ _ => pg_tup rfl (pgs_cons (pg_name (i := 5) scOIni.nd rfl (Or.inl rfl)) (pgs_cons (pg_name (i := 6) scOIni.nd rfl (Or.inl rfl)) pgs_nil))) (fun _ _ _ _ _ => pts_nil)
            (fun _ _ _ _ _ => pe_tup (pa_cons (pv 3) (pa_cons (pv 5) (pa_cons (pv 6) pa_nil))))) pa_nil)))))
      (pss_cons (ps_if (pt_cmpR (op_eqD hr.units) (pe_fld (pv 0) rfl) (pe_lst pa_nil) (nomark _)) (pss_one ps_never) pss_nil)
      (pss_one (ps_fld (pv 0) (pe_lst pa_nil) rfl))))))), ?_⟩
    -- if not 1 <= len(rulers) <= MAX_ORIGINS
    refine ⟨_, rfl, rt, _, rfl, .inr (SqT.of (s0 _ _ hrt)), _, _, rfl, rfl, _, rfl, ?_⟩
    rw [refs_len, lrs]
    refine ifY (decide_eq_true (by omega)) ⟨_, _, rfl, rfl, _, rfl, ?_⟩
    refine ifN (by rw [decide_eq_true (show ((mss.length : Nat) : Int) ≤ 6 by omega)]; rfl) ?_
    -- self.all_rulers, self.size, self.left
    refine ⟨_, rfl, _, rfl, o, D, dx, _, rfl, ho, T.cl, T.nA, (by show 0 < 1000; decide), ?_⟩
    have sA : Same H0 (upd H o (.ins D dx (oF1 rt))) := s0.put no0 _
    show _
    refine ⟨_, rfl, q, _, rfl, .inr (sA.tupT hq), _, rfl, o, D, dx, _, rfl, upd_same, T.cl, T.nS, (by show 1 < 1000; decide), ?_⟩
    rw [vI_len, upd_upd]
    have sB : Same H0 (upd H o (.ins D dx (oF2 rt p.length))) := s0.put no0 _
    refine ⟨Nat.zero_le _, fun ll nll => ?_⟩
    have nllo : o ≠ ll := ne_of_none upd_same nll
    have nll0 : H0 ll = none := sB.free nll
    refine ⟨_, rfl, o, D, dx, _, rfl, by rw [upd_ne nllo, upd_same], T.cl, T.nL, ?_, ?_⟩
    · show (oF2 rt p.length).length < 1000
      unfold oF2 oF1
      simp only [putF, Ne.symm d1, if_false]
      show 2 < 1000
      decide
    have sC : Same H0 (upd (upd (upd H o (.ins D dx (oF2 rt p.length))) ll (.lst [])) o (.ins D dx (oF3 rt p.length ll))) := (sB.put nll0 _).put no0 _
    -- the loop
    refine ⟨_, rfl, rt, _, rfl, SqT.of (sC _ _ hrt), ?_⟩
    refine for_en (K := K) (a := rt) (xs := refs rs) (fun i σ H3 => ∃ as x3 x4, σ = [some (.ref o), some (.ref rt), some (.ref q), x3, x4, none, none] ∧ Same H0 H3 ∧ H3 o = some (.ins D dx (oF3 rt p.length ll)) ∧
      H3 ll = some (.lst (refs as)) ∧ Paired (PlT H3) as (candsFrom p 0 (mss.take i))) ⟨[], none, none, rfl, sC, upd_same, ?_, .nil⟩ (fun i σ H3 _ ⟨_, _, _, _, sm, _⟩ => SqT.of (sm _ _ hrt)) ?_ ?_
    · rw [upd_ne nllo.symm, upd_same]
      rfl
    · rintro i y TT σ H3 hy ⟨as, x3, x4, rfl, sm, hO, hL, hP⟩ nT
      obtain ⟨r, hr', rfl⟩ := refs_at hy
      obtain ⟨ms, hms, hRul⟩ := get_fst hrs hr'
      have sT : Same H3 (upd H3 TT (.tup [.int (i : Nat), .ref r])) := same_new nT
      have hil : i < mss.length := (List.getElem?_eq_some_iff.mp hms).1
      refine ⟨TT, _, rfl, SqT.of upd_same, rfl, _, _, rfl, _, _, rfl, rfl, ?_⟩
      generalize upd H3 TT (.tup [.int (i : Nat), .ref r]) = H4 at sT ⊢
      have sm4 := sm.trans sT
      have hO4 := sT _ _ hO
      have hL4 := sT _ _ hL
      have lenA : as.length ≤ 32 := by
        have e1 := Paired.length hP
        have e2 := candsFrom_len plen (mss.take i) 0 fun m hm => (hG m (List.mem_of_mem_take hm)).2.1
        rw [List.length_take] at e2
        omega
      refine ⟨_, rfl, o, D, dx, _, _, rfl, hO4, T.cl, T.nL, oF3_size _ _ _, .inl ⟨rfl, _, SqL.of hL4⟩, ?_⟩
      -- spots(ruler, piece)
      refine ⟨_, rfl, _, rfl, r, q, ms, p, rfl, sm4.rul hRul, hG ms (List.mem_of_getElem? hms), sm4.tupT hq, gp, fun H5 u bs s5 nu hu hbs => ?_⟩
      have sm5 := sm4.trans s5
      have len5 := Paired.length hbs
      have len6 : bs.length ≤ 8 := by
        have := spots_len ms p plen
        have := (hG ms (List.mem_of_getElem? hms)).2.1
        omega
      refine ⟨u, rfl, ⟨_, SqL.of hu⟩, fun L nL => ?_⟩
      refine lc_list (K := K) (a := u) (xs := refs bs) (fun j H6 => ∃ cs, Same H5 H6 ∧ H6 L = some (.lst (refs cs)) ∧ cs.length ≤ j ∧ Paired (PlT H6) cs (((spotsL ms p).take j).map fun s => (i, s.1, s.2))) ⟨[], same_new nL, upd_same, Nat.le_refl _, .nil⟩ (fun j H6 _ ⟨_, z, _⟩ => Same.seq z (SqL.of hu)) ?_ ?_
      · rintro j y H6 hy ⟨cs, sm6, hL6, hcl, hP6⟩
        obtain ⟨b, hb, rfl⟩ := refs_at hy
        obtain ⟨sp, hsp, pb⟩ := get_fst hbs hb
        have hj : j < bs.length := (List.getElem?_eq_some_iff.mp hb).1
        refine ⟨b, _, rfl, SqT.of (sm6 _ _ pb), rfl, _, _, rfl, _, _, rfl, rfl, rfl, tyes ?_⟩
        refine ⟨_, rfl, _, rfl, _, rfl, (by show 3 ≤ sizeLine; decide), fun t nt => ?_⟩
        have st := same_new (H := H6) (o := .tup [.int ((i : Nat) : Int), .int ((sp.1 : Nat) : Int), .bl sp.2]) nt
        have nLt : L ≠ t := ne_of_none hL6 nt
        refine ⟨_, st _ _ hL6, by rw [refs_len]; exact small1000 (by omega), cs ++ [t], (sm6.trans st).put nL _, by rw [upd_same, refs_snoc], by simp; omega, ?_⟩
        rw [take_snoc hsp, List.map_append]
        have keep : ∀ (b' : Addr) (d : Pl), PlT H6 b' d → PlT (upd (upd H6 t (.tup [.int ((i : Nat) : Int), .int ((sp.1 : Nat) : Int), .bl sp.2])) L (.lst (refs cs ++ [.ref t]))) b' d := fun b' d hd => by
          show upd _ _ _ b' = _
          rw [upd_ne (ne_of hd hL6 (by intro z; cases z))]
          exact st _ _ hd
        refine (L2.Paired.mapP hP6 keep).snoc ?_
        show upd _ _ _ t = _
        rw [upd_ne nLt.symm, upd_same]
      · rintro H6 ⟨cs, sm6, hL6, hcl, hP6⟩
        rw [refs_len, len5, List.take_of_length_le (Nat.le_refl _)] at hP6
        rw [refs_len] at hcl
        have sm06 := sm5.trans sm6
        have hO6 := sm6 _ _ (s5 _ _ hO4)
        have hL6' := sm6 _ _ (s5 _ _ hL4)
        have nLll : ll ≠ L := ne_of_none (s5 _ _ hL4) nL
        refine ⟨ll, L, _, _, rfl, rfl, hL6', hL6, ?_, ?_⟩
        · rw [refs_len, refs_len]
          exact line_small (by omega)
        · have eapp : refs as ++ refs cs = refs (as ++ cs) := by
            unfold refs
            rw [List.map_append]
          rw [eapp]
          have keep : ∀ (b' : Addr) (d : Pl), PlT H6 b' d → PlT (upd H6 ll (.lst (refs (as ++ cs)))) b' d := fun b' d hd => by
            show upd _ _ _ b' = _
            rw [upd_ne (ne_of hd hL6' (by intro z; cases z))]
            exact hd
          have hPa : Paired (PlT H6) as (candsFrom p 0 (mss.take i)) := (sT.trans (s5.trans sm6)).pls hP
          have glue : ∀ {α β : Type} {G : α → β → Prop} {l1 l2 : List α} {k1 k2 : List β}, Paired G l1 k1 → Paired G l2 k2 → Paired G (l1 ++ l2) (k1 ++ k2) := by
            intro α β G l1 l2 k1 k2 h1 h2
            induction h1 with
            | nil => exact h2
            | cons h t ih => exact .cons h ih
          refine ⟨as ++ cs, _, _, rfl, sm06.put nll0 _, ?_, upd_same, ?_⟩
          · rw [upd_ne nllo]
            exact hO6
          · rw [take_snoc hms, candsFrom_snoc, List.length_take, Nat.min_eq_left (by omega), Nat.zero_add]
            exact glue (L2.Paired.mapP hPa keep) (L2.Paired.mapP hP6 keep)
    · rintro σ H3 ⟨as, x3, x4, rfl, sm, hO, hL, hP⟩
      rw [refs_len, lrs, List.take_of_length_le (Nat.le_refl _)] at hP
      have hP' : Paired (PlT H3) as (candsL mss p) := hP
      refine ⟨_, rfl, o, D, dx, _, _, rfl, hO, T.cl, T.nL, oF3_size _ _ _, Nat.zero_le _, fun e ne => ?_⟩
      have s4 : Same H3 (upd H3 e (.lst [])) := same_new ne
      refine ⟨_, _, .lst (SqL.of (s4 _ _ hL)) (dpPls K (s4.pls hP')), .lst (ds := []) (SqL.of upd_same) .nil, shaped_lpl _, shaped_lst [], _, rfl, ?_⟩
      rw [eqv_lnil]
      generalize upd H3 e (.lst []) = H4 at s4 ⊢
      refine ifN (decide_eq_false hne) ?_
      have sm4 := sm.trans s4
      have hO4 := s4 _ _ hO
      have hL4 := s4 _ _ hL
      refine ⟨Nat.zero_le _, fun la nla => ?_⟩
      have nlao : o ≠ la := ne_of_none hO4 nla
      have nlal : ll ≠ la := ne_of_none hL4 nla
      refine ⟨_, rfl, o, D, dx, _, rfl, by rw [upd_ne nlao]; exact hO4, T.cl, T.nC, ?_, ?_⟩
      · show (oF3 rt p.length ll).length < 1000
        unfold oF3 oF2 oF1
        simp only [putF, Ne.symm d1, Ne.symm d2, Ne.symm d3, if_false]
        show 3 < 1000
        decide
      have nla0 : H0 la = none := sm4.free nla
      refine k _ ll la ((sm4.put nla0 _).put no0 _) nll0 nla0 ⟨dx, as, [], upd_same, ?_, ?_, ?_, rfl⟩
      · rw [upd_ne nllo.symm, upd_ne nlal]
        exact hL4
      · refine L2.Paired.mapP (s4.pls hP') fun b d hd => ?_
        show upd _ _ _ b = _
        rw [upd_ne (ne_of hd hO4 (by intro z; cases z)), upd_ne (ne_of_none hd nla)]
        exact hd
      · rw [upd_ne nlao.symm, upd_same]
end
end K84
namespace K84
open PySem PySem.Spec PyProof.Rows L2 K84R
theorem addTo {x y z : Int} {H : Hp} {Q : VK} (e : x + y = z) (q : Q (.int z) H) : rI0 (fun i j => .int (i + j)) (.int x) (.int y) H Q := by
  subst e
  exact ⟨x, y, rfl, rfl, q⟩
theorem flat_vI : ∀ ns : List Int, (vI ns).all flatV = true
  | [] => rfl
  | n :: r => by
    have ih := flat_vI r
    show (flatV (.int n) && (vI r).all flatV) = true
    rw [ih]
    rfl
theorem eqV_int (a b : Int) : eqV (.int a) (.int b) = decide (a = b) := by
  unfold eqV
  rw [Bool.eq_iff_iff]
  simp
theorem inV_iff (k : Int) : ∀ ns : List Int, inV (.int k) (vI ns) = decide (k ∈ ns)
  | [] => by simp [inV]
  | n :: r => by
    have ih := inV_iff k r
    unfold inV at ih ⊢
    show (eqV (.int n) (.int k) || (vI r).any fun y => eqV y (.int k)) = _
    rw [ih, eqV_int]
    by_cases h : n = k
    · rw [decide_eq_true h, Bool.true_or, decide_eq_true (show k ∈ n :: r by rw [h]; exact List.mem_cons_self)]
    · rw [decide_eq_false h, Bool.false_or]
      refine decide_eq_decide.mpr ⟨fun m => List.mem_cons_of_mem _ m, fun m => ?_⟩
      rcases List.mem_cons.mp m with same | later
      · exact absurd same.symm h
      · exact later
section
variable {P : Program} {w : World} {K : PySem.W.Frag} {mg : Str → Option Value} {base : Heap} {C pM pE pP gP gL : Addr} {iM iE : Nat}
theorem scHas : FnScope ["_law_rulers", "_law_piece", "_law_begin", "_law_end", "_law_size", "_law_part", "_law_one", "_law_some", "_law_place", "_law_turned_here", "_law_here", "_law_numbers", "_law_row"]
    ["_law_rulers", "_law_piece", "_law_begin", "_law_end"] (defScope sHas) := ⟨rfl, rfl, rfl, by decide +kernel, rfl, by decide +kernel, by decide +kernel⟩
def spHas (K : PySem.W.Frag) (C : Addr) (iM : Nat) : Sp := fun vs H Q _ => ∃ (rt q : Addr) (mss : List (List Int)) (p : List Int) (b e : Nat), vs = [.ref rt, .ref q, .int (b : Nat), .int (e : Nat)] ∧
  RulsAt C iM H rt mss ∧ (∀ ms ∈ mss, GoodM ms) ∧ SqT K H q (vI p) ∧ GoodP p ∧ b < e ∧ e ≤ p.length ∧ ∀ H' : Hp, Same H H' → Q (.bl true) H'
theorem ok_has {f fS fM fT : Addr} {fd fdS fdM fdT fdP : FuncData} (F : Fun K "_law_has_parts" "_law_has_parts" sHas f fd) (R : RTxt K C pM pE pP gP gL iM iE) (B : Bl mg)
    (FS : Fun K "spots" "spots" sSp fS fdS) (GS : FnOk P w K mg base CX0 4 fS fdS ["ruler", "piece"] (spOn K C iM)) (bS : Binds K fdS ["ruler", "piece"] []) (gS : mg "spots" = some (.ref fS))
    (FM : Fun K "_law_moved" "_law_moved" sLMov fM fdM) (bM : Binds K fdM ["_law_marks_here"] []) (gM : mg "_law_moved" = some (.ref fM))
    (FT : Fun K "_law_turned" "_law_turned" sTur fT fdT) (bT : Binds K fdT ["_law_marks_here"] []) (gT : mg "_law_turned" = some (.ref fT))
    (FP : Fun K "marks" "Ruler.marks" sRMk gP fdP) (bP : Binds K fdP ["self"] []) :
    FnOk P w K mg base CX0 5 f fd ["_law_rulers", "_law_piece", "_law_begin", "_law_end"] (spHas K C iM) := by
  have GM : FnOk P w K mg base CX0 1 fM fdM ["_law_marks_here"] (spMap K mv) := ok_lmov FM B
  have GT : FnOk P w K mg base CX0 1 fT fdT ["_law_marks_here"] (spMap K mir) := ok_tur FT B
  have GP := (ok_rmk (P := P) (w := w) (mg := mg) (base := base) FP R).raw bP .nil
  refine F.ok scHas (fun vs H Q E h => ?_) (fun cdv A outer s H vs Q E hr h => ?_)
  · obtain ⟨rt, q, mss, p, b, e, rfl, _⟩ := h
    rfl
  · obtain ⟨rt, q, mss, p, b, e, rfl, hR, hG, hq, gp, hbe, hep, k⟩ := h
    have hr4 : Room 4 _ := hr
    have hr2 : Room 2 _ := hr.mono (by decide)
    have hr1 : Room 1 _ := hr.mono (by decide)
    refine ⟨_, pss_cons (ps_par (i := 4) (j := 5) (by rfl) scHas.nd rfl rfl (by decide) rfl rfl (pa_cons (pe_callB call_len_seq (by rfl) B.len PySem.boot_len (pa_cons (pv 1) pa_nil))
        (pa_cons (pe_call GM hr1 (by rfl) gM FM.kp bM .nil pass0 (pa_cons (pe_slice sl_tupA (pv 1) (po_some (pv 2)) (po_some (pv 3))) pa_nil)) pa_nil)) (by rfl))
      (pss_cons (ps_for PassesOwn.never rfl (pi_tup (pv 0)) (pg_name (i := 6) scHas.nd rfl (Or.inl rfl))
        (pss_cons (ps_set (i := 7) scHas.nd rfl (Or.inl rfl) (pe_call GS hr4 (by rfl) gS FS.kp bS .nil pass0 (pa_cons (pv 6) (pa_cons (pv 5) pa_nil))))
        (pss_one (ps_for PassesOwn.never rfl (pi_list (pe_call GS hr4 (by rfl) gS FS.kp bS .nil pass0 (pa_cons (pv 6) (pa_cons (pv 1) pa_nil))))
            (pg_tup rfl (pgs_cons (pg_name (i := 8) scHas.nd rfl (Or.inl rfl)) (pgs_cons (pg_name (i := 9) scHas.nd rfl (Or.inl rfl)) pgs_nil)))
          (pss_cons (ps_set (i := 10) scHas.nd rfl (Or.inl rfl) (pe_op op_add (pv 8) (pe_ifExp (pt_val (pv 9)) (pe_op op_sub (pv 4) (pv 3)) (pv 2))))
          (pss_cons (ps_if (pt_cmpR op_notIn_seq (pv 10)
              (pe_lc (own := [("_law_row", 12)]) (g := gName 12) (tt := tYes) rfl scHas.nd (pi_list (pv 7))
                (blkOk_by (N := ["_law_rulers", "_law_piece", "_law_begin", "_law_end", "_law_size", "_law_part", "_law_one", "_law_some", "_law_place", "_law_turned_here", "_law_here", "_law_numbers", "_law_row"]) (sc := defScope sHas) (by decide +kernel))
                (fun _ _ _ _ _ => pg_name (i := 12) scHas.nd rfl (Or.inl rfl)) (fun _ _ _ _ _ => pts_nil)
                (fun _ _ _ _ _ => pe_ix (r := rIxT K) ix_tup (pv 12) pe_int (fun _ _ => rfl))) (by rfl)) (pss_one (ps_ret pe_bl)) pss_nil)
          (pss_cons (ps_set (i := 11) scHas.nd rfl (Or.inl rfl) (pe_call GM hr1 (by rfl) gM FM.kp bM .nil pass0 (pa_cons
              (pe_slice sl_tupA (SlX.pe_propSl (CX := CX0) (E := E0) (pv 6) R.cl R.pAt R.pGet R.pTk R.pRc GP hr2 (fun _ _ _ _ z => z)) (po_some (pv 10)) (po_some (pe_op op_sub (pe_op op_add (pv 10) (pv 3)) (pv 2)))) pa_nil)))
          (pss_one (ps_if (pt_cmpR (op_neD hr.units) (pv 11) (pe_ifExp (pt_val (pv 9)) (pe_call GT hr1 (by rfl) gT FT.kp bT .nil pass0 (pa_cons (pv 5) pa_nil)) (pv 5)) (nomark _)) (pss_one (ps_ret pe_bl)) pss_nil)))))))))
      (pss_one (ps_ret pe_bl))), ?_⟩
    -- _law_size, _law_part
    obtain ⟨rs, hrt, hrs⟩ := id hR
    obtain ⟨plen, plen8, _⟩ := id gp
    have sl := seg_length p b (e - b) (by omega)
    refine ⟨_, rfl, q, _, rfl, .inr hq, _, rfl, _, rfl, _, rfl, _, rfl, _, rfl, cut_of hq fun H4 c s4 hc => ?_⟩
    rw [cut_seg (i := b) (n := e - b) (by omega) rfl (by omega)] at hc
    refine ⟨c, _, rfl, hc, by rw [sl]; omega, by rw [sl]; omega, fun H1 pt s5 npt hpt => ?_⟩
    have sm1 : Same H H1 := s4.trans s5
    have gq : GoodP (mv (seg p b (e - b))) := gp.piece (by omega) (by omega)
    refine ⟨_, _, rfl, ?_⟩
    rw [vI_len]
    -- for _law_one in _law_rulers
    refine ⟨_, rfl, rt, rfl, ⟨_, SqT.of (sm1 _ _ hrt)⟩, ?_⟩
    refine for_tup (K := K) (a := rt) (xs := refs rs) (fun i σ H3 => ∃ x6 x7 x8 x9 x10 x11, σ = [some (.ref rt), some (.ref q), some (.int (b : Nat)), some (.int (e : Nat)), some (.int (p.length : Nat)), some (.ref pt), x6, x7, x8, x9, x10, x11, none] ∧ Same H1 H3)
      ⟨none, none, none, none, none, none, rfl, Same.refl H1⟩ (fun i σ H3 _ ⟨_, _, _, _, _, _, _, sm⟩ => SqT.of (sm _ _ (sm1 _ _ hrt))) ?_ ?_
    · rintro i y σ H3 hy ⟨x6, x7, x8, x9, x10, x11, rfl, sm⟩
      obtain ⟨r, hr', rfl⟩ := refs_at hy
      obtain ⟨ms, hms, hRul⟩ := get_fst hrs hr'
      have gm := hG ms (List.mem_of_getElem? hms)
      have smH := sm1.trans sm
      refine ⟨_, rfl, _, rfl, r, pt, ms, _, rfl, smH.rul hRul, gm, SqT.of (sm _ _ hpt), gq, fun H4 u as s4 nu hu has => ?_⟩
      refine ⟨_, rfl, _, rfl, r, q, ms, p, rfl, (smH.trans s4).rul hRul, gm, (smH.trans s4).tupT hq, gp, fun H5 v bs s5 nv hv hbs => ?_⟩
      have lenA := Paired.length has
      have lenB := Paired.length hbs
      have sm5 := sm.trans (s4.trans s5)
      have hu5 := s5 _ _ hu
      have has5 := s5.spots has
      have lenA8 : as.length ≤ 8 := by
        have := spots_len ms (mv (seg p b (e - b))) gq.1
        have := gm.2.1
        omega
      refine ⟨v, rfl, ⟨_, SqL.of hv⟩, ?_⟩
      refine for_list (K := K) (a := v) (xs := refs bs) (fun j σ H6 => ∃ x8 x9 x10 x11, σ = [some (.ref rt), some (.ref q), some (.int (b : Nat)), some (.int (e : Nat)), some (.int (p.length : Nat)), some (.ref pt), some (.ref r), some (.ref u), x8, x9, x10, x11, none] ∧ Same H5 H6)
        ⟨_, _, _, _, rfl, Same.refl H5⟩ (fun j σ H6 _ ⟨_, _, _, _, _, z⟩ => Same.seq z (SqL.of hv)) ?_ ?_
      · rintro j y σ H6 hy ⟨x8, x9, x10, x11, rfl, sm6⟩
        obtain ⟨a, ha, rfl⟩ := refs_at hy
        obtain ⟨⟨pi, pt'⟩, hsp, pa⟩ := get_fst hbs ha
        have mem : (pi, pt') ∈ spotsL ms p := List.mem_of_getElem? hsp
        have smH6 := (sm1.trans sm5).trans sm6
        have on := (mem_spots.mp mem).1
        have pa2 : H5 a = some (.tup [.int ((pi : Nat) : Int), .bl pt']) := pa
        refine ⟨a, _, rfl, SqT.of (sm6 _ _ pa2), rfl, _, _, rfl, _, _, rfl, rfl, ?_⟩
        -- _law_here
        obtain ⟨here, hhere⟩ : ∃ n : Nat, n = pi + (if pt' = true then p.length - e else b) := ⟨_, rfl⟩
        have hon2 : here + (e - b) ≤ ms.length := by
          rw [hhere]
          split <;> omega
        obtain ⟨t2, hmem2, _⟩ := part_spot hbe hep mem
        have hnum := part_numbers hbe hep mem
        rw [← hhere] at hmem2 hnum
        refine ⟨_, rfl, _, rfl, pt', rfl, ?_⟩
        have hu6 := sm6 _ _ hu5
        have has6 := sm6.spots has5
        cases pt' with
        | true =>
          have eh : ((pi : Nat) : Int) + (((p.length : Nat) : Int) - ((e : Nat) : Int)) = ((here : Nat) : Int) := by
            rw [hhere, if_pos rfl]
            omega
          refine iteT ?_
          refine ⟨_, rfl, _, rfl, _, _, rfl, rfl, addTo eh ?_⟩
          -- if _law_here not in [..]
          refine ⟨_, rfl, _, rfl, u, rfl, ⟨_, SqL.of hu6⟩, fun L nL => ?_⟩
          refine lc_list (K := K) (a := u) (xs := refs as) (fun j H7 => Same H6 H7 ∧ H7 L = some (.lst (vI (((spotsL ms (mv (seg p b (e - b)))).take j).map fun s => ((s.1 : Nat) : Int))))) ⟨same_new nL, upd_same⟩ (fun j H7 _ z => Same.seq z.1 (SqL.of hu6)) ?_ ?_
          · rintro j' y H7 hy ⟨sm7, hL⟩
            obtain ⟨a', ha', rfl⟩ := refs_at hy
            obtain ⟨s', hs', pa'⟩ := get_fst has6 ha'
            have hj' : j' < as.length := (List.getElem?_eq_some_iff.mp ha').1
            refine ⟨rfl, tyes ?_⟩
            refine ⟨_, rfl, a', _, 0, _, rfl, rfl, SqT.of (sm7 _ _ pa'), atI_nat (j := 0) rfl, _, hL, ?_, sm7.put nL _, ?_⟩
            · rw [vI_len, List.length_map, List.length_take]
              exact small1000 (by omega)
            · rw [upd_same, vI_snoc, take_snoc hs', List.map_append]
              rfl
          · rintro H7 ⟨sm7, hL⟩
            rw [refs_len, lenA, List.take_of_length_le (Nat.le_refl _)] at hL
            have hin : ((here : Nat) : Int) ∈ (spotsL ms (mv (seg p b (e - b)))).map (fun s => ((s.1 : Nat) : Int)) := List.mem_map.mpr ⟨_, hmem2, rfl⟩
            refine ⟨L, _, rfl, .inl (SqL.of hL), rfl, flat_vI _, _, rfl, ?_⟩
            refine ifN (by rw [if_pos rfl, inV_iff, decide_eq_true hin]; rfl) ?_
            -- _law_numbers
            have sm67 := smH6.trans sm7
            obtain ⟨dx', t', vs', hsl', _, _⟩ := id (sm67.rul hRul)
            refine ⟨_, rfl, r, dx', vs', rfl, hsl', r, ms, rfl, sm67.rul hRul, fun t ht => ?_⟩
            refine ⟨_, rfl, _, rfl, _, rfl, _, rfl, _, _, rfl, rfl, _, rfl, _, _, rfl, rfl, _, rfl, cut_of (SqT.of ht) fun H8 c' s8 hc' => ?_⟩
            rw [cut_seg (i := here) (n := e - b) hon2 rfl (by omega)] at hc'
            refine ⟨c', _, rfl, hc', by rw [seg_length _ _ _ hon2]; omega, by rw [seg_length _ _ _ hon2]; omega, fun H9 nt s9 nnt hnt => ?_⟩
            have sm9 : Same H5 H9 := sm6.trans (sm7.trans (s8.trans s9))
            have hpt9 : H9 pt = some (.tup (vI (mv (seg p b (e - b))))) := sm9 _ _ (sm5 _ _ hpt)
            rw [if_pos rfl] at hnum
            rw [hnum] at hnt
            refine ⟨_, rfl, _, rfl, true, rfl, iteT ?_⟩
            refine ⟨_, rfl, pt, _, rfl, SqT.of hpt9, by rw [mv_length, sl]; omega, by rw [mv_length, sl]; omega, fun H10 tt s10 ntt htt => ?_⟩
            refine ⟨_, _, .tup (SqT.of (s10 _ _ hnt)) (dpInts K _ _), .tup (SqT.of htt) (dpInts K _ _), shaped_tup _, shaped_tup _, _, rfl, ?_⟩
            refine ifN (by rw [eqv_tup, decide_eq_true rfl]; rfl) ?_
            exact ⟨_, _, _, _, rfl, sm9.trans s10⟩
        | false =>
          have eh : ((pi : Nat) : Int) + ((b : Nat) : Int) = ((here : Nat) : Int) := by
            rw [hhere, if_neg Bool.false_ne_true]
            omega
          refine iteF ?_
          refine ⟨_, rfl, addTo eh ?_⟩
          -- if _law_here not in [..]
          refine ⟨_, rfl, _, rfl, u, rfl, ⟨_, SqL.of hu6⟩, fun L nL => ?_⟩
          refine lc_list (K := K) (a := u) (xs := refs as) (fun j H7 => Same H6 H7 ∧ H7 L = some (.lst (vI (((spotsL ms (mv (seg p b (e - b)))).take j).map fun s => ((s.1 : Nat) : Int))))) ⟨same_new nL, upd_same⟩ (fun j H7 _ z => Same.seq z.1 (SqL.of hu6)) ?_ ?_
          · rintro j' y H7 hy ⟨sm7, hL⟩
            obtain ⟨a', ha', rfl⟩ := refs_at hy
            obtain ⟨s', hs', pa'⟩ := get_fst has6 ha'
            have hj' : j' < as.length := (List.getElem?_eq_some_iff.mp ha').1
            refine ⟨rfl, tyes ?_⟩
            refine ⟨_, rfl, a', _, 0, _, rfl, rfl, SqT.of (sm7 _ _ pa'), atI_nat (j := 0) rfl, _, hL, ?_, sm7.put nL _, ?_⟩
            · rw [vI_len, List.length_map, List.length_take]
              exact small1000 (by omega)
            · rw [upd_same, vI_snoc, take_snoc hs', List.map_append]
              rfl
          · rintro H7 ⟨sm7, hL⟩
            rw [refs_len, lenA, List.take_of_length_le (Nat.le_refl _)] at hL
            have hin : ((here : Nat) : Int) ∈ (spotsL ms (mv (seg p b (e - b)))).map (fun s => ((s.1 : Nat) : Int)) := List.mem_map.mpr ⟨_, hmem2, rfl⟩
            refine ⟨L, _, rfl, .inl (SqL.of hL), rfl, flat_vI _, _, rfl, ?_⟩
            refine ifN (by rw [if_pos rfl, inV_iff, decide_eq_true hin]; rfl) ?_
            -- _law_numbers
            have sm67 := smH6.trans sm7
            obtain ⟨dx', t', vs', hsl', _, _⟩ := id (sm67.rul hRul)
            refine ⟨_, rfl, r, dx', vs', rfl, hsl', r, ms, rfl, sm67.rul hRul, fun t ht => ?_⟩
            refine ⟨_, rfl, _, rfl, _, rfl, _, rfl, _, _, rfl, rfl, _, rfl, _, _, rfl, rfl, _, rfl, cut_of (SqT.of ht) fun H8 c' s8 hc' => ?_⟩
            rw [cut_seg (i := here) (n := e - b) hon2 rfl (by omega)] at hc'
            refine ⟨c', _, rfl, hc', by rw [seg_length _ _ _ hon2]; omega, by rw [seg_length _ _ _ hon2]; omega, fun H9 nt s9 nnt hnt => ?_⟩
            have sm9 : Same H5 H9 := sm6.trans (sm7.trans (s8.trans s9))
            have hpt9 : H9 pt = some (.tup (vI (mv (seg p b (e - b))))) := sm9 _ _ (sm5 _ _ hpt)
            rw [if_neg Bool.false_ne_true] at hnum
            rw [hnum] at hnt
            refine ⟨_, rfl, _, rfl, false, rfl, iteF ?_⟩
            refine ⟨_, rfl, _, _, .tup (SqT.of hnt) (dpInts K _ _), .tup (SqT.of hpt9) (dpInts K _ _), shaped_tup _, shaped_tup _, _, rfl, ?_⟩
            refine ifN (by rw [eqv_tup, decide_eq_true rfl]; rfl) ?_
            exact ⟨_, _, _, _, rfl, sm9⟩
      · rintro σ H6 ⟨x8, x9, x10, x11, rfl, sm6⟩
        exact ⟨_, _, _, _, _, _, rfl, sm5.trans sm6⟩
    · rintro σ H3 ⟨x6, x7, x8, x9, x10, x11, rfl, sm⟩
      exact k H3 (sm1.trans sm)
end
end K84
namespace K84
open PySem PySem.Spec PyProof.Rows L2 K84R
/-! ### the defs, as they are called -/
def GFn (P : Program) (w : World) (K : PySem.W.Frag) (mg : Str → Option Value) (base : Heap) (x : Str) (k : Nat) (ps : List Str) (sp : Sp) : Prop :=
  ∃ (f : Addr) (fd : FuncData), FnOk P w K mg base CX0 k f fd ps sp ∧ Binds K fd ps [] ∧ mg x = some (.ref f) ∧ PySem.W.keepIn K (.ref f) = true
def GMt (P : Program) (w : World) (K : PySem.W.Frag) (mg : Str → Option Value) (base : Heap) (D : Addr) (m : Str) (k : Nat) (ps : List Str) (sp : Sp) : Prop :=
  ∃ (f : Addr) (fd : FuncData), FnOk P w K mg base CX0 k f fd ps sp ∧ Binds K fd ps [] ∧ Meth K D m f
structure Defs (P : Program) (w : World) (K : PySem.W.Frag) (mg : Str → Option Value) (base : Heap) (C D pM pE pP gP gL : Addr) (iM iE : Nat) : Prop where
  B : Bl mg
  R : RTxt K C pM pE pP gP gL iM iE
  T : OTxt K D
  rmk : ∃ fd, FnOk P w K mg base CX0 1 gP fd ["self"] (spRMk C iM) ∧ Binds K fd ["self"] []
  rlen : ∃ fd, FnOk P w K mg base CX0 1 gL fd ["self"] (spRLen C iM) ∧ Binds K fd ["self"] []
  beg : GFn P w K mg base "_law_begun" 1 ["_law_script"] (spBeg K)
  take : GFn P w K mg base "_law_take" 1 ["_law_box", "_law_many"] spTake
  rul : GFn P w K mg base "_law_ruler" 4 ["_law_box", "_law_most", "_law_length"] (spRul C iM)
  mov : GFn P w K mg base "_law_moved" 1 ["_law_marks_here"] (spMap K mv)
  tur : GFn P w K mg base "_law_turned" 1 ["_law_marks_here"] (spMap K mir)
  has : GFn P w K mg base "_law_has_parts" 5 ["_law_rulers", "_law_piece", "_law_begin", "_law_end"] (spHas K C iM)
  org : ∃ (f : Addr) (fd : FuncData), Mk K D f ∧ FnOk P w K mg base CX0 5 f fd ["self", "rulers", "piece"] (spOIni K C iM D) ∧ Binds K fd ["self", "rulers", "piece"] [] ∧ mg "Origin" = some (.ref D)
  num : GMt P w K mg base D "numbers" 4 ["self", "index"] (spONum C iM D)
  see : GMt P w K mg base D "see" 5 ["self", "index", "number"] (spSee C iM D [])
  can : ∃ (p g : Addr) (fd : FuncData), FnOk P w K mg base CX0 1 g fd ["self"] (spOCan D) ∧ Binds K fd ["self"] [] ∧ PropOf K D "candidates" p g
/-! ### the law's frame -/
abbrev LN : List Str := ["_law_script", "_law_box", "_law_rulers", "_law_ruler_here", "_law_size", "_law_first", "_law_piece", "_law_begin", "_law_end", "_law_part", "_law_all_of", "_law_some_of", "_law_index", "_law_known", "_law_odd", "_law_true",
  "_law_number", "_law_place", "_law_turned_here", "_law_marks_here", "_law_here", "_law_turn", "_law_one"]
theorem scLaw : FnScope LN ["_law_script"] (defScope sLaw) := ⟨rfl, rfl, rfl, by decide +kernel, rfl, by decide +kernel, by decide +kernel⟩
abbrev XL (P : Program) (w : World) (K : PySem.W.Frag) (mg : Str → Option Value) (base : Heap) (f : Addr) (cdv : Value) (A : Around) (outer : List Env) (s : Shared) (H : Hp) (E : XK) : Cx :=
  (cxOf CX0 P w K mg base LN "law" (defScope sLaw) f cdv A outer s H E).nox
abbrev AL (f : Addr) (cdv : Value) (A : Around) (s : Shared) : Around := A.deeper (envOfC "law" (defScope sLaw) s.heap.objs.size f cdv)
/-- behind the drawing: the rulers, a piece, a part of it -/
structure Drawn (C : Addr) (iM : Nat) (H : Hp) (b l rt q pt : Addr) (mss : List (List Int)) (p : List Int) (bg en : Nat) : Prop where
  box : BoxAt H b l
  ruls : RulsAt C iM H rt mss
  good : ∀ ms ∈ mss, GoodM ms
  m1 : 1 ≤ mss.length
  m4 : mss.length ≤ 4
  hq : H q = some (.tup (vI p))
  gp : GoodP p
  be : bg < en
  el : en ≤ p.length
  hpt : H pt = some (.tup (vI (mv (seg p bg (en - bg)))))
  gq : GoodP (mv (seg p bg (en - bg)))
  c1 : candsL mss p ≠ []
  c2 : candsL mss (mv (seg p bg (en - bg))) ≠ []
def Mid1 (C : Addr) (iM : Nat) (σ : L2.St) (H : Hp) : Prop := ∃ (a b l rt rr q pt : Addr) (mss : List (List Int)) (p : List Int) (fi bg en : Nat),
  σ = [some (.ref a), some (.ref b), some (.ref rt), some (.ref rr), some (.int (p.length : Nat)), some (.int (fi : Nat)), some (.ref q), some (.int (bg : Nat)), some (.int (en : Nat)), some (.ref pt),
    none, none, none, none, none, none, none, none, none, none, none, none, none] ∧ Drawn C iM H b l rt q pt mss p bg en
theorem rul_upd {C D : Addr} {iM : Nat} {H : Hp} {r : Addr} {ms : List Int} {xs : List V} {o : HO} (h : RulAt C iM H r ms) (hD : H D = some (.lst xs)) : RulAt C iM (upd H D o) r ms := by
  obtain ⟨dx, t, vs, h1, h2, h3⟩ := h
  have keep : ∀ {c u}, H c = some u → u ≠ .lst xs → upd H D o c = some u := fun hc n => by
    rw [upd_ne (ne_of hc hD n)]
    exact hc
  refine ⟨dx, t, vs, ?_, h2, keep h3 (by intro z; cases z)⟩
  rcases h1 with ⟨a, c⟩ | ⟨a, c⟩
  · exact .inl ⟨keep a (by intro z; cases z), c⟩
  · exact .inr ⟨keep a (by intro z; unfold SlX.SlO at z; cases z), keep c (by intro z; cases z)⟩
theorem Step.ruls {C b l : Addr} {iM : Nat} {H H' : Hp} {rt : Addr} {mss : List (List Int)} (s : Step b l H H') (hb : BoxAt H b l) (h : RulsAt C iM H rt mss) : RulsAt C iM H' rt mss := by
  obtain ⟨rs, h1, h2⟩ := h
  exact ⟨rs, s.at hb h1 (fun xs z => by cases z), L2.Paired.mapP h2 fun _ _ z => s.rul hb z⟩
section
variable {P : Program} {w : World} {K : PySem.W.Frag} {mg : Str → Option Value} {base : Heap} {C D pM pE pP gP gL : Addr} {iM iE : Nat}
theorem part1 (Z : Defs P w K mg base C D pM pE pP gP gL iM iE) {f : Addr} {cdv : Value} {A : Around} {outer : List Env} {s : Shared} {H : Hp} {E : XK} (hr : Room 6 (AL f cdv A s)) {t2 : TS}
    (h2 : PSs (XL P w K mg base f cdv A outer s H E) ((defBody sLaw).drop 10) t2) :
    ∃ t, PSs (XL P w K mg base f cdv A outer s H E) (defBody sLaw) t ∧ ∀ (Dn : Ends) (a : Addr) (ns : List Int), SqL K H a (vI ns) → ns.length ≤ 63 → (∀ σ' H', Mid1 C iM σ' H' → t2 Dn σ' H') → t Dn (start LN [.ref a]) H := by
  obtain ⟨fMk, GMk, bMk⟩ := Z.rmk
  obtain ⟨fLn, GLn, bLn⟩ := Z.rlen
  have GP := GMk.raw bMk .nil
  have GL := GLn.raw bLn .nil
  obtain ⟨fB, fdB, GB, bB, gB, kB⟩ := Z.beg
  obtain ⟨fT, fdT, GT, bT, gT, kT⟩ := Z.take
  obtain ⟨fR, fdR, GR, bR, gR, kR⟩ := Z.rul
  obtain ⟨fM, fdM, GM, bM, gM, kM⟩ := Z.mov
  obtain ⟨fH, fdH, GH, bH, gH, kH⟩ := Z.has
  have B := Z.B
  have R := Z.R
  have hr5 : Room 5 (AL f cdv A s) := hr.mono (by decide)
  have hr4 : Room 4 (AL f cdv A s) := hr.mono (by decide)
  have hr2 : Room 2 (AL f cdv A s) := hr.mono (by decide)
  have hr1 : Room 1 (AL f cdv A s) := hr.mono (by decide)
  refine ⟨_, pss_cons (ps_set (i := 1) scLaw.nd rfl (Or.inr rfl) (pe_call GB hr1 (by rfl) gB kB bB .nil pass0 (pa_cons (pv 0) pa_nil)))
    (pss_cons (ps_set (i := 2) scLaw.nd rfl (Or.inl rfl) (pe_callTy call_tuple_of (by rfl) B.tuple (by decide +kernel) (pa_cons
      (pe_lc (own := [("_law_turn", 21)]) (g := gName 21) (tt := tYes) rfl scLaw.nd
        (pi_range1 (by rfl) B.range (pa_cons (pe_op op_add pe_int (pe_call GT hr1 (by rfl) gT kT bT .nil pass0 (pa_cons (pv 1) (pa_cons pe_int pa_nil)))) pa_nil))
        (blkOk_by (N := LN) (sc := defScope sLaw) (by decide +kernel))
        (fun _ _ _ _ _ => pg_name (i := 21) scLaw.nd rfl (Or.inl rfl)) (fun _ _ _ _ _ => pts_nil)
        (fun _ _ _ _ _ => pe_call GR hr4 (by rfl) gR kR bR .nil pass0 (pa_cons (pv 1) (pa_cons pe_int (pa_cons
          (pe_ix (r := rIxL K) ix_list (pe_lst (pa_cons pe_int (pa_cons pe_int pa_nil))) (pe_call GT hr1 (by rfl) gT kT bT .nil pass0 (pa_cons (pv 1) (pa_cons pe_int pa_nil))) (fun _ _ => rfl)) pa_nil))))) pa_nil)))
    (pss_cons (ps_set (i := 3) scLaw.nd rfl (Or.inl rfl) (pe_ix ix_tup (pv 2) (pe_call GT hr1 (by rfl) gT kT bT .nil pass0 (pa_cons (pv 1) (pa_cons (pe_callB call_len_seq (by rfl) B.len PySem.boot_len (pa_cons (pv 2) pa_nil)) pa_nil))) (fun _ _ => rfl)))
    (pss_cons (ps_set (i := 4) scLaw.nd rfl (Or.inl rfl) (pe_op op_add pe_int (pe_call GT hr1 (by rfl) gT kT bT .nil pass0 (pa_cons (pv 1) (pa_cons
      (pe_op op_sub (pe_callB (lenOwn R.lAt R.lFn GL hr2 pass0) (by rfl) B.len PySem.boot_len (pa_cons (pv 3) pa_nil)) pe_int) pa_nil)))))
    (pss_cons (ps_set (i := 5) scLaw.nd rfl (Or.inl rfl) (pe_call GT hr1 (by rfl) gT kT bT .nil pass0 (pa_cons (pv 1) (pa_cons
      (pe_op op_add (pe_op op_sub (pe_callB (lenOwn R.lAt R.lFn GL hr2 pass0) (by rfl) B.len PySem.boot_len (pa_cons (pv 3) pa_nil)) (pv 4)) pe_int) pa_nil))))
    (pss_cons (ps_set (i := 6) scLaw.nd rfl (Or.inl rfl) (pe_call GM hr1 (by rfl) gM kM bM .nil pass0 (pa_cons
      (pe_slice sl_tupA (SlX.pe_propSl (CX := CX0) (E := E0) (pv 3) R.cl R.pAt R.pGet R.pTk R.pRc GP hr2 (fun _ _ _ _ z => z)) (po_some (pv 5)) (po_some (pe_op op_add (pv 5) (pv 4)))) pa_nil)))
    (pss_cons (ps_set (i := 7) scLaw.nd rfl (Or.inl rfl) (pe_call GT hr1 (by rfl) gT kT bT .nil pass0 (pa_cons (pv 1) (pa_cons (pv 4) pa_nil))))
    (pss_cons (ps_set (i := 8) scLaw.nd rfl (Or.inl rfl) (pe_op op_add (pe_op op_add (pv 7) pe_int) (pe_call GT hr1 (by rfl) gT kT bT .nil pass0 (pa_cons (pv 1) (pa_cons (pe_op op_sub (pv 4) (pv 7)) pa_nil)))))
    (pss_cons (ps_set (i := 9) scLaw.nd rfl (Or.inl rfl) (pe_call GM hr1 (by rfl) gM kM bM .nil pass0 (pa_cons (pe_slice sl_tupA (pv 6) (po_some (pv 7)) (po_some (pv 8))) pa_nil)))
    (C8.pss_cut (ps_if (pt_not (pt_val (pe_call GH hr5 (by rfl) gH kH bH .nil pass0 (pa_cons (pv 2) (pa_cons (pv 6) (pa_cons (pv 7) (pa_cons (pv 8) pa_nil))))))) (pss_one (ps_ret pe_bl)) pss_nil) h2))))))))), fun Dn a ns hS hlen k => ?_⟩
  -- _law_box
  refine ⟨_, rfl, a, ns, rfl, hS, hlen, fun H1 b l s1 hB1 => ?_⟩
  -- _law_rulers
  refine ⟨_, rfl, b, l, 4, rfl, hB1, by decide, by decide, fun H2 r st2 hB2 r0 r4 => ?_⟩
  obtain ⟨t, t1, t4, et⟩ : ∃ t : Nat, 1 ≤ t ∧ t ≤ 4 ∧ (1 + r).toNat = t := ⟨(1 + r).toNat, by omega, by omega, rfl⟩
  refine ⟨_, _, rfl, rfl, _, rfl, by omega, by omega, fun L nL => ?_⟩
  rw [et]
  obtain ⟨⟨ob, hob⟩, ⟨ol, hol⟩⟩ := hB2.some
  have nLb : L ≠ b := (ne_of_none hob nL).symm
  have nLl : L ≠ l := (ne_of_none hol nL).symm
  refine lc_range (lo := 0) (n := t) (fun i H3 => ∃ rs mss, Step b l H2 H3 ∧ BoxAt H3 b l ∧ H3 L = some (.lst (refs rs)) ∧ Paired (RulAt C iM H3) rs mss ∧ mss.length = i ∧ ∀ ms ∈ mss, GoodM ms)
    ⟨[], [], (Step.refl b l H2).put nL _, hB2.same (same_new nL), upd_same, .nil, rfl, fun _ z => by cases z⟩ ?_ ?_
  · rintro i H3 hi ⟨rs, mss, st, hB3, hL3, hP, hml, hG⟩
    refine ⟨rfl, tyes ?_⟩
    refine ⟨_, rfl, (by show 2 ≤ sizeLine; decide), fun e ne => ?_⟩
    have s4 : Same H3 (upd H3 e (.lst [.int 9, .int 30])) := same_new ne
    have hB4 := hB3.same s4
    obtain ⟨⟨ob3, hob3⟩, ⟨ol3, hol3⟩⟩ := hB3.some
    have neb : e ≠ b := (ne_of_none hob3 ne).symm
    have nel : e ≠ l := (ne_of_none hol3 ne).symm
    refine ⟨_, rfl, b, l, 2, rfl, hB4, by decide, by decide, fun H5 r5 st5 hB5 r50 r52 => ?_⟩
    have he5 : H5 e = some (.lst [.int 9, .int 30]) := st5 _ _ upd_same neb nel
    obtain ⟨n, n9, n30, hat⟩ : ∃ n : Nat, 9 ≤ n ∧ n ≤ 30 ∧ atI [V.int 9, V.int 30] r5 = some (.int (n : Nat)) := by
      by_cases h0 : r5 = 0
      · subst h0
        exact ⟨9, by omega, by omega, rfl⟩
      · have h1 : r5 = 1 := by omega
        subst h1
        exact ⟨30, by omega, by omega, rfl⟩
    refine ⟨e, _, r5, .int (n : Nat), rfl, rfl, SqL.of he5, hat, ?_⟩
    refine ⟨b, l, n, rfl, hB5, n9, n30, fun H6 x ms st6 hB6 hR6 gm => ?_⟩
    have st36 : Step b l H3 H6 := ((Step.of s4).trans st5).trans st6
    have hL6 : H6 L = some (.lst (refs rs)) := st36 _ _ hL3 nLb nLl
    have lrs := Paired.length hP
    refine ⟨_, hL6, by rw [refs_len]; exact small1000 (by omega), ?_⟩
    rw [refs_snoc]
    refine ⟨rs ++ [x], mss ++ [ms], (st.trans st36).put nL _, ?_, upd_same, ?_, by rw [List.length_append, hml]; rfl, ?_⟩
    · obtain ⟨z, zs, q1, q2⟩ := hB6
      exact ⟨z, zs, by rw [upd_ne nLb.symm]; exact q1, by rw [upd_ne nLl.symm]; exact q2⟩
    · refine (L2.Paired.mapP hP fun c d hc => ?_).snoc (rul_upd hR6 hL6)
      exact rul_upd (st36.rul hB3 hc) hL6
    · intro m hm
      rcases List.mem_append.mp hm with z | z
      · exact hG m z
      · rw [List.mem_singleton.mp z]; exact gm
  · rintro H3 ⟨rs, mss, st, hB3, hL3, hP, hml, hG⟩
    have lrs := Paired.length hP
    refine ⟨L, _, rfl, .inl ⟨SqL.of hL3, fun rt nrt => ?_⟩⟩
    have s4 : Same H3 (upd H3 rt (.tup (refs rs))) := same_new nrt
    have hrt : (upd H3 rt (.tup (refs rs))) rt = some (.tup (refs rs)) := upd_same
    have hB4 := hB3.same s4
    have hR4 : RulsAt C iM (upd H3 rt (.tup (refs rs))) rt mss := ⟨rs, hrt, L2.Paired.mapP hP fun _ _ z => s4.rul z⟩
    generalize upd H3 rt (.tup (refs rs)) = H4 at s4 hrt hB4 hR4 ⊢
    -- _law_ruler_here
    refine ⟨_, rfl, _, rfl, _, rfl, rt, _, rfl, .inr (SqT.of hrt), b, l, _, rfl, hB4, by rw [refs_len]; omega, by rw [refs_len]; omega, fun H5 r5 st5 hB5 r50 r5l => ?_⟩
    rw [refs_len] at r5l
    obtain ⟨j, rfl⟩ : ∃ j : Nat, r5 = (j : Int) := ⟨r5.toNat, by omega⟩
    obtain ⟨ms, hms⟩ : ∃ ms, mss[j]? = some ms := ⟨mss[j]'(by omega), List.getElem?_eq_getElem _⟩
    have hR5 : RulsAt C iM H5 rt mss := st5.ruls hB4 hR4
    obtain ⟨rs5, hrt5, hP5⟩ := id hR5
    obtain ⟨rr, hrr, hRul5⟩ := get_snd hP5 hms
    have gm := hG ms (List.mem_of_getElem? hms)
    obtain ⟨len2, len8, _⟩ := id gm
    refine ⟨rt, _, _, _, rfl, rfl, SqT.of hrt5, atI_nat (j := j) (at_refs hrr), ?_⟩
    -- _law_size
    obtain ⟨dx5, tt5, vs5, hsl5, _, _⟩ := id hRul5
    refine ⟨_, rfl, _, rfl, rr, dx5, vs5, rfl, hsl5, rr, ms, rfl, hRul5, ms.length, rfl, by omega, _, _, rfl, rfl, b, l, _, rfl, hB5, by omega, by omega, fun H6 r6 st6 hB6 r60 r6l => ?_⟩
    obtain ⟨sz, hsz⟩ : ∃ sz : Nat, 2 + r6 = (sz : Int) := ⟨(2 + r6).toNat, by omega⟩
    refine addTo hsz ?_
    -- _law_first
    have hRul6 := st6.rul hB5 hRul5
    obtain ⟨dx6, tt6, vs6, hsl6, _, _⟩ := id hRul6
    refine ⟨_, rfl, _, rfl, rr, dx6, vs6, rfl, hsl6, rr, ms, rfl, hRul6, ms.length, rfl, by omega, _, rfl, _, _, rfl, rfl, _, _, rfl, rfl, b, l, _, rfl, hB6, by omega, by omega, fun H7 r7 st7 hB7 r70 r7l => ?_⟩
    obtain ⟨fi, rfl⟩ : ∃ fi : Nat, r7 = (fi : Int) := ⟨r7.toNat, by omega⟩
    -- _law_piece
    have hRul7 := st7.rul hB6 hRul6
    obtain ⟨dx7, tt7, vs7, hsl7, _, _⟩ := id hRul7
    have hfs : fi + sz ≤ ms.length := by omega
    refine ⟨_, rfl, rr, dx7, vs7, rfl, hsl7, rr, ms, rfl, hRul7, fun u hu => ?_⟩
    refine ⟨_, rfl, _, rfl, _, rfl, _, rfl, _, _, rfl, rfl, _, rfl, cut_of (SqT.of hu) fun H8 c s8 hc => ?_⟩
    rw [cut_seg (i := fi) (n := sz) hfs rfl (by omega)] at hc
    refine ⟨c, _, rfl, hc, by rw [seg_length _ _ _ hfs]; omega, by rw [seg_length _ _ _ hfs]; omega, fun H9 q s9 nq hq => ?_⟩
    have hB9 := hB7.same (s8.trans s9)
    have gp : GoodP (mv (seg ms fi sz)) := gm.piece (by omega) hfs
    have lp : (mv (seg ms fi sz)).length = sz := by rw [mv_length, seg_length _ _ _ hfs]
    have own : candsL mss (mv (seg ms fi sz)) ≠ [] := fun z => by
      have := own_cand hms hfs
      rw [z] at this
      cases this
    have own2 : ∀ bg en : Nat, bg < en → en ≤ sz → candsL mss (mv (seg (mv (seg ms fi sz)) bg (en - bg))) ≠ [] := fun bg en h1 h2 z => by
      have h3 := own_cand (r := j) (a := fi + bg) (n := en - bg) hms (by omega)
      rw [mv_seg_mv, seg_seg _ _ _ _ _ (by omega)] at z
      rw [z] at h3
      cases h3
    have st49 : Step b l H4 H9 := ((st5.trans st6).trans st7).trans (.of (s8.trans s9))
    have hR9 := st49.ruls hB4 hR4
    generalize mv (seg ms fi sz) = p at hq gp lp own own2 ⊢
    subst lp
    -- _law_begin
    refine ⟨_, rfl, _, rfl, b, l, _, rfl, hB9, by omega, by omega, fun H10 r10 st10 hB10 r100 r10l => ?_⟩
    obtain ⟨bg, rfl⟩ : ∃ bg : Nat, r10 = (bg : Int) := ⟨r10.toNat, by omega⟩
    -- _law_end
    refine ⟨_, rfl, _, _, rfl, rfl, _, rfl, _, rfl, _, rfl, _, _, rfl, rfl, b, l, _, rfl, hB10, by omega, by omega, fun H11 r11 st11 hB11 r110 r11l => ?_⟩
    obtain ⟨en, hen⟩ : ∃ en : Nat, ((bg : Nat) : Int) + 1 + r11 = (en : Int) := ⟨(((bg : Nat) : Int) + 1 + r11).toNat, by omega⟩
    refine addTo hen ?_
    -- _law_part
    have st911 := st10.trans st11
    have hq11 := st911.at hB9 hq fun xs z => by cases z
    have hbe : bg < en := by omega
    have hep : en ≤ p.length := by omega
    refine ⟨_, rfl, _, rfl, _, rfl, _, rfl, _, rfl, cut_of (SqT.of hq11) fun H12 c2 s12 hc2 => ?_⟩
    rw [cut_seg (i := bg) (n := en - bg) (by omega) rfl (by omega)] at hc2
    have sl := seg_length p bg (en - bg) (by omega)
    have plen8 := gp.2.1
    refine ⟨c2, _, rfl, hc2, by rw [sl]; omega, by rw [sl]; omega, fun H13 pt s13 npt hpt => ?_⟩
    have s1113 := s12.trans s13
    have hB13 := hB11.same s1113
    have hR13 := s1113.ruls (st911.ruls hB9 hR9)
    have hq13 := s1113 _ _ hq11
    -- if not _law_has_parts(..)
    refine ⟨Mid1 C iM, ?_, fun σ' H' z => k σ' H' z⟩
    refine ⟨_, rfl, _, rfl, _, rfl, _, rfl, rt, q, mss, p, bg, en, rfl, hR13, hG, SqT.of hq13, gp, hbe, hep, fun H14 s14 => ?_⟩
    refine ⟨true, rfl, iteF ?_⟩
    exact ⟨a, b, l, rt, rr, q, pt, mss, p, fi, bg, en, rfl, hB13.same s14, s14.ruls hR13, hG, by omega, by omega, s14 _ _ hq13, gp, hbe, hep, s14 _ _ hpt, gp.piece (by omega) (by omega), own, own2 bg en hbe hep⟩
end
end K84
namespace K84
open PySem PySem.Spec PyProof.Rows L2 K84R
/-- the heap without the box -/
def mask (b l : Addr) (H : Hp) : Hp := fun c => if c = b ∨ c = l then none else H c
theorem mask_step (b l : Addr) (H : Hp) : Step b l H (mask b l H) := fun c o h n1 n2 => by
  unfold mask
  rw [if_neg (fun z => z.elim n1 n2)]
  exact h
theorem mask_same {b l : Addr} {H H' : Hp} (s : Step b l H H') : Same (mask b l H) H' := fun c o h => by
  unfold mask at h
  split at h
  · cases h
  · rename_i n
    exact s c o h (fun z => n (.inl z)) (fun z => n (.inr z))
theorem mask_none {b l c : Addr} {H : Hp} (h : H c = none) : mask b l H c = none := by
  unfold mask
  split
  · rfl
  · exact h
theorem OrgAt.step {D b l o rt ll la : Addr} {H H' : Hp} {sz na : Nat} {left : List Pl} (h : OrgAt D H o rt ll la sz na left) (s : Step b l H H') (hB : BoxAt H b l) (n1 : ll ≠ b) (n2 : ll ≠ l) (n3 : la ≠ b) (n4 : la ≠ l) : OrgAt D H' o rt ll la sz na left := by
  obtain ⟨dx, as, acc, h1, h2, h3, h4, h5⟩ := h
  exact ⟨dx, as, acc, s.at hB h1 (fun xs z => by cases z), s _ _ h2 n1 n2, L2.Paired.mapP h3 fun _ _ z => s.at hB z (fun xs q => by cases q), s _ _ h4 n3 n4, h5⟩
/-- behind the choice of a true place: all that the seeing wants -/
structure Told (C : Addr) (iM : Nat) (D : Addr) (Hc H : Hp) (rt pt x1 l1 a1 x2 l2 a2 ca ml : Addr) (mss : List (List Int)) (p : List Int) (bg en : Nat) (c : Pl) (mk : List Int) : Prop where
  sm : Same Hc H
  ruls : RulsAt C iM Hc rt mss
  hpt : Hc pt = some (.tup (vI (mv (seg p bg (en - bg)))))
  good : ∀ ms ∈ mss, GoodM ms
  m4 : mss.length ≤ 4
  gp : GoodP p
  be : bg < en
  el : en ≤ p.length
  o1 : OrgAt D H x1 rt l1 a1 p.length 0 (candsL mss p)
  o2 : OrgAt D H x2 rt l2 a2 (en - bg) 0 (candsL mss (mv (seg p bg (en - bg))))
  f1 : Hc x1 = none
  f2 : Hc x2 = none
  f3 : Hc a1 = none
  f4 : Hc a2 = none
  n1 : x1 ≠ x2
  n2 : a1 ≠ a2
  n3 : l2 ≠ a1
  hc : PlT H ca c
  mem : c ∈ candsL mss p
  hml : H ml = some (.lst (vI mk))
  n4 : ml ≠ a1
  n5 : ml ≠ a2
  mkv : ∀ k, k < p.length → mk[k]? = some (numAt mss p.length c k)
  mkl : mk.length = p.length
def Mid2 (C : Addr) (iM : Nat) (D : Addr) (σ : L2.St) (H : Hp) : Prop := ∃ (a b rt rr q pt x1 l1 a1 x2 l2 a2 ca ml : Addr) (mss : List (List Int)) (p mk : List Int) (fi bg en : Nat) (c : Pl) (v12 v13 v14 : Option V) (Hc : Hp),
  σ = [some (.ref a), some (.ref b), some (.ref rt), some (.ref rr), some (.int (p.length : Nat)), some (.int (fi : Nat)), some (.ref q), some (.int (bg : Nat)), some (.int (en : Nat)), some (.ref pt),
    some (.ref x1), some (.ref x2), v12, v13, v14, some (.ref ca), some (.int (c.1 : Nat)), some (.int (c.2.1 : Nat)), some (.bl c.2.2), some (.ref ml), none, none, none] ∧ Told C iM D Hc H rt pt x1 l1 a1 x2 l2 a2 ca ml mss p bg en c mk
/-- the marks of a place in the piece's order -/
theorem marks_fwd {mss : List (List Int)} {ms : List Int} {n i sz k : Nat} (h : mss[n]? = some ms) (hi : i + sz ≤ ms.length) (hk : k < sz) : (seg ms i sz)[k]? = some (numAt mss sz (n, i, false) k) := by
  unfold numAt spotIx seg
  show ((ms.drop i).take sz)[k]? = some ((mss.getD n []).getD (i + (if false = true then sz - 1 - k else k)) 0)
  rw [if_neg Bool.false_ne_true, List.getElem?_take_of_lt hk, List.getElem?_drop, List.getD_eq_getElem?_getD, List.getD_eq_getElem?_getD, h]
  show ms[i + k]? = some ((ms[i + k]?).getD 0)
  rw [List.getElem?_eq_getElem (by omega)]
  rfl
theorem marks_bwd {mss : List (List Int)} {ms : List Int} {n i sz k : Nat} (h : mss[n]? = some ms) (hi : i + sz ≤ ms.length) (hk : k < sz) : (seg ms i sz).reverse[k]? = some (numAt mss sz (n, i, true) k) := by
  have hl := seg_length ms i sz hi
  rw [List.getElem?_reverse (by rw [hl]; exact hk), hl]
  have e := marks_fwd (k := sz - 1 - k) h hi (by omega)
  rw [e]
  unfold numAt spotIx
  show some ((mss.getD n []).getD (i + (if false = true then sz - 1 - (sz - 1 - k) else sz - 1 - k)) 0) = some ((mss.getD n []).getD (i + (if true = true then sz - 1 - k else k)) 0)
  rw [if_neg Bool.false_ne_true, if_pos rfl]
section
variable {P : Program} {w : World} {K : PySem.W.Frag} {mg : Str → Option Value} {base : Heap} {C D pM pE pP gP gL : Addr} {iM iE : Nat}
theorem part2 (Z : Defs P w K mg base C D pM pE pP gP gL iM iE) {f : Addr} {cdv : Value} {A : Around} {outer : List Env} {s : Shared} {H : Hp} {E : XK} (hr : Room 6 (AL f cdv A s)) {t3 : TS}
    (h3 : PSs (XL P w K mg base f cdv A outer s H E) ((defBody sLaw).drop 16) t3) :
    ∃ t, PSs (XL P w K mg base f cdv A outer s H E) ((defBody sLaw).drop 10) t ∧ ∀ (Dn : Ends) (σ : L2.St) (H1 : Hp), Mid1 C iM σ H1 → (∀ σ' H', Mid2 C iM D σ' H' → t3 Dn σ' H') → t Dn σ H1 := by
  obtain ⟨fMk, GMk, bMk⟩ := Z.rmk
  have GP := GMk.raw bMk .nil
  obtain ⟨fT, fdT, GT, bT, gT, kT⟩ := Z.take
  obtain ⟨fU, fdU, GU, bU, gU, kU⟩ := Z.tur
  obtain ⟨fO, fdO, MO, GO, bO, gO⟩ := Z.org
  obtain ⟨fN, fdN, GN, bN, mN⟩ := Z.num
  obtain ⟨pC, gC, fdC, GC, bC, hpC⟩ := Z.can
  have B := Z.B
  have R := Z.R
  have T := Z.T
  have hr4 : Room 4 (AL f cdv A s) := hr.mono (by decide)
  have hr2 : Room 2 (AL f cdv A s) := hr.mono (by decide)
  have hr1 : Room 1 (AL f cdv A s) := hr.mono (by decide)
  refine ⟨_, pss_cons (ps_par (i := 10) (j := 11) (by rfl) scLaw.nd rfl rfl (by decide) rfl rfl (pa_cons (pe_make MO GO hr (by rfl) gO bO .nil pass0 (pa_cons (pv 2) (pa_cons (pv 6) pa_nil)))
      (pa_cons (pe_make MO GO hr (by rfl) gO bO .nil pass0 (pa_cons (pv 2) (pa_cons (pv 9) pa_nil))) pa_nil)) (by rfl))
    (pss_cons (ps_for PassesOwn.never rfl (pi_range1 (by rfl) B.range (pa_cons (pe_op op_sub (pv 8) (pv 7)) pa_nil)) (pg_name (i := 12) scLaw.nd rfl (Or.inl rfl))
      (pss_cons (ps_set (i := 13) scLaw.nd rfl (Or.inr rfl) (pe_meth (pv 11) T.cl mN GN hr4 bN .nil pass0 (pa_cons (pv 12) pa_nil)))
      (pss_cons (ps_setLc (i := 14) (own := [("_law_one", 22)]) (g := gName 22) rfl scLaw.nd rfl rfl (sw_true rfl rfl rfl (by decide +kernel))
          (pi_list (pe_meth (pv 10) T.cl mN GN hr4 bN .nil pass0 (pa_cons (pe_op op_add (pv 7) (pv 12)) pa_nil)))
          (blkOk_by (N := LN) (sc := defScope sLaw) (by decide +kernel))
          (fun _ _ _ _ _ => pg_name (i := 22) scLaw.nd rfl (Or.inl rfl))
          (fun _ _ _ _ _ => pts_one (pt_cmpR (r := rIn K true) op_notIn_seq (pv 22) (pv 13) (by rfl))) (fun _ _ _ _ _ => pv 22))
      (pss_one (ps_if (PW.pt (pw_and (pt_cmpR (op_neD hr.units) (pv 9) (pe_call GU hr1 (by rfl) gU kU bU .nil pass0 (pa_cons (pv 9) pa_nil)) (nomark _))
        (pw_and1 (pt_cmpR (op_neD hr.units) (pv 14) (pe_lst pa_nil) (nomark _))))) (pss_one (ps_ret pe_bl)) pss_nil)))))
    (pss_cons (ps_set (i := 15) scLaw.nd rfl (Or.inl rfl) (pe_ix ix_tup (pe_prop (pv 10) T.cl hpC GC hr2 bC .nil pass0 (by rfl)) (pe_call GT hr1 (by rfl) gT kT bT .nil pass0 (pa_cons (pv 1) (pa_cons
        (pe_callB call_len_seq (by rfl) B.len PySem.boot_len (pa_cons (pe_prop (pv 10) T.cl hpC GC hr2 bC .nil pass0 (by rfl)) pa_nil)) pa_nil))) (fun _ _ => rfl)))
    (pss_cons (ps_asg (pv 15) (pg_tup rfl (pgs_cons (pg_name (i := 16) scLaw.nd rfl (Or.inl rfl)) (pgs_cons (pg_name (i := 17) scLaw.nd rfl (Or.inl rfl)) (pgs_cons (pg_name (i := 18) scLaw.nd rfl (Or.inl rfl)) pgs_nil)))))
    (pss_cons (ps_set (i := 19) scLaw.nd rfl (Or.inl rfl) (pe_callTy call_list_of (by rfl) B.list (by decide +kernel) (pa_cons
      (pe_slice sl_tupA (SlX.pe_propSl (CX := CX0) (E := E0) (pe_ix ix_tup (pv 2) (pv 16) (fun _ _ => rfl)) R.cl R.pAt R.pGet R.pTk R.pRc GP hr2 (fun _ _ _ _ z => z)) (po_some (pv 17)) (po_some (pe_op op_add (pv 17) (pv 4)))) pa_nil)))
    (C8.pss_cut (ps_set (i := 19) scLaw.nd rfl (Or.inl rfl) (pe_ifExp (pt_val (pv 18)) (pe_revL (pv 19)) (pv 19))) h3))))), fun Dn σ H0 hM k => ?_⟩
  obtain ⟨a, b, l, rt, rr, q, pt, mss, p, fi, bg, en, rfl, hB, hR, hG, m1, m4, hq, gp, hbe, hep, hpt, gq, c1, c2⟩ := hM
  have plen8 := gp.2.1
  have sl : (mv (seg p bg (en - bg))).length = en - bg := by rw [mv_length, seg_length _ _ _ (by omega)]
  obtain ⟨⟨ob, hob⟩, ⟨ol, hol⟩⟩ := hB.some
  -- _law_all_of, _law_some_of
  refine ⟨_, rfl, _, rfl, fun x1 dx1 nx1 ndx1 nex1 => ?_⟩
  have sN1 : Same H0 (upd (upd H0 dx1 (.own x1)) x1 (.ins D dx1 [])) := fun c o hc => by
    rw [upd_ne (ne_of_none hc nx1), upd_ne (ne_of_none hc ndx1)]
    exact hc
  refine ⟨H0, x1, rt, q, dx1, mss, p, rfl, sN1, nx1, upd_same, hR, hG, m1, m4, SqT.of hq, gp, c1, fun H1 l1 a1 s1 nl1 na1 hO1 => ⟨rfl, ?_⟩⟩
  refine ⟨_, rfl, _, rfl, fun x2 dx2 nx2 ndx2 nex2 => ?_⟩
  have sN2 : Same H1 (upd (upd H1 dx2 (.own x2)) x2 (.ins D dx2 [])) := fun c o hc => by
    rw [upd_ne (ne_of_none hc nx2), upd_ne (ne_of_none hc ndx2)]
    exact hc
  refine ⟨H1, x2, rt, pt, dx2, mss, _, rfl, sN2, nx2, upd_same, s1.ruls hR, hG, m1, m4, SqT.of (s1 _ _ hpt), gq, c2, fun H2 l2 a2 s2 nl2 na2 hO2 => ⟨rfl, ?_⟩⟩
  rw [sl] at hO2
  have s02 : Same H0 H2 := s1.trans s2
  have hO12 := s2.org hO1
  obtain ⟨dy1, as1, acc1, i1, i2, i3, i4, i5⟩ := id hO1
  have n12 : x1 ≠ x2 := ne_of_none i1 nx2
  have na12 : a1 ≠ a2 := ne_of_none i4 na2
  have nl2a1 : l2 ≠ a1 := (ne_of_none i4 nl2).symm
  have fx2 : H0 x2 = none := s1.free nx2
  have fa2 : H0 a2 = none := s1.free na2
  have fl2 : H0 l2 = none := s1.free nl2
  have on1 : ∀ d ∈ candsL mss p, OnR mss p.length d := fun d hd => cand_on hd
  have on2 : ∀ d ∈ candsL mss (mv (seg p bg (en - bg))), OnR mss (en - bg) d := fun d hd => by
    have := cand_on hd
    rw [sl] at this
    exact this
  have g8 : ∀ ms ∈ mss, ms.length ≤ 8 := fun ms hm => (hG ms hm).2.1
  have len1 : (candsL mss p).length ≤ 32 := cands_len gp.1 g8 m4
  have len2 : (candsL mss (mv (seg p bg (en - bg)))).length ≤ 32 := cands_len gq.1 g8 m4
  have noN : ∀ (sz : Nat) (ll la : Addr), (oF rt sz ll la).lookup ("numbers" : Str) = none := fun sz ll la => oF_no _ _ _ _ (by decide +kernel) (by decide +kernel) (by decide +kernel) (by decide +kernel)
  refine ⟨_, _, rfl, ?_⟩
  -- for _law_index in range(_law_end - _law_begin)
  refine ⟨_, rfl, _, rfl, _, _, rfl, rfl, _, rfl, by omega, by omega, ?_⟩
  rw [show (((en : Nat) : Int) - ((bg : Nat) : Int)).toNat = en - bg by omega]
  refine for_range (lo := 0) (n := en - bg) (fun i σ H3 => ∃ v12 v13 v14, σ = [some (.ref a), some (.ref b), some (.ref rt), some (.ref rr), some (.int (p.length : Nat)), some (.int (fi : Nat)), some (.ref q), some (.int (bg : Nat)), some (.int (en : Nat)), some (.ref pt),
    some (.ref x1), some (.ref x2), v12, v13, v14, none, none, none, none, none, none, none, none] ∧ Same H2 H3) ⟨none, none, none, rfl, Same.refl H2⟩ ?_ ?_
  · rintro i σ H3 hi ⟨v12, v13, v14, rfl, sm⟩
    rw [Int.zero_add]
    have hO23 := sm.org hO2
    have hO13 := sm.org hO12
    have hR3 := (s02.trans sm).ruls hR
    obtain ⟨dz2, bs2, cc2, j1, _⟩ := id hO23
    refine ⟨_, rfl, x2, dz2, _, rfl, j1, noN _ _ _, _, rfl, x2, rt, l2, a2, en - bg, 0, _, i, mss, rfl, hO23, hR3, on2, hi, len2, fun H4 kn ns4 s4 hkn hmem4 _ => ?_⟩
    have hO14 := s4.org hO13
    obtain ⟨dz1, bs1, cc1, j2, _⟩ := id hO14
    refine ⟨_, rfl, x1, dz1, _, rfl, j2, noN _ _ _, _, rfl, _, rfl, _, _, rfl, rfl, x1, rt, l1, a1, p.length, 0, _, bg + i, mss, rfl, hO14, s4.ruls hR3, on1, by omega, len1, fun H5 al ns5 s5 hal hmem5 hlen5 => ?_⟩
    have hkn5 := s5 _ _ hkn
    refine ⟨al, rfl, ⟨_, SqL.of hal⟩, fun L nL => ?_⟩
    refine lc_list (K := K) (a := al) (xs := vI ns5) (fun j H6 => Same H5 H6 ∧ H6 L = some (.lst (vI ((ns5.take j).filter fun k => !decide (k ∈ ns4))))) ⟨same_new nL, upd_same⟩ (fun j H6 _ z => Same.seq z.1 (SqL.of hal)) ?_ ?_
    · rintro j y H6 hy ⟨sm6, hL⟩
      obtain ⟨kk, hk, rfl⟩ := vI_at hy
      have hj : j < ns5.length := (List.getElem?_eq_some_iff.mp hk).1
      refine ⟨rfl, ?_⟩
      refine ⟨_, rfl, _, rfl, kn, _, rfl, .inl (SqL.of (sm6 _ _ hkn5)), rfl, flat_vI _, _, rfl, ?_⟩
      have grow : (ns5.take (j + 1)).filter (fun k => !decide (k ∈ ns4)) = (ns5.take j).filter (fun k => !decide (k ∈ ns4)) ++ [kk].filter (fun k => !decide (k ∈ ns4)) := by
        rw [take_snoc hk, List.filter_append]
      by_cases hin : kk ∈ ns4
      · refine ifN (by rw [if_pos rfl, inV_iff, decide_eq_true hin]; rfl) ?_
        refine ⟨sm6, ?_⟩
        rw [grow, List.filter_cons_of_neg (by rw [decide_eq_true hin]; decide), List.filter_nil, List.append_nil]
        exact hL
      · refine ifY (by rw [if_pos rfl, inV_iff, decide_eq_false hin]; rfl) ?_
        refine ⟨_, rfl, _, hL, ?_, sm6.put nL _, ?_⟩
        · rw [vI_len]
          have q1 := List.length_filter_le (fun k => !decide (k ∈ ns4)) (ns5.take j)
          rw [List.length_take] at q1
          exact small1000 (by omega)
        · rw [upd_same, vI_snoc, grow, List.filter_cons_of_pos (by rw [decide_eq_false hin]; decide), List.filter_nil]
    · rintro H6 ⟨sm6, hL⟩
      rw [vI_len, List.take_of_length_le (Nat.le_refl _)] at hL
      have sm26 : Same H2 H6 := sm.trans (s4.trans (s5.trans sm6))
      have hpt6 := (s02.trans sm26) _ _ hpt
      refine ⟨_, rfl, _, rfl, pt, _, rfl, SqT.of hpt6, by rw [sl]; omega, by rw [sl]; omega, fun H7 tt s7 ntt htt => ?_⟩
      refine ⟨_, _, .tup (SqT.of (s7 _ _ hpt6)) (dpInts K _ _), .tup (SqT.of htt) (dpInts K _ _), shaped_tup _, shaped_tup _, _, rfl, ?_⟩
      rw [eqv_tup]
      by_cases hsym : mv (seg p bg (en - bg)) = mir (mv (seg p bg (en - bg)))
      · refine ifN (by rw [decide_eq_true hsym]; rfl) ?_
        refine ifN rfl ?_
        exact ⟨_, _, _, rfl, sm26.trans s7⟩
      · refine ifY (by rw [decide_eq_false hsym]; rfl) ?_
        have odd : ns5.filter (fun k => !decide (k ∈ ns4)) = [] := by
          refine List.filter_eq_nil_iff.mpr fun k hk => ?_
          obtain ⟨d, hd, ed⟩ := (hmem5 k).mp hk
          have hd2 := part_cand hbe hep hsym hd
          have e2 : numAt mss (en - bg) (partPl p.length bg en d) i = k := by rw [part_num hbe hep hi]; exact ed
          have : k ∈ ns4 := (hmem4 k).mpr ⟨_, hd2, e2⟩
          rw [decide_eq_true this]
          decide
        rw [odd] at hL
        refine ⟨_, rfl, Nat.zero_le _, fun e ne => ?_⟩
        have s8 : Same H7 (upd H7 e (.lst [])) := same_new ne
        refine ⟨_, _, .lst (SqL.of (s8 _ _ (s7 _ _ hL))) (dpInts K _ []), .lst (ds := ([] : List Int).map PyData.int) (SqL.of upd_same) .nil, shaped_lst [], shaped_lst [], _, rfl, ?_⟩
        refine ifN (by rw [eqv_lst]; rfl) ?_
        exact ⟨_, _, _, rfl, sm26.trans (s7.trans s8)⟩
  · rintro σ H3 ⟨v12, v13, v14, rfl, sm⟩
    have s03 := s02.trans sm
    have hO13 := sm.org hO12
    have hO23 := sm.org hO2
    -- _law_true
    obtain ⟨dz1, bs1, cc1, j2, _⟩ := id hO13
    refine ⟨_, rfl, x1, dz1, _, rfl, j2, x1, rt, l1, a1, p.length, 0, _, rfl, hO13, fun H4 t as4 s4 ht has4 => ?_⟩
    refine ⟨_, rfl, _, rfl, x1, dz1, _, rfl, s4 _ _ j2, x1, rt, l1, a1, p.length, 0, _, rfl, s4.org hO13, fun H5 t2 as5 s5 ht2 has5 => ?_⟩
    have lenC := Paired.length has5
    have pos : 1 ≤ (candsL mss p).length := by
      cases e : candsL mss p with
      | nil => exact absurd e c1
      | cons d r => exact Nat.succ_pos _
    have s05 := s03.trans (s4.trans s5)
    have hB5 := hB.same s05
    refine ⟨t2, _, rfl, .inr (SqT.of ht2), b, l, _, rfl, hB5, by rw [refs_len]; omega, by rw [refs_len]; omega, fun H6 r st hB6 r0 rl => ?_⟩
    rw [refs_len] at rl
    obtain ⟨j, rfl⟩ : ∃ j : Nat, r = (j : Int) := ⟨r.toNat, by omega⟩
    obtain ⟨c, hcj⟩ : ∃ c, (candsL mss p)[j]? = some c := ⟨(candsL mss p)[j]'(by omega), List.getElem?_eq_getElem _⟩
    obtain ⟨ca, hca, hpl⟩ := get_snd has4 hcj
    have mem : c ∈ candsL mss p := List.mem_of_getElem? hcj
    have ht6 := st.at hB5 (s5 _ _ ht) fun xs z => by cases z
    have hpl6 : PlT H6 ca c := st.at hB5 (s5 _ _ hpl) fun xs z => by cases z
    refine ⟨t, _, _, _, rfl, rfl, SqT.of ht6, atI_nat (j := j) (at_refs hca), ?_⟩
    -- _law_number, _law_place, _law_turned_here
    have hpl6' : H6 ca = some (.tup [.int (c.1 : Nat), .int (c.2.1 : Nat), .bl c.2.2]) := hpl6
    refine ⟨_, rfl, ca, _, rfl, SqT.of hpl6', rfl, _, _, rfl, _, _, rfl, _, _, rfl, rfl, ?_⟩
    -- _law_marks_here
    have st06 : Step b l H0 H6 := (Step.of s05).trans st
    have hR6 := st06.ruls hB hR
    obtain ⟨ms, hms, hon⟩ := on1 c mem
    obtain ⟨rs6, hrt6, hP6⟩ := id hR6
    obtain ⟨r6, hr6, hRul6⟩ := get_snd hP6 hms
    obtain ⟨dx6, tt6, vs6, hsl6, _, _⟩ := id hRul6
    have ms8 := g8 ms (List.mem_of_getElem? hms)
    refine ⟨_, rfl, _, rfl, rt, _, _, _, rfl, rfl, SqT.of hrt6, atI_nat (j := c.1) (at_refs hr6), r6, dx6, vs6, rfl, hsl6, r6, ms, rfl, hRul6, fun u hu => ?_⟩
    refine ⟨_, rfl, _, rfl, _, rfl, _, rfl, _, _, rfl, rfl, _, rfl, cut_of (SqT.of hu) fun H7 g s7 hg => ?_⟩
    rw [cut_seg (i := c.2.1) (n := p.length) hon rfl (by omega)] at hg
    refine ⟨g, _, rfl, .inr hg, fun ml nml => ?_⟩
    have s8 : Same H7 (upd H7 ml (.lst (vI (seg ms c.2.1 p.length)))) := same_new nml
    have hml8 : (upd H7 ml (.lst (vI (seg ms c.2.1 p.length)))) ml = some (.lst (vI (seg ms c.2.1 p.length))) := upd_same
    have s68 := s7.trans s8
    -- what is known of all of it
    have nlb : l1 ≠ b := (ne_of_none hob nl1).symm
    have nll : l1 ≠ l := (ne_of_none hol nl1).symm
    have nab : a1 ≠ b := (ne_of_none hob na1).symm
    have nal : a1 ≠ l := (ne_of_none hol na1).symm
    have nlb2 : l2 ≠ b := (ne_of_none hob fl2).symm
    have nll2 : l2 ≠ l := (ne_of_none hol fl2).symm
    have nab2 : a2 ≠ b := (ne_of_none hob fa2).symm
    have nal2 : a2 ≠ l := (ne_of_none hol fa2).symm
    have hO16 := ((s4.trans s5).org hO13).step st hB5 nlb nll nab nal
    have hO26 := ((s4.trans s5).org hO23).step st hB5 nlb2 nll2 nab2 nal2
    obtain ⟨_, _, _, _, _, _, k14, _⟩ := id hO16
    obtain ⟨_, _, _, _, _, _, k24, _⟩ := id hO26
    have nma1 : ml ≠ a1 := (ne_of_none (s7 _ _ k14) nml).symm
    have nma2 : ml ≠ a2 := (ne_of_none (s7 _ _ k24) nml).symm
    have told : ∀ (H9 : Hp) (mm : Addr) (mk : List Int), Same H6 H9 → H9 mm = some (.lst (vI mk)) → mm ≠ a1 → mm ≠ a2 → (∀ k, k < p.length → mk[k]? = some (numAt mss p.length c k)) → mk.length = p.length →
        Told C iM D (mask b l H0) H9 rt pt x1 l1 a1 x2 l2 a2 ca mm mss p bg en c mk := fun H9 mm mk s9 hm q1 q2 q3 q4 =>
      { sm := mask_same (st06.trans (.of s9)), ruls := (mask_step b l H0).ruls hB hR, hpt := (mask_step b l H0).at hB hpt (fun xs z => by cases z), good := hG, m4 := m4, gp := gp, be := hbe, el := hep, o1 := s9.org hO16, o2 := s9.org hO26,
        f1 := mask_none nx1, f2 := mask_none fx2, f3 := mask_none na1, f4 := mask_none fa2, n1 := n12, n2 := na12, n3 := nl2a1, hc := s9 _ _ hpl6, mem := mem, hml := hm, n4 := q1, n5 := q2, mkv := q3, mkl := q4 }
    refine ⟨Mid2 C iM D, ?_, fun σ' H' z => k σ' H' z⟩
    have lseg : (seg ms c.2.1 p.length).length = p.length := seg_length _ _ _ hon
    refine ⟨_, rfl, c.2.2, rfl, ?_⟩
    obtain ⟨cn, ci, ct⟩ := c
    cases ct with
    | true =>
      refine iteT ⟨_, rfl, ml, _, rfl, SqL.of hml8, fun m2 nm2 => ?_⟩
      have s9 := s68.trans (same_new (o := .lst (vI (seg ms ci p.length)).reverse) nm2)
      have erev : (vI (seg ms ci p.length)).reverse = vI (seg ms ci p.length).reverse := by
        unfold vI
        rw [List.map_reverse]
      refine ⟨a, b, rt, rr, q, pt, x1, l1, a1, x2, l2, a2, ca, m2, mss, p, (seg ms ci p.length).reverse, fi, bg, en, (cn, ci, true), _, _, _, mask b l H0, rfl, told _ m2 _ s9 ?_ ?_ ?_ (fun k hk => marks_bwd hms hon hk) (by rw [List.length_reverse]; exact lseg)⟩
      · rw [upd_same, erev]
      · exact (ne_of_none (s68 _ _ k14) nm2).symm
      · exact (ne_of_none (s68 _ _ k24) nm2).symm
    | false =>
      refine iteF ⟨_, rfl, ?_⟩
      exact ⟨a, b, rt, rr, q, pt, x1, l1, a1, x2, l2, a2, ca, ml, mss, p, seg ms ci p.length, fi, bg, en, (cn, ci, false), _, _, _, mask b l H0, rfl, told _ ml _ s68 hml8 nma1 nma2 (fun k hk => marks_fwd hms hon hk) lseg⟩
end
end K84
namespace K84
open PySem PySem.Spec PyProof.Rows L2 K84R
/-- all but the instance at x and the list at y stays -/
theorem OrgAt.frame {D : Addr} {H H' : Hp} {x y dx' D' : Addr} {fs : List (Str × V)} {xs : List V} (hx : H x = some (.ins D' dx' fs)) (hy : H y = some (.lst xs)) (fr : ∀ c u, H c = some u → c ≠ x → c ≠ y → H' c = some u)
    {o rt ll la : Addr} {sz na : Nat} {left : List Pl} (h : OrgAt D H o rt ll la sz na left) (n1 : o ≠ x) (n2 : ll ≠ y) (n3 : la ≠ y) : OrgAt D H' o rt ll la sz na left := by
  obtain ⟨dx, as, acc, h1, h2, h3, h4, h5⟩ := h
  refine ⟨dx, as, acc, fr _ _ h1 n1 (ne_of h1 hy (by intro z; cases z)), fr _ _ h2 (ne_of h2 hx (by intro z; cases z)) n2, L2.Paired.mapP h3 fun b d hd => ?_, fr _ _ h4 (ne_of h4 hx (by intro z; cases z)) n3, h5⟩
  exact fr _ _ hd (ne_of hd hx (by intro z; cases z)) (ne_of hd hy (by intro z; cases z))
theorem same_frame {Hc H H' : Hp} {x y : Addr} (sm : Same Hc H) (fr : ∀ c u, H c = some u → c ≠ x → c ≠ y → H' c = some u) (nx : Hc x = none) (ny : Hc y = none) : Same Hc H' := fun c u h =>
  fr c u (sm c u h) (ne_of_none h nx) (ne_of_none h ny)
theorem any_pl {c : Pl} {left : List Pl} (h : c ∈ left) : ((left.map plD).any fun z => PyData.eqv z (plD c)) = true := by
  rw [List.any_eq_true]
  exact ⟨plD c, List.mem_map.mpr ⟨c, h, rfl⟩, by rw [eqv_pl, decide_eq_true rfl]⟩
theorem in_yes {K : PySem.W.Frag} {x y : V} {H : Hp} {Q : VK} {c : Pl} {left : List Pl} (hx : Dp K H x (plD c)) (hy : Dp K H y (.tuple (left.map plD))) (h : c ∈ left) (q : Q (.bl true) H) : wInT K false x y H Q := by
  refine ⟨plD c, left.map plD, hx, hy, shaped_pl c, shaped_tpl left, ?_⟩
  rw [if_neg Bool.false_ne_true, any_pl h]
  exact q
theorem notIn_no {K : PySem.W.Frag} {x y : V} {H : Hp} {Q : VK} {c : Pl} {left : List Pl} (hx : Dp K H x (plD c)) (hy : Dp K H y (.tuple (left.map plD))) (h : c ∈ left) (q : Q (.bl false) H) : wInT K true x y H Q := by
  refine ⟨plD c, left.map plD, hx, hy, shaped_pl c, shaped_tpl left, ?_⟩
  rw [if_pos rfl, any_pl h]
  exact q
theorem mem_seen {mss : List (List Int)} {sz ix : Nat} {left : List Pl} {c : Pl} {num : Int} (h : c ∈ left) (e : numAt mss sz c ix = num) : c ∈ seen mss sz ix num left := List.mem_filter.mpr ⟨h, decide_eq_true e⟩
theorem seen_sub {mss : List (List Int)} {sz ix : Nat} {left : List Pl} {num : Int} {d : Pl} (h : d ∈ seen mss sz ix num left) : d ∈ left := (List.mem_filter.mp h).1
theorem seen_len (mss : List (List Int)) (sz ix : Nat) (left : List Pl) (num : Int) : (seen mss sz ix num left).length ≤ left.length := List.length_filter_le _ _
section
variable {P : Program} {w : World} {K : PySem.W.Frag} {mg : Str → Option Value} {base : Heap} {C D pM pE pP gP gL : Addr} {iM iE : Nat}
theorem part3 (Z : Defs P w K mg base C D pM pE pP gP gL iM iE) {f : Addr} {cdv : Value} {A : Around} {outer : List Env} {s : Shared} {H : Hp} {E : XK} (hr : Room 6 (AL f cdv A s)) :
    ∃ t, PSs (XL P w K mg base f cdv A outer s H E) ((defBody sLaw).drop 16) t ∧ ∀ (Dn : Ends) (σ : L2.St) (H1 : Hp), Mid2 C iM D σ H1 → (∀ H', Dn.rt (.bl true) H') → t Dn σ H1 := by
  obtain ⟨fU, fdU, GU, bU, gU, kU⟩ := Z.tur
  obtain ⟨fS, fdS, GS, bS, mS⟩ := Z.see
  obtain ⟨pC, gC, fdC, GC, bC, hpC⟩ := Z.can
  have B := Z.B
  have T := Z.T
  have hr5 : Room 5 (AL f cdv A s) := hr.mono (by decide)
  have hr2 : Room 2 (AL f cdv A s) := hr.mono (by decide)
  have hr1 : Room 1 (AL f cdv A s) := hr.mono (by decide)
  have room : (AL f cdv A s).units + 65 < cLine := by
    have := hr.un
    omega
  refine ⟨_, pss_cons (ps_for PassesOwn.never rfl (pi_range1 (by rfl) B.range (pa_cons (pv 4) pa_nil)) (pg_name (i := 12) scLaw.nd rfl (Or.inl rfl))
      (pss_one (ps_expr (pe_meth (pv 10) T.cl mS GS hr5 bS .nil pass0 (pa_cons (pv 12) (pa_cons (pe_ix ix_list (pv 19) (pv 12) (fun _ _ => rfl)) pa_nil))))))
    (pss_cons (ps_if (pt_cmpR (notInT room) (pv 15) (pe_prop (pv 10) T.cl hpC GC hr2 bC .nil pass0 (by rfl)) (by rfl)) (pss_one (ps_ret pe_bl)) pss_nil)
    (pss_cons (ps_if (pt_cmpR (op_neD hr.units) (pv 9) (pe_call GU hr1 (by rfl) gU kU bU .nil pass0 (pa_cons (pv 9) pa_nil)) (nomark _))
        (pss_cons (ps_for PassesOwn.never rfl (pi_range1 (by rfl) B.range (pa_cons (pe_op op_sub (pv 8) (pv 7)) pa_nil)) (pg_name (i := 12) scLaw.nd rfl (Or.inl rfl))
          (pss_one (ps_expr (pe_meth (pv 11) T.cl mS GS hr5 bS .nil pass0 (pa_cons (pv 12) (pa_cons (pe_ix ix_list (pv 19) (pe_op op_add (pv 7) (pv 12)) (fun _ _ => rfl)) pa_nil))))))
        (pss_cons (ps_set (i := 20) scLaw.nd rfl (Or.inl rfl) (pe_tup (pa_cons (pv 16) (pa_cons (pe_op op_add (pv 17) (pe_ifExp (pt_val (pv 18)) (pe_op op_sub (pv 4) (pv 8)) (pv 7))) (pa_cons (pv 18) pa_nil)))))
        (pss_one (ps_ret (pe_cmpR (inT room) (pv 20) (pe_prop (pv 11) T.cl hpC GC hr2 bC .nil pass0 (by rfl)) (by rfl)))))) pss_nil)
    (pss_one (ps_ret (pe_cmpR op_gt (pe_callB call_len_seq (by rfl) B.len PySem.boot_len (pa_cons (pe_prop (pv 11) T.cl hpC GC hr2 bC .nil pass0 (by rfl)) pa_nil)) pe_int (nomark _)))))), fun Dn σ H0 hM k => ?_⟩
  obtain ⟨a, b, rt, rr, q, pt, x1, l1, a1, x2, l2, a2, ca, ml, mss, p, mk, fi, bg, en, c, v12, v13, v14, Hc, rfl, Y⟩ := hM
  have plen := Y.gp.1
  have plen8 := Y.gp.2.1
  have hbe := Y.be
  have hep := Y.el
  have sl : (mv (seg p bg (en - bg))).length = en - bg := by rw [mv_length, seg_length _ _ _ (by omega)]
  have g8 : ∀ ms ∈ mss, ms.length ≤ 8 := fun ms hm => (Y.good ms hm).2.1
  have on1 : ∀ d ∈ candsL mss p, OnR mss p.length d := fun d hd => cand_on hd
  have on2 : ∀ d ∈ candsL mss (mv (seg p bg (en - bg))), OnR mss (en - bg) d := fun d hd => by
    have := cand_on hd
    rw [sl] at this
    exact this
  have len1 : (candsL mss p).length ≤ 32 := cands_len plen g8 Y.m4
  have len2 : (candsL mss (mv (seg p bg (en - bg)))).length ≤ 32 := cands_len (by rw [sl]; omega) g8 Y.m4
  have noS : ∀ (sz : Nat) (ll la : Addr), (oF rt sz ll la).lookup ("see" : Str) = none := fun sz ll la => oF_no _ _ _ _ (by decide +kernel) (by decide +kernel) (by decide +kernel) (by decide +kernel)
  -- for _law_index in range(_law_size): see
  refine ⟨_, rfl, _, rfl, by omega, by omega, ?_⟩
  rw [Int.toNat_natCast]
  refine for_range (lo := 0) (n := p.length) (fun i σ H3 => ∃ v12 ll left, σ = [some (.ref a), some (.ref b), some (.ref rt), some (.ref rr), some (.int (p.length : Nat)), some (.int (fi : Nat)), some (.ref q), some (.int (bg : Nat)), some (.int (en : Nat)), some (.ref pt),
    some (.ref x1), some (.ref x2), v12, v13, v14, some (.ref ca), some (.int (c.1 : Nat)), some (.int (c.2.1 : Nat)), some (.bl c.2.2), some (.ref ml), none, none, none] ∧ Same Hc H3 ∧ OrgAt D H3 x1 rt ll a1 p.length i left ∧ c ∈ left ∧
      (∀ d ∈ left, d ∈ candsL mss p) ∧ left.length ≤ 32 ∧ OrgAt D H3 x2 rt l2 a2 (en - bg) 0 (candsL mss (mv (seg p bg (en - bg)))) ∧ PlT H3 ca c ∧ H3 ml = some (.lst (vI mk)))
    ⟨_, l1, _, rfl, Y.sm, Y.o1, Y.mem, fun _ z => z, len1, Y.o2, Y.hc, Y.hml⟩ ?_ ?_
  · rintro i σ H3 hi ⟨v12, ll, left, rfl, sm, hO, hmem, hsub, hlen, hO2, hca, hml⟩
    rw [Int.zero_add]
    obtain ⟨dz, as, acc, j1, j2, j3, j4, j5⟩ := id hO
    have seenM := mem_seen (mss := mss) (sz := p.length) (ix := i) hmem rfl
    refine ⟨_, rfl, x1, dz, _, rfl, j1, noS _ _ _, _, rfl, _, rfl, _, rfl, ml, _, _, _, rfl, rfl, SqL.of hml, atI_nat (j := i) (at_vI (Y.mkv i hi)), x1, rt, ll, a1, p.length, i, left, i, _, mss, rfl, hO, sm.ruls Y.ruls,
      fun d hd => on1 d (hsub d hd), hi, hlen, by omega, (fun z => by rw [z] at seenM; cases seenM), fun H4 n l' hO4 fr => ?_⟩
    refine ⟨_, l', _, rfl, same_frame sm fr Y.f1 Y.f3, hO4, seenM, fun d hd => hsub d (seen_sub hd), Nat.le_trans (seen_len _ _ _ _ _) hlen, hO2.frame j1 j4 fr (Ne.symm Y.n1) Y.n3 (Ne.symm Y.n2), ?_, ?_⟩
    · exact fr _ _ hca (ne_of hca j1 (by intro z; cases z)) (ne_of hca j4 (by intro z; cases z))
    · exact fr _ _ hml (ne_of hml j1 (by intro z; cases z)) Y.n4
  · rintro σ H3 ⟨v12, ll, left, rfl, sm, hO, hmem, hsub, hlen, hO2, hca, hml⟩
    obtain ⟨dz, as, acc, j1, j2, j3, j4, j5⟩ := id hO
    -- if _law_true not in _law_all_of.candidates
    refine ⟨_, rfl, _, rfl, x1, dz, _, rfl, j1, x1, rt, ll, a1, p.length, _, left, rfl, hO, fun H4 t as4 s4 ht has => ?_⟩
    refine notIn_no (dpPl K (s4 _ _ hca)) (.tup (SqT.of ht) (dpPls K has)) hmem ⟨_, rfl, iteF ?_⟩
    -- if _law_part != _law_turned(_law_part)
    have sm4 := sm.trans s4
    have hpt4 := sm4 _ _ Y.hpt
    refine ⟨_, rfl, _, rfl, pt, _, rfl, SqT.of hpt4, by rw [sl]; omega, by rw [sl]; omega, fun H5 tt s5 ntt htt => ?_⟩
    refine ⟨_, _, .tup (SqT.of (s5 _ _ hpt4)) (dpInts K _ _), .tup (SqT.of htt) (dpInts K _ _), shaped_tup _, shaped_tup _, _, rfl, ?_⟩
    rw [eqv_tup]
    have sm5 := sm4.trans s5
    have hO25 := (s4.trans s5).org hO2
    have hml5 := (s4.trans s5) _ _ hml
    by_cases hsym : mv (seg p bg (en - bg)) = mir (mv (seg p bg (en - bg)))
    · refine ifN (by rw [decide_eq_true hsym]; rfl) ?_
      obtain ⟨dw, bs, bcc, w1, _⟩ := id hO25
      refine ⟨_, rfl, x2, dw, _, rfl, w1, x2, rt, l2, a2, en - bg, 0, _, rfl, hO25, fun H6 t6 as6 s6 ht6 has6 => ?_⟩
      refine ⟨t6, _, rfl, .inr (SqT.of ht6), _, _, rfl, rfl, ?_⟩
      have pos : 1 ≤ as6.length := by
        rw [Paired.length has6]
        obtain ⟨ms, hms, hsp⟩ := mem_cands.mp Y.mem
        obtain ⟨t', h1, _⟩ := part_spot hbe hep hsp
        have h2 : (c.1, c.2.1 + (if c.2.2 = true then p.length - en else bg), t') ∈ candsL mss (mv (seg p bg (en - bg))) := mem_cands.mpr ⟨ms, hms, h1⟩
        exact List.length_pos_of_mem h2
      have ed : decide ((0 : Int) < ((refs as6).length : Nat)) = true := by
        rw [refs_len]; exact decide_eq_true (by omega)
      show Dn.rt (.bl (decide ((0 : Int) < ((refs as6).length : Nat)))) H6
      rw [ed]
      exact k _
    · refine ifY (by rw [decide_eq_false hsym]; rfl) ?_
      have mem' := part_cand hbe hep hsym Y.mem
      -- for _law_index in range(..): see on the part
      refine ⟨_, rfl, _, rfl, _, _, rfl, rfl, _, rfl, by omega, by omega, ?_⟩
      rw [show (((en : Nat) : Int) - ((bg : Nat) : Int)).toNat = en - bg by omega]
      refine for_range (lo := 0) (n := en - bg) (fun i σ H3 => ∃ v12 ll left, σ = [some (.ref a), some (.ref b), some (.ref rt), some (.ref rr), some (.int (p.length : Nat)), some (.int (fi : Nat)), some (.ref q), some (.int (bg : Nat)), some (.int (en : Nat)), some (.ref pt),
        some (.ref x1), some (.ref x2), v12, v13, v14, some (.ref ca), some (.int (c.1 : Nat)), some (.int (c.2.1 : Nat)), some (.bl c.2.2), some (.ref ml), none, none, none] ∧ Same Hc H3 ∧ OrgAt D H3 x2 rt ll a2 (en - bg) i left ∧ partPl p.length bg en c ∈ left ∧
          (∀ d ∈ left, d ∈ candsL mss (mv (seg p bg (en - bg)))) ∧ left.length ≤ 32 ∧ H3 ml = some (.lst (vI mk)))
        ⟨_, l2, _, rfl, sm5, hO25, mem', fun _ z => z, len2, hml5⟩ ?_ ?_
      · rintro i σ H6 hi ⟨v12, ll, left, rfl, sm, hO, hmem, hsub, hlen, hml⟩
        rw [Int.zero_add]
        obtain ⟨dz, as, acc, j1, j2, j3, j4, j5⟩ := id hO
        have en' : numAt mss (en - bg) (partPl p.length bg en c) i = numAt mss p.length c (bg + i) := part_num hbe hep hi
        have seenM := mem_seen (mss := mss) (sz := en - bg) (ix := i) hmem en'
        refine ⟨_, rfl, x2, dz, _, rfl, j1, noS _ _ _, _, rfl, _, rfl, _, rfl, _, rfl, _, _, rfl, rfl, ml, _, _, _, rfl, rfl, SqL.of hml, at_of (j := bg + i) (by omega) (at_vI (Y.mkv (bg + i) (by omega))), x2, rt, ll, a2, en - bg, i, left, i, _, mss, rfl, hO, sm.ruls Y.ruls,
          fun d hd => on2 d (hsub d hd), hi, hlen, by omega, (fun z => by rw [z] at seenM; cases seenM), fun H7 n l' hO7 fr => ?_⟩
        refine ⟨_, l', _, rfl, same_frame sm fr Y.f2 Y.f4, hO7, seenM, fun d hd => hsub d (seen_sub hd), Nat.le_trans (seen_len _ _ _ _ _) hlen, ?_⟩
        exact fr _ _ hml (ne_of hml j1 (by intro z; cases z)) Y.n5
      · rintro σ H6 ⟨v12, ll, left, rfl, sm, hO, hmem, hsub, hlen, hml⟩
        obtain ⟨dz, as, acc, j1, j2, j3, j4, j5⟩ := id hO
        obtain ⟨cn, ci, ct⟩ := c
        -- _law_here
        refine ⟨_, rfl, _, rfl, _, rfl, ct, rfl, ?_⟩
        cases ct with
        | true =>
          refine iteT ⟨_, rfl, _, rfl, _, _, rfl, rfl, addTo (z := ((ci + (if true = true then p.length - en else bg) : Nat) : Int)) (by rw [if_pos rfl]; show ((ci : Nat) : Int) + (((p.length : Nat) : Int) - ((en : Nat) : Int)) = _; omega) ?_⟩
          refine ⟨_, rfl, (by show 3 ≤ sizeLine; decide), fun h nh => ?_⟩
          have s7 := same_new (H := H6) (o := .tup [.int ((cn : Nat) : Int), .int ((ci + (if true = true then p.length - en else bg) : Nat) : Int), .bl true]) nh
          refine ⟨_, rfl, _, rfl, x2, dz, _, rfl, s7 _ _ j1, x2, rt, ll, a2, en - bg, _, left, rfl, s7.org hO, fun H8 t8 as8 s8 ht8 has8 => ?_⟩
          exact in_yes (dpPl K (c := partPl p.length bg en (cn, ci, true)) (s8 _ _ upd_same)) (.tup (SqT.of ht8) (dpPls K has8)) hmem (k _)
        | false =>
          refine iteF ⟨_, rfl, addTo (z := ((ci + (if false = true then p.length - en else bg) : Nat) : Int)) (by rw [if_neg Bool.false_ne_true]; show ((ci : Nat) : Int) + ((bg : Nat) : Int) = _; omega) ?_⟩
          refine ⟨_, rfl, (by show 3 ≤ sizeLine; decide), fun h nh => ?_⟩
          have s7 := same_new (H := H6) (o := .tup [.int ((cn : Nat) : Int), .int ((ci + (if false = true then p.length - en else bg) : Nat) : Int), .bl false]) nh
          refine ⟨_, rfl, _, rfl, x2, dz, _, rfl, s7 _ _ j1, x2, rt, ll, a2, en - bg, _, left, rfl, s7.org hO, fun H8 t8 as8 s8 ht8 has8 => ?_⟩
          exact in_yes (dpPl K (c := partPl p.length bg en (cn, ci, false)) (s8 _ _ upd_same)) (.tup (SqT.of ht8) (dpPls K has8)) hmem (k _)
/-! ### the law -/
def spLaw (K : PySem.W.Frag) : Sp := fun vs H Q _ => ∃ (a : Addr) (ns : List Int), vs = [.ref a] ∧ SqL K H a (vI ns) ∧ ns.length ≤ 63 ∧ ∀ H', Q (.bl true) H'
theorem ok_law (Z : Defs P w K mg base C D pM pE pP gP gL iM iE) {f : Addr} {fd : FuncData} (F : Fun K "law" "law" sLaw f fd) : FnOk P w K mg base CX0 7 f fd ["_law_script"] (spLaw K) := by
  refine F.ok scLaw (fun vs H Q E h => ?_) (fun cdv A outer s H vs Q E hr h => ?_)
  · obtain ⟨a, ns, rfl, _⟩ := h
    rfl
  · obtain ⟨a, ns, rfl, hS, hlen, k⟩ := h
    obtain ⟨t3, h3, r3⟩ := part3 Z (f := f) (cdv := cdv) (A := A) (outer := outer) (s := s) (H := H) (E := E) hr
    obtain ⟨t2, h2, r2⟩ := part2 Z hr h3
    obtain ⟨t1, h1, r1⟩ := part1 Z hr h2
    refine ⟨t1, h1, r1 _ a ns hS hlen fun σ' H' m1 => r2 _ _ _ m1 fun σ'' H'' m2 => r3 _ _ _ m2 k⟩
end
end K84
namespace K84
open PySem PySem.Spec PyProof.Rows L2 K84R
/-! ### what the top has left -/
theorem all_mk {l : PySem.W.OpenLaw} {w : World} {K : PySem.W.Frag} {h : Heap} {mg : Str → Option Value} {fa C D pP pQ pM pE fNum fMir fMov fVal fOn fSp fBeg fTake fMarks fRul fTur fLMov fHas fLaw fRIni fRLen fRMk fOIni fOVal fOAt fOTell fOSee fONum fOCan : Addr} {iM iE : Nat} {rest1 rest2 : List Value} (X : K.In h) (G : h.Ns mainGlobals mg) (hfa : mg "law" = some (.ref fa))
    {odNum anNum odMir anMir odMov anMov odVal anVal odOn anOn odSp anSp odBeg anBeg odTake anTake odMarks anMarks odRul anRul odTur anTur odLMov anLMov odHas anHas odLaw anLaw odRIni anRIni odRLen anRLen odRMk anRMk odOIni anOIni odOVal anOVal odOAt anOAt odOTell anOTell odOSee anOSee odONum anONum odOCan anOCan : Option Addr} {slNum slMir slMov slVal slOn slSp slBeg slTake slMarks slRul slTur slLMov slHas slLaw slRIni slRLen slRMk slOIni slOVal slOAt slOTell slOSee slONum slOCan : Array (Option Value)} {ocNum kVNum dcNum pmNum cdNum ctNum ocMir kVMir dcMir pmMir cdMir ctMir ocMov kVMov dcMov pmMov cdMov ctMov ocVal kVVal dcVal pmVal cdVal ctVal ocOn kVOn dcOn pmOn cdOn ctOn ocSp kVSp dcSp pmSp cdSp ctSp ocBeg kVBeg dcBeg pmBeg cdBeg ctBeg ocTake kVTake dcTake pmTake cdTake ctTake ocMarks kVMarks dcMarks pmMarks cdMarks ctMarks ocRul kVRul dcRul pmRul cdRul ctRul ocTur kVTur dcTur pmTur cdTur ctTur ocLMov kVLMov dcLMov pmLMov cdLMov ctLMov ocHas kVHas dcHas pmHas cdHas ctHas ocLaw kVLaw dcLaw pmLaw cdLaw ctLaw ocRIni kVRIni dcRIni pmRIni cdRIni ctRIni ocRLen kVRLen dcRLen pmRLen cdRLen ctRLen ocRMk kVRMk dcRMk pmRMk cdRMk ctRMk ocOIni kVOIni dcOIni pmOIni cdOIni ctOIni ocOVal kVOVal dcOVal pmOVal cdOVal ctOVal ocOAt kVOAt dcOAt pmOAt cdOAt ctOAt ocOTell kVOTell dcOTell pmOTell cdOTell ctOTell ocOSee kVOSee dcOSee pmOSee cdOSee ctOSee ocONum kVONum dcONum pmONum cdONum ctONum ocOCan kVOCan dcOCan pmOCan cdOCan ctOCan : Value}
    {tminM tmaxM tmaxL tmaxE tmaxO tsee : Tok}
    (aC : PySem.W.nsIn K mainGlobals "Ruler" = some (some (.ref C)))
    (aD : PySem.W.nsIn K mainGlobals "Origin" = some (some (.ref D)))
    (pAt : PySem.W.findIn K (.ref C) "marks" = some (some (.ref pP)))
    (pGet : PySem.W.specialIn K (.ref pP) "__get__" = some (some (.builtin "property.__get__")))
    (pTk : PySem.W.takesIn K (.ref pP) = some true)
    (pRc : PySem.W.recIn K pP "property" = some (.ref fRMk :: rest1))
    (qAt : PySem.W.findIn K (.ref D) "candidates" = some (some (.ref pQ)))
    (qGet : PySem.W.specialIn K (.ref pQ) "__get__" = some (some (.builtin "property.__get__")))
    (qTk : PySem.W.takesIn K (.ref pQ) = some true)
    (qRc : PySem.W.recIn K pQ "property" = some (.ref fOCan :: rest2))
    (aNum : PySem.W.nsIn K mainGlobals "is_number" = some (some (.ref fNum)))
    (lNum : K.lookup fNum = some ⟨ocNum, odNum, .func (PySem.W.fnOf "is_number" "is_number" (defArgs sNum) (defBody sNum) (defScope sNum) .none kVNum dcNum pmNum anNum cdNum ctNum), slNum⟩)
    (cNum : PySem.W.codeIn K cdNum "is_number" = true)
    (kNum : PySem.W.keepIn K (.ref fNum) = true)
    (aMir : PySem.W.nsIn K mainGlobals "mirrored" = some (some (.ref fMir)))
    (lMir : K.lookup fMir = some ⟨ocMir, odMir, .func (PySem.W.fnOf "mirrored" "mirrored" (defArgs sMir) (defBody sMir) (defScope sMir) .none kVMir dcMir pmMir anMir cdMir ctMir), slMir⟩)
    (cMir : PySem.W.codeIn K cdMir "mirrored" = true)
    (kMir : PySem.W.keepIn K (.ref fMir) = true)
    (aMov : PySem.W.nsIn K mainGlobals "moved" = some (some (.ref fMov)))
    (lMov : K.lookup fMov = some ⟨ocMov, odMov, .func (PySem.W.fnOf "moved" "moved" (defArgs sMov) (defBody sMov) (defScope sMov) .none kVMov dcMov pmMov anMov cdMov ctMov), slMov⟩)
    (cMov : PySem.W.codeIn K cdMov "moved" = true)
    (kMov : PySem.W.keepIn K (.ref fMov) = true)
    (aVal : PySem.W.nsIn K mainGlobals "validate_piece" = some (some (.ref fVal)))
    (lVal : K.lookup fVal = some ⟨ocVal, odVal, .func (PySem.W.fnOf "validate_piece" "validate_piece" (defArgs sVal) (defBody sVal) (defScope sVal) .none kVVal dcVal pmVal anVal cdVal ctVal), slVal⟩)
    (cVal : PySem.W.codeIn K cdVal "validate_piece" = true)
    (kVal : PySem.W.keepIn K (.ref fVal) = true)
    (aOn : PySem.W.nsIn K mainGlobals "spots_on" = some (some (.ref fOn)))
    (lOn : K.lookup fOn = some ⟨ocOn, odOn, .func (PySem.W.fnOf "spots_on" "spots_on" (defArgs sOn) (defBody sOn) (defScope sOn) .none kVOn dcOn pmOn anOn cdOn ctOn), slOn⟩)
    (cOn : PySem.W.codeIn K cdOn "spots_on" = true)
    (kOn : PySem.W.keepIn K (.ref fOn) = true)
    (aSp : PySem.W.nsIn K mainGlobals "spots" = some (some (.ref fSp)))
    (lSp : K.lookup fSp = some ⟨ocSp, odSp, .func (PySem.W.fnOf "spots" "spots" (defArgs sSp) (defBody sSp) (defScope sSp) .none kVSp dcSp pmSp anSp cdSp ctSp), slSp⟩)
    (cSp : PySem.W.codeIn K cdSp "spots" = true)
    (kSp : PySem.W.keepIn K (.ref fSp) = true)
    (aBeg : PySem.W.nsIn K mainGlobals "_law_begun" = some (some (.ref fBeg)))
    (lBeg : K.lookup fBeg = some ⟨ocBeg, odBeg, .func (PySem.W.fnOf "_law_begun" "_law_begun" (defArgs sBeg) (defBody sBeg) (defScope sBeg) .none kVBeg dcBeg pmBeg anBeg cdBeg ctBeg), slBeg⟩)
    (cBeg : PySem.W.codeIn K cdBeg "_law_begun" = true)
    (kBeg : PySem.W.keepIn K (.ref fBeg) = true)
    (aTake : PySem.W.nsIn K mainGlobals "_law_take" = some (some (.ref fTake)))
    (lTake : K.lookup fTake = some ⟨ocTake, odTake, .func (PySem.W.fnOf "_law_take" "_law_take" (defArgs sTake) (defBody sTake) (defScope sTake) .none kVTake dcTake pmTake anTake cdTake ctTake), slTake⟩)
    (cTake : PySem.W.codeIn K cdTake "_law_take" = true)
    (kTake : PySem.W.keepIn K (.ref fTake) = true)
    (aMarks : PySem.W.nsIn K mainGlobals "_law_marks" = some (some (.ref fMarks)))
    (lMarks : K.lookup fMarks = some ⟨ocMarks, odMarks, .func (PySem.W.fnOf "_law_marks" "_law_marks" (defArgs sMarks) (defBody sMarks) (defScope sMarks) .none kVMarks dcMarks pmMarks anMarks cdMarks ctMarks), slMarks⟩)
    (cMarks : PySem.W.codeIn K cdMarks "_law_marks" = true)
    (kMarks : PySem.W.keepIn K (.ref fMarks) = true)
    (aRul : PySem.W.nsIn K mainGlobals "_law_ruler" = some (some (.ref fRul)))
    (lRul : K.lookup fRul = some ⟨ocRul, odRul, .func (PySem.W.fnOf "_law_ruler" "_law_ruler" (defArgs sRul) (defBody sRul) (defScope sRul) .none kVRul dcRul pmRul anRul cdRul ctRul), slRul⟩)
    (cRul : PySem.W.codeIn K cdRul "_law_ruler" = true)
    (kRul : PySem.W.keepIn K (.ref fRul) = true)
    (aTur : PySem.W.nsIn K mainGlobals "_law_turned" = some (some (.ref fTur)))
    (lTur : K.lookup fTur = some ⟨ocTur, odTur, .func (PySem.W.fnOf "_law_turned" "_law_turned" (defArgs sTur) (defBody sTur) (defScope sTur) .none kVTur dcTur pmTur anTur cdTur ctTur), slTur⟩)
    (cTur : PySem.W.codeIn K cdTur "_law_turned" = true)
    (kTur : PySem.W.keepIn K (.ref fTur) = true)
    (aLMov : PySem.W.nsIn K mainGlobals "_law_moved" = some (some (.ref fLMov)))
    (lLMov : K.lookup fLMov = some ⟨ocLMov, odLMov, .func (PySem.W.fnOf "_law_moved" "_law_moved" (defArgs sLMov) (defBody sLMov) (defScope sLMov) .none kVLMov dcLMov pmLMov anLMov cdLMov ctLMov), slLMov⟩)
    (cLMov : PySem.W.codeIn K cdLMov "_law_moved" = true)
    (kLMov : PySem.W.keepIn K (.ref fLMov) = true)
    (aHas : PySem.W.nsIn K mainGlobals "_law_has_parts" = some (some (.ref fHas)))
    (lHas : K.lookup fHas = some ⟨ocHas, odHas, .func (PySem.W.fnOf "_law_has_parts" "_law_has_parts" (defArgs sHas) (defBody sHas) (defScope sHas) .none kVHas dcHas pmHas anHas cdHas ctHas), slHas⟩)
    (cHas : PySem.W.codeIn K cdHas "_law_has_parts" = true)
    (kHas : PySem.W.keepIn K (.ref fHas) = true)
    (aLaw : PySem.W.nsIn K mainGlobals "law" = some (some (.ref fLaw)))
    (lLaw : K.lookup fLaw = some ⟨ocLaw, odLaw, .func (PySem.W.fnOf "law" "law" (defArgs sLaw) (defBody sLaw) (defScope sLaw) .none kVLaw dcLaw pmLaw anLaw cdLaw ctLaw), slLaw⟩)
    (cLaw : PySem.W.codeIn K cdLaw "law" = true)
    (kLaw : PySem.W.keepIn K (.ref fLaw) = true)
    (aRIni : PySem.W.findIn K (.ref C) "__init__" = some (some (.ref fRIni)))
    (iRIni : PySem.W.isFn K (.ref fRIni) = true)
    (lRIni : K.lookup fRIni = some ⟨ocRIni, odRIni, .func (PySem.W.fnOf "__init__" "Ruler.__init__" (defArgs sRIni) (defBody sRIni) (defScope sRIni) .none kVRIni dcRIni pmRIni anRIni cdRIni ctRIni), slRIni⟩)
    (cRIni : PySem.W.codeIn K cdRIni "Ruler.__init__" = true)
    (kRIni : PySem.W.keepIn K (.ref fRIni) = true)
    (aRLen : PySem.W.findIn K (.ref C) "__len__" = some (some (.ref fRLen)))
    (iRLen : PySem.W.isFn K (.ref fRLen) = true)
    (lRLen : K.lookup fRLen = some ⟨ocRLen, odRLen, .func (PySem.W.fnOf "__len__" "Ruler.__len__" (defArgs sRLen) (defBody sRLen) (defScope sRLen) .none kVRLen dcRLen pmRLen anRLen cdRLen ctRLen), slRLen⟩)
    (cRLen : PySem.W.codeIn K cdRLen "Ruler.__len__" = true)
    (kRLen : PySem.W.keepIn K (.ref fRLen) = true)
    (lRMk : K.lookup fRMk = some ⟨ocRMk, odRMk, .func (PySem.W.fnOf "marks" "Ruler.marks" (defArgs sRMk) (defBody sRMk) (defScope sRMk) .none kVRMk dcRMk pmRMk anRMk cdRMk ctRMk), slRMk⟩)
    (cRMk : PySem.W.codeIn K cdRMk "Ruler.marks" = true)
    (kRMk : PySem.W.keepIn K (.ref fRMk) = true)
    (aOIni : PySem.W.findIn K (.ref D) "__init__" = some (some (.ref fOIni)))
    (iOIni : PySem.W.isFn K (.ref fOIni) = true)
    (lOIni : K.lookup fOIni = some ⟨ocOIni, odOIni, .func (PySem.W.fnOf "__init__" "Origin.__init__" (defArgs sOIni) (defBody sOIni) (defScope sOIni) .none kVOIni dcOIni pmOIni anOIni cdOIni ctOIni), slOIni⟩)
    (cOIni : PySem.W.codeIn K cdOIni "Origin.__init__" = true)
    (kOIni : PySem.W.keepIn K (.ref fOIni) = true)
    (aOVal : PySem.W.findIn K (.ref D) "validate_index" = some (some (.ref fOVal)))
    (iOVal : PySem.W.isFn K (.ref fOVal) = true)
    (lOVal : K.lookup fOVal = some ⟨ocOVal, odOVal, .func (PySem.W.fnOf "validate_index" "Origin.validate_index" (defArgs sOVal) (defBody sOVal) (defScope sOVal) .none kVOVal dcOVal pmOVal anOVal cdOVal ctOVal), slOVal⟩)
    (cOVal : PySem.W.codeIn K cdOVal "Origin.validate_index" = true)
    (kOVal : PySem.W.keepIn K (.ref fOVal) = true)
    (aOAt : PySem.W.findIn K (.ref D) "number_at" = some (some (.ref fOAt)))
    (iOAt : PySem.W.isFn K (.ref fOAt) = true)
    (lOAt : K.lookup fOAt = some ⟨ocOAt, odOAt, .func (PySem.W.fnOf "number_at" "Origin.number_at" (defArgs sOAt) (defBody sOAt) (defScope sOAt) .none kVOAt dcOAt pmOAt anOAt cdOAt ctOAt), slOAt⟩)
    (cOAt : PySem.W.codeIn K cdOAt "Origin.number_at" = true)
    (kOAt : PySem.W.keepIn K (.ref fOAt) = true)
    (aOTell : PySem.W.findIn K (.ref D) "tell" = some (some (.ref fOTell)))
    (iOTell : PySem.W.isFn K (.ref fOTell) = true)
    (lOTell : K.lookup fOTell = some ⟨ocOTell, odOTell, .func (PySem.W.fnOf "tell" "Origin.tell" (defArgs sOTell) (defBody sOTell) (defScope sOTell) .none kVOTell dcOTell pmOTell anOTell cdOTell ctOTell), slOTell⟩)
    (cOTell : PySem.W.codeIn K cdOTell "Origin.tell" = true)
    (kOTell : PySem.W.keepIn K (.ref fOTell) = true)
    (aOSee : PySem.W.findIn K (.ref D) "see" = some (some (.ref fOSee)))
    (iOSee : PySem.W.isFn K (.ref fOSee) = true)
    (lOSee : K.lookup fOSee = some ⟨ocOSee, odOSee, .func (PySem.W.fnOf "see" "Origin.see" (defArgs sOSee) (defBody sOSee) (defScope sOSee) .none kVOSee dcOSee pmOSee anOSee cdOSee ctOSee), slOSee⟩)
    (cOSee : PySem.W.codeIn K cdOSee "Origin.see" = true)
    (kOSee : PySem.W.keepIn K (.ref fOSee) = true)
    (aONum : PySem.W.findIn K (.ref D) "numbers" = some (some (.ref fONum)))
    (iONum : PySem.W.isFn K (.ref fONum) = true)
    (lONum : K.lookup fONum = some ⟨ocONum, odONum, .func (PySem.W.fnOf "numbers" "Origin.numbers" (defArgs sONum) (defBody sONum) (defScope sONum) .none kVONum dcONum pmONum anONum cdONum ctONum), slONum⟩)
    (cONum : PySem.W.codeIn K cdONum "Origin.numbers" = true)
    (kONum : PySem.W.keepIn K (.ref fONum) = true)
    (lOCan : K.lookup fOCan = some ⟨ocOCan, odOCan, .func (PySem.W.fnOf "candidates" "Origin.candidates" (defArgs sOCan) (defBody sOCan) (defScope sOCan) .none kVOCan dcOCan pmOCan anOCan cdOCan ctOCan), slOCan⟩)
    (cOCan : PySem.W.codeIn K cdOCan "Origin.candidates" = true)
    (kOCan : PySem.W.keepIn K (.ref fOCan) = true)
    (pgC : PySem.W.plainGet K C Str.empty = true)
    (poC : PySem.W.plainOver K C = true)
    (saC : PySem.W.findIn K (.ref C) "__setattr__" = some (some (.builtin "object.__setattr__")))
    (mkC : PySem.W.makesIn K C = true)
    (kcC : PySem.W.keepIn K (.ref C) = true)
    (pgD : PySem.W.plainGet K D Str.empty = true)
    (poD : PySem.W.plainOver K D = true)
    (saD : PySem.W.findIn K (.ref D) "__setattr__" = some (some (.builtin "object.__setattr__")))
    (mkD : PySem.W.makesIn K D = true)
    (kcD : PySem.W.keepIn K (.ref D) = true)
    (icC : PySem.W.isClsIn K C = true)
    (hdD : PySem.W.hasDictIn K D = true)
    (sM1 : PySem.W.findIn K (.ref C) "own_marks" = some (some (.ref pM)))
    (sM2 : PySem.W.specialIn K (.ref pM) "__get__" = some (some (.builtin "member_descriptor.__get__")))
    (sM3 : PySem.W.takesIn K (.ref pM) = some true)
    (sM4 : PySem.W.typeIn K (.ref pM) = some (.type "member_descriptor"))
    (sM5 : PySem.W.slotIn K pM C = some iM)
    (sE1 : PySem.W.findIn K (.ref C) "own_error" = some (some (.ref pE)))
    (sE2 : PySem.W.specialIn K (.ref pE) "__get__" = some (some (.builtin "member_descriptor.__get__")))
    (sE3 : PySem.W.takesIn K (.ref pE) = some true)
    (sE4 : PySem.W.typeIn K (.ref pE) = some (.type "member_descriptor"))
    (sE5 : PySem.W.slotIn K pE C = some iE)
    (nA : PySem.W.findIn K (.ref D) "all_rulers" = some none)
    (nS : PySem.W.findIn K (.ref D) "size" = some none)
    (nL : PySem.W.findIn K (.ref D) "left" = some none)
    (nX : PySem.W.findIn K (.ref D) "accepted" = some none)
    (zint : PySem.W.nsIn K mainGlobals "int" = some none)
    (zbool : PySem.W.nsIn K mainGlobals "bool" = some none)
    (zisi : PySem.W.nsIn K mainGlobals "isinstance" = some none)
    (zlist : PySem.W.nsIn K mainGlobals "list" = some none)
    (ztuple : PySem.W.nsIn K mainGlobals "tuple" = some none)
    (zrev : PySem.W.nsIn K mainGlobals "reversed" = some none)
    (zenum : PySem.W.nsIn K mainGlobals "enumerate" = some none)
    (zrange : PySem.W.nsIn K mainGlobals "range" = some none)
    (zlen : PySem.W.nsIn K mainGlobals "len" = some none)
    (zsorted : PySem.W.nsIn K mainGlobals "sorted" = some none)
    (zset : PySem.W.nsIn K mainGlobals "set" = some none)
    (vminM : PySem.W.nsIn K mainGlobals "MIN_MARKS" = some (some (.int 2 tminM)))
    (vmaxM : PySem.W.nsIn K mainGlobals "MAX_MARKS" = some (some (.int 12 tmaxM)))
    (vmaxL : PySem.W.nsIn K mainGlobals "MAX_LENGTH" = some (some (.int 300 tmaxL)))
    (vmaxE : PySem.W.nsIn K mainGlobals "MAX_ERROR" = some (some (.int 9 tmaxE)))
    (vmaxO : PySem.W.nsIn K mainGlobals "MAX_ORIGINS" = some (some (.int 6 tmaxO)))
    (vsee : PySem.W.nsIn K mainGlobals "SEE" = some (some (.str "see" tsee)))
    (sx1 : iM ≠ iE)
    (sx2 : iM < 1000)
    (sx3 : iE < 1000)
    : ∃ fd : FuncData, (∀ (s : Shared) (v : Value), BindsTo s fd ⟨[v], []⟩ [("_law_script", v)]) ∧ ∀ base : Heap, K.In base → base.Ns mainGlobals mg → FnOk l.prog w K mg base CX0 7 fa fd ["_law_script"] (spLaw K) := by
  have e := hfa.symm.trans (PySem.W.mg_of X G aLaw)
  cases e
  have B : Bl mg := ⟨PySem.W.mg_none_of X G zint, PySem.W.mg_none_of X G zbool, PySem.W.mg_none_of X G zisi, PySem.W.mg_none_of X G zlist, PySem.W.mg_none_of X G ztuple, PySem.W.mg_none_of X G zrev, PySem.W.mg_none_of X G zenum, PySem.W.mg_none_of X G zrange, PySem.W.mg_none_of X G zlen, PySem.W.mg_none_of X G zsorted, PySem.W.mg_none_of X G zset⟩
  have Cn : Consts mg := ⟨⟨_, PySem.W.mg_of X G vminM⟩, ⟨_, PySem.W.mg_of X G vmaxM⟩, ⟨_, PySem.W.mg_of X G vmaxL⟩, ⟨_, PySem.W.mg_of X G vmaxE⟩, ⟨_, PySem.W.mg_of X G vmaxO⟩, ⟨_, PySem.W.mg_of X G vsee⟩⟩
  have R : RTxt K C pM pE pP fRMk fRLen iM iE := ⟨⟨pgC, icC, poC, saC⟩, ⟨sM1, sM2, sM3, sM4, sM5, sx2⟩, ⟨sE1, sE2, sE3, sE4, sE5, sx3⟩, sx1, pAt, pGet, pTk, ⟨_, pRc⟩, aRLen, iRLen⟩
  have T : OTxt K D := ⟨⟨pgD, hdD, poD, saD⟩, nA, nS, nL, nX⟩
  have FNum := fun_mk (st := sNum) lNum cNum kNum
  have bNum := FNum.binds (ps := ["value", "lowest", "highest"]) fun _ _ _ _ _ _ us hl => match us, hl with | [_, _, _], _ => rfl
  have gNum := PySem.W.mg_of X G aNum
  have FMir := fun_mk (st := sMir) lMir cMir kMir
  have bMir := FMir.binds (ps := ["marks"]) fun _ _ _ _ _ _ us hl => match us, hl with | [_], _ => rfl
  have gMir := PySem.W.mg_of X G aMir
  have FMov := fun_mk (st := sMov) lMov cMov kMov
  have bMov := FMov.binds (ps := ["marks"]) fun _ _ _ _ _ _ us hl => match us, hl with | [_], _ => rfl
  have gMov := PySem.W.mg_of X G aMov
  have FVal := fun_mk (st := sVal) lVal cVal kVal
  have bVal := FVal.binds (ps := ["piece", "index"]) fun _ _ _ _ _ _ us hl => match us, hl with | [_, _], _ => rfl
  have gVal := PySem.W.mg_of X G aVal
  have FOn := fun_mk (st := sOn) lOn cOn kOn
  have bOn := FOn.binds (ps := ["ruler", "piece"]) fun _ _ _ _ _ _ us hl => match us, hl with | [_, _], _ => rfl
  have gOn := PySem.W.mg_of X G aOn
  have FSp := fun_mk (st := sSp) lSp cSp kSp
  have bSp := FSp.binds (ps := ["ruler", "piece"]) fun _ _ _ _ _ _ us hl => match us, hl with | [_, _], _ => rfl
  have gSp := PySem.W.mg_of X G aSp
  have FBeg := fun_mk (st := sBeg) lBeg cBeg kBeg
  have bBeg := FBeg.binds (ps := ["_law_script"]) fun _ _ _ _ _ _ us hl => match us, hl with | [_], _ => rfl
  have gBeg := PySem.W.mg_of X G aBeg
  have FTake := fun_mk (st := sTake) lTake cTake kTake
  have bTake := FTake.binds (ps := ["_law_box", "_law_many"]) fun _ _ _ _ _ _ us hl => match us, hl with | [_, _], _ => rfl
  have gTake := PySem.W.mg_of X G aTake
  have FMarks := fun_mk (st := sMarks) lMarks cMarks kMarks
  have bMarks := FMarks.binds (ps := ["_law_box", "_law_most", "_law_length"]) fun _ _ _ _ _ _ us hl => match us, hl with | [_, _, _], _ => rfl
  have gMarks := PySem.W.mg_of X G aMarks
  have FRul := fun_mk (st := sRul) lRul cRul kRul
  have bRul := FRul.binds (ps := ["_law_box", "_law_most", "_law_length"]) fun _ _ _ _ _ _ us hl => match us, hl with | [_, _, _], _ => rfl
  have gRul := PySem.W.mg_of X G aRul
  have FTur := fun_mk (st := sTur) lTur cTur kTur
  have bTur := FTur.binds (ps := ["_law_marks_here"]) fun _ _ _ _ _ _ us hl => match us, hl with | [_], _ => rfl
  have gTur := PySem.W.mg_of X G aTur
  have FLMov := fun_mk (st := sLMov) lLMov cLMov kLMov
  have bLMov := FLMov.binds (ps := ["_law_marks_here"]) fun _ _ _ _ _ _ us hl => match us, hl with | [_], _ => rfl
  have gLMov := PySem.W.mg_of X G aLMov
  have FHas := fun_mk (st := sHas) lHas cHas kHas
  have bHas := FHas.binds (ps := ["_law_rulers", "_law_piece", "_law_begin", "_law_end"]) fun _ _ _ _ _ _ us hl => match us, hl with | [_, _, _, _], _ => rfl
  have gHas := PySem.W.mg_of X G aHas
  have FLaw := fun_mk (st := sLaw) lLaw cLaw kLaw
  have FRIni := fun_mk (st := sRIni) lRIni cRIni kRIni
  have bRIni := FRIni.binds (ps := ["self", "marks", "error"]) fun _ _ _ _ _ _ us hl => match us, hl with | [_, _, _], _ => rfl
  have FRLen := fun_mk (st := sRLen) lRLen cRLen kRLen
  have bRLen := FRLen.binds (ps := ["self"]) fun _ _ _ _ _ _ us hl => match us, hl with | [_], _ => rfl
  have FRMk := fun_mk (st := sRMk) lRMk cRMk kRMk
  have bRMk := FRMk.binds (ps := ["self"]) fun _ _ _ _ _ _ us hl => match us, hl with | [_], _ => rfl
  have FOIni := fun_mk (st := sOIni) lOIni cOIni kOIni
  have bOIni := FOIni.binds (ps := ["self", "rulers", "piece"]) fun _ _ _ _ _ _ us hl => match us, hl with | [_, _, _], _ => rfl
  have FOVal := fun_mk (st := sOVal) lOVal cOVal kOVal
  have bOVal := FOVal.binds (ps := ["self", "index"]) fun _ _ _ _ _ _ us hl => match us, hl with | [_, _], _ => rfl
  have FOAt := fun_mk (st := sOAt) lOAt cOAt kOAt
  have bOAt := FOAt.binds (ps := ["self", "place", "index"]) fun _ _ _ _ _ _ us hl => match us, hl with | [_, _, _], _ => rfl
  have FOTell := fun_mk (st := sOTell) lOTell cOTell kOTell
  have bOTell := FOTell.binds (ps := ["self", "word", "index", "number"]) fun _ _ _ _ _ _ us hl => match us, hl with | [_, _, _, _], _ => rfl
  have FOSee := fun_mk (st := sOSee) lOSee cOSee kOSee
  have bOSee := FOSee.binds (ps := ["self", "index", "number"]) fun _ _ _ _ _ _ us hl => match us, hl with | [_, _, _], _ => rfl
  have FONum := fun_mk (st := sONum) lONum cONum kONum
  have bONum := FONum.binds (ps := ["self", "index"]) fun _ _ _ _ _ _ us hl => match us, hl with | [_, _], _ => rfl
  have FOCan := fun_mk (st := sOCan) lOCan cOCan kOCan
  have bOCan := FOCan.binds (ps := ["self"]) fun _ _ _ _ _ _ us hl => match us, hl with | [_], _ => rfl
  refine ⟨PySem.W.fnOf "law" "law" (defArgs sLaw) (defBody sLaw) (defScope sLaw) .none kVLaw dcLaw pmLaw anLaw cdLaw ctLaw, fun s v => .of_eq rfl, fun base _ _ => ?_⟩
  have GMk : FnOk l.prog w K mg base CX0 1 fRMk _ ["self"] (spRMk C iM) := ok_rmk FRMk R
  have GLen : FnOk l.prog w K mg base CX0 1 fRLen _ ["self"] (spRLen C iM) := ok_rlen FRLen R B
  have GVal : FnOk l.prog w K mg base CX0 2 fVal _ ["piece", "index"] (spVal K) := ok_val FVal B Cn FNum bNum gNum
  have GOn : FnOk l.prog w K mg base CX0 3 fOn _ ["ruler", "piece"] (spOn K C iM) := ok_on (gMk := fRMk) (gLn := fRLen) FOn R B FMov bMov gMov FMir bMir gMir FRMk bRMk FRLen bRLen
  have GSp : FnOk l.prog w K mg base CX0 4 fSp _ ["ruler", "piece"] (spOn K C iM) := ok_sp FSp FOn GOn bOn gOn FVal GVal bVal gVal
  have GTake : FnOk l.prog w K mg base CX0 1 fTake _ ["_law_box", "_law_many"] spTake := ok_take FTake B
  have GMarks : FnOk l.prog w K mg base CX0 2 fMarks _ ["_law_box", "_law_most", "_law_length"] spMarks := ok_marks FMarks B FTake bTake gTake
  have GRIni : FnOk l.prog w K mg base CX0 2 fRIni _ ["self", "marks", "error"] (spRIni C iM) := ok_rini FRIni R B Cn FNum bNum gNum
  have GRul : FnOk l.prog w K mg base CX0 4 fRul _ ["_law_box", "_law_most", "_law_length"] (spRul C iM) := ok_rul FRul FTake GTake bTake gTake FMarks GMarks bMarks gMarks ⟨mkC, aRIni, iRIni, kcC⟩ GRIni bRIni (PySem.W.mg_of X G aC)
  have GHas : FnOk l.prog w K mg base CX0 5 fHas _ ["_law_rulers", "_law_piece", "_law_begin", "_law_end"] (spHas K C iM) := ok_has FHas R B FSp GSp bSp gSp FLMov bLMov gLMov FTur bTur gTur FRMk bRMk
  have GOIni : FnOk l.prog w K mg base CX0 5 fOIni _ ["self", "rulers", "piece"] (spOIni K C iM D) := ok_oini FOIni T B Cn FSp GSp bSp gSp
  have GOVal : FnOk l.prog w K mg base CX0 2 fOVal _ ["self", "index"] (spOVal D) := ok_oval FOVal T B FNum bNum gNum
  have GOAt : FnOk l.prog w K mg base CX0 3 fOAt _ ["self", "place", "index"] (spAt C iM D) := ok_at FOAt T R FRMk bRMk
  have mVal : Meth K D "validate_index" fOVal := ⟨aOVal, iOVal, kOVal⟩
  have mAt : Meth K D "number_at" fOAt := ⟨aOAt, iOAt, kOAt⟩
  have GOTell : FnOk l.prog w K mg base CX0 4 fOTell _ ["self", "word", "index", "number"] (spSee C iM D [.str "see"]) := ok_tell FOTell T B Cn GOVal bOVal mVal GOAt bOAt mAt
  have GOSee : FnOk l.prog w K mg base CX0 5 fOSee _ ["self", "index", "number"] (spSee C iM D []) := ok_see FOSee T Cn GOTell bOTell ⟨aOTell, iOTell, kOTell⟩
  have GONum : FnOk l.prog w K mg base CX0 4 fONum _ ["self", "index"] (spONum C iM D) := ok_onum FONum T B GOVal bOVal mVal GOAt bOAt mAt
  have GOCan : FnOk l.prog w K mg base CX0 1 fOCan _ ["self"] (spOCan D) := ok_ocan FOCan T B
  have Z : Defs l.prog w K mg base C D pM pE pP fRMk fRLen iM iE :=
    { B := B, R := R, T := T, rmk := ⟨_, GMk, bRMk⟩, rlen := ⟨_, GLen, bRLen⟩, beg := ⟨fBeg, _, ok_beg FBeg B, bBeg, gBeg, kBeg⟩, take := ⟨fTake, _, GTake, bTake, gTake, kTake⟩, rul := ⟨fRul, _, GRul, bRul, gRul, kRul⟩,
      mov := ⟨fLMov, _, ok_lmov FLMov B, bLMov, gLMov, kLMov⟩, tur := ⟨fTur, _, ok_tur FTur B, bTur, gTur, kTur⟩, has := ⟨fHas, _, GHas, bHas, gHas, kHas⟩, org := ⟨fOIni, _, ⟨mkD, aOIni, iOIni, kcD⟩, GOIni, bOIni, PySem.W.mg_of X G aD⟩,
      num := ⟨fONum, _, GONum, bONum, aONum, iONum, kONum⟩, see := ⟨fOSee, _, GOSee, bOSee, aOSee, iOSee, kOSee⟩, can := ⟨pQ, fOCan, _, GOCan, bOCan, ⟨qAt, qGet, qTk, _, qRc⟩⟩ }
  exact ok_law Z FLaw
theorem walk {l : PySem.W.OpenLaw} {q : Program} {loose : List Str} {XP : (Str → Option Value) → Heap → Prop} {YP : World → Heap → Prop} {d : DefRec} {K : Params → PySem.W.Frag} (hn : l.most = some 63) (hdf : d.params.defaults = [])
    (hY : ∀ (w : World) (h : Heap), YP w h → (K w.params).In h)
    (F : ∀ (w : World) (mg : Str → Option Value) (fa : Addr) (h : Heap), (K w.params).In h → h.Ns mainGlobals mg → mg d.name = some (.ref fa) →
      ∃ fd : FuncData, (∀ (s : Shared) (u : Value), BindsTo s fd ⟨[u], []⟩ [("_law_script", u)]) ∧ ∀ base : Heap, (K w.params).In base → base.Ns mainGlobals mg → FnOk l.prog w (K w.params) mg base CX0 7 fa fd ["_law_script"] (spLaw (K w.params))) :
    PySem.W.WalkO q loose XP YP l.row.toRowW d [] (fun f vs => PySem.call f vs) :=
  L2.walk_of (n := 63) (k := 7) (x := "_law_script") (CX := fun _ => CX0) (sp := fun w => spLaw (K w.params)) hn (by decide) hdf ⟨rfl, by decide, by decide⟩ hY F (fun _ _ a ns hl _ hS => ⟨a, ns, rfl, hS, hl, fun _ => rfl⟩) fun _ _ _ _ _ z => z
end K84
open PySem PySem.W PyProof.Rows
set_option maxRecDepth 100000 in
set_option maxHeartbeats 0 in
theorem PySem.Challenge.cw_rulerbits_k84_whole_pieces_within_pieces_holds : PySem.Challenge.rw_rulerbits_k84_whole_pieces_within_pieces.Holds := by
  w_on; o_law; k_head; (case hw => w_witness2)
  k_fill
  refine K84.walk (l := PySem.Challenge.rw_rulerbits_k84_whole_pieces_within_pieces) rfl rfl (fun w h Y => PySem.W.kIn_of Y) ?F
  case F =>
    intro w mg fa h KX G hmg
    refine' K84.all_mk KX G hmg ?aC ?aD ?pAt ?pGet ?pTk ?pRc ?qAt ?qGet ?qTk ?qRc ?aNum ?lNum ?cNum ?kNum ?aMir ?lMir ?cMir ?kMir ?aMov ?lMov ?cMov ?kMov ?aVal ?lVal ?cVal ?kVal ?aOn ?lOn ?cOn ?kOn ?aSp ?lSp ?cSp ?kSp ?aBeg ?lBeg ?cBeg ?kBeg ?aTake ?lTake ?cTake ?kTake ?aMarks ?lMarks ?cMarks ?kMarks ?aRul ?lRul ?cRul ?kRul ?aTur ?lTur ?cTur ?kTur ?aLMov ?lLMov ?cLMov ?kLMov ?aHas ?lHas ?cHas ?kHas ?aLaw ?lLaw ?cLaw ?kLaw ?aRIni ?iRIni ?lRIni ?cRIni ?kRIni ?aRLen ?iRLen ?lRLen ?cRLen ?kRLen ?lRMk ?cRMk ?kRMk ?aOIni ?iOIni ?lOIni ?cOIni ?kOIni ?aOVal ?iOVal ?lOVal ?cOVal ?kOVal ?aOAt ?iOAt ?lOAt ?cOAt ?kOAt ?aOTell ?iOTell ?lOTell ?cOTell ?kOTell ?aOSee ?iOSee ?lOSee ?cOSee ?kOSee ?aONum ?iONum ?lONum ?cONum ?kONum ?lOCan ?cOCan ?kOCan ?pgC ?poC ?saC ?mkC ?kcC ?pgD ?poD ?saD ?mkD ?kcD ?icC ?hdD ?sM1 ?sM2 ?sM3 ?sM4 ?sM5 ?sE1 ?sE2 ?sE3 ?sE4 ?sE5 ?nA ?nS ?nL ?nX ?zint ?zbool ?zisi ?zlist ?ztuple ?zrev ?zenum ?zrange ?zlen ?zsorted ?zset ?vminM ?vmaxM ?vmaxL ?vmaxE ?vmaxO ?vsee ?sx1 ?sx2 ?sx3
    (case aC => k_is)
    (case aD => k_is)
    (case pAt => k_is)
    (case pGet => k_is)
    (case pTk => k_is)
    (case pRc => k_is)
    (case qAt => k_is)
    (case qGet => k_is)
    (case qTk => k_is)
    (case qRc => k_is)
    (case aNum => k_is)
    (case lNum => k_is)
    (case cNum => k_is)
    (case kNum => k_is)
    (case aMir => k_is)
    (case lMir => k_is)
    (case cMir => k_is)
    (case kMir => k_is)
    (case aMov => k_is)
    (case lMov => k_is)
    (case cMov => k_is)
    (case kMov => k_is)
    (case aVal => k_is)
    (case lVal => k_is)
    (case cVal => k_is)
    (case kVal => k_is)
    (case aOn => k_is)
    (case lOn => k_is)
    (case cOn => k_is)
    (case kOn => k_is)
    (case aSp => k_is)
    (case lSp => k_is)
    (case cSp => k_is)
    (case kSp => k_is)
    (case aBeg => k_is)
    (case lBeg => k_is)
    (case cBeg => k_is)
    (case kBeg => k_is)
    (case aTake => k_is)
    (case lTake => k_is)
    (case cTake => k_is)
    (case kTake => k_is)
    (case aMarks => k_is)
    (case lMarks => k_is)
    (case cMarks => k_is)
    (case kMarks => k_is)
    (case aRul => k_is)
    (case lRul => k_is)
    (case cRul => k_is)
    (case kRul => k_is)
    (case aTur => k_is)
    (case lTur => k_is)
    (case cTur => k_is)
    (case kTur => k_is)
    (case aLMov => k_is)
    (case lLMov => k_is)
    (case cLMov => k_is)
    (case kLMov => k_is)
    (case aHas => k_is)
    (case lHas => k_is)
    (case cHas => k_is)
    (case kHas => k_is)
    (case aLaw => k_is)
    (case lLaw => k_is)
    (case cLaw => k_is)
    (case kLaw => k_is)
    (case aRIni => k_is)
    (case iRIni => k_is)
    (case lRIni => k_is)
    (case cRIni => k_is)
    (case kRIni => k_is)
    (case aRLen => k_is)
    (case iRLen => k_is)
    (case lRLen => k_is)
    (case cRLen => k_is)
    (case kRLen => k_is)
    (case lRMk => k_is)
    (case cRMk => k_is)
    (case kRMk => k_is)
    (case aOIni => k_is)
    (case iOIni => k_is)
    (case lOIni => k_is)
    (case cOIni => k_is)
    (case kOIni => k_is)
    (case aOVal => k_is)
    (case iOVal => k_is)
    (case lOVal => k_is)
    (case cOVal => k_is)
    (case kOVal => k_is)
    (case aOAt => k_is)
    (case iOAt => k_is)
    (case lOAt => k_is)
    (case cOAt => k_is)
    (case kOAt => k_is)
    (case aOTell => k_is)
    (case iOTell => k_is)
    (case lOTell => k_is)
    (case cOTell => k_is)
    (case kOTell => k_is)
    (case aOSee => k_is)
    (case iOSee => k_is)
    (case lOSee => k_is)
    (case cOSee => k_is)
    (case kOSee => k_is)
    (case aONum => k_is)
    (case iONum => k_is)
    (case lONum => k_is)
    (case cONum => k_is)
    (case kONum => k_is)
    (case lOCan => k_is)
    (case cOCan => k_is)
    (case kOCan => k_is)
    (case pgC => k_is)
    (case poC => k_is)
    (case saC => k_is)
    (case mkC => k_is)
    (case kcC => k_is)
    (case pgD => k_is)
    (case poD => k_is)
    (case saD => k_is)
    (case mkD => k_is)
    (case kcD => k_is)
    (case icC => k_is)
    (case hdD => k_is)
    (case sM1 => k_is)
    (case sM2 => k_is)
    (case sM3 => k_is)
    (case sM4 => k_is)
    (case sM5 => k_is)
    (case sE1 => k_is)
    (case sE2 => k_is)
    (case sE3 => k_is)
    (case sE4 => k_is)
    (case sE5 => k_is)
    (case nA => k_is)
    (case nS => k_is)
    (case nL => k_is)
    (case nX => k_is)
    (case zint => k_is)
    (case zbool => k_is)
    (case zisi => k_is)
    (case zlist => k_is)
    (case ztuple => k_is)
    (case zrev => k_is)
    (case zenum => k_is)
    (case zrange => k_is)
    (case zlen => k_is)
    (case zsorted => k_is)
    (case zset => k_is)
    (case vminM => k_is)
    (case vmaxM => k_is)
    (case vmaxL => k_is)
    (case vmaxE => k_is)
    (case vmaxO => k_is)
    (case vsee => k_is)
    (case sx1 => decide)
    (case sx2 => decide)
    (case sx3 => decide)
