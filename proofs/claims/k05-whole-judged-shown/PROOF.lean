import PyProof.Rows.All
import Wide.All
import OpenK.AllK
import Wide.FinOn
import HandS.ForMost
import HandS.Slots
import HandS.SlotsOwn
import HandS.IsInst
import HandS.Defaults
import HandS.More
import HandS.WordsExc
import KE.KDictKeyed
import KE.KDictLaw
import HandS.Deep
import KE.GoesDict
import KE.GoesComp
import KE.KDictCopyH
import KE.KDictDisplayH
import HandS.Dict
import HandS.Iter
import HandS.Walk
import HandS.Set
import HandS.SetFor
import HandS.Strs
import KE.GoesNew
import HandS.Sort
import OpenK.KOps
import HandS.Codes
import HandS.Style
import HandS.TupAny
import HandS.Replace
import HandS.Text
import PySem.Challenge.RW_foldlook_k05_whole_judged_shown
import KE.KIsAll
/-! The plain part: what the program and the law compute, as functions over lists; no program in sight. -/
set_option linter.all false
namespace K5

abbrev Tx := List Nat

inductive Cond where
  | eq (p : Tx) | beg (p : Tx) | bet (p q : Tx) | like (p : Tx)

inductive Stand where
  | n (i : Int) | t (xs : List Int)
  deriving DecidableEq

structure Spot where
  a : Int
  x : Stand
  b : Int
  y : Stand
  deriving DecidableEq

abbrev Rows := List (List (Int × Tx))

structure Plan where
  L : Tx
  R1 : Rows
  q : Cond
  R2 : Rows
  c : Cond

def ix : Tx → Nat → Nat
  | [], _ => 0
  | a :: l, c => if a = c then 0 else ix l c + 1

theorem ix_lt : ∀ {l : Tx} {c : Nat}, c ∈ l → ix l c < l.length
  | a :: l, c, h => by
    unfold ix
    by_cases e : a = c
    · rw [if_pos e]; simp
    · rw [if_neg e]
      have h' : c ∈ l := by
        rcases List.mem_cons.mp h with q | q
        · exact absurd q.symm e
        · exact q
      have := ix_lt h'
      simp; omega

/-! ### the places to which stars lead -/
def cl (p : Tx) (ps : List Int) : Nat → Bool
  | 0 => decide ((0 : Int) ∈ ps)
  | k + 1 => decide (((k + 1 : Nat) : Int) ∈ ps) || (decide (p[k]? = some 42) && cl p ps k)

def led (p : Tx) (ps : List Int) : List Int := ((List.range (p.length + 1)).filter (cl p ps)).map (fun k : Nat => (k : Int))

theorem cl_congr {p : Tx} {ps qs : List Int} (h : ∀ k : Int, k ∈ ps ↔ k ∈ qs) : ∀ k, cl p ps k = cl p qs k
  | 0 => by unfold cl; simp only [h]
  | k + 1 => by unfold cl; rw [cl_congr h k]; simp only [h]

theorem led_congr {p : Tx} {ps qs : List Int} (h : ∀ k : Int, k ∈ ps ↔ k ∈ qs) : led p ps = led p qs := by
  have e : cl p ps = cl p qs := funext (cl_congr h)
  unfold led
  rw [e]

theorem mem_led {p : Tx} {ps : List Int} {k : Int} : k ∈ led p ps ↔ ∃ j : Nat, k = (j : Int) ∧ j ≤ p.length ∧ cl p ps j = true := by
  unfold led
  simp only [List.mem_map, List.mem_filter, List.mem_range]
  constructor
  · rintro ⟨j, ⟨h1, h2⟩, rfl⟩
    exact ⟨j, rfl, by omega, h2⟩
  · rintro ⟨j, rfl, h1, h2⟩
    exact ⟨j, ⟨by omega, h2⟩, rfl⟩

theorem led_sorted (p : Tx) (ps : List Int) : (led p ps).Pairwise (· < ·) := by
  unfold led
  rw [List.pairwise_map]
  have h : (List.range (p.length + 1)).Pairwise (· < ·) := List.pairwise_lt_range
  exact (h.filter _).imp (fun h => by omega)

theorem led_range {p : Tx} {ps : List Int} {k : Int} (h : k ∈ led p ps) : 0 ≤ k ∧ k ≤ (p.length : Int) := by
  obtain ⟨j, rfl, h1, _⟩ := mem_led.mp h
  omega

theorem led_length (p : Tx) (ps : List Int) : (led p ps).length ≤ p.length + 1 := by
  unfold led
  rw [List.length_map]
  exact Nat.le_trans (List.length_filter_le _ _) (by simp)

theorem cl_of_mem {p : Tx} {ps : List Int} : ∀ {k : Nat}, (k : Int) ∈ ps → cl p ps k = true
  | 0, h => by unfold cl; simpa using h
  | k + 1, h => by unfold cl; simp only [h, decide_true, Bool.true_or]

theorem cl_idem {p : Tx} {ps : List Int} : ∀ {k : Nat}, k ≤ p.length → cl p (led p ps) k = cl p ps k
  | 0, h => by
    have e : ((0 : Int) ∈ led p ps) ↔ cl p ps 0 = true := by
      constructor
      · intro q
        obtain ⟨j, e1, _, e2⟩ := mem_led.mp q
        have : j = 0 := by omega
        subst this; exact e2
      · intro q; exact mem_led.mpr ⟨0, rfl, by omega, q⟩
    show decide ((0 : Int) ∈ led p ps) = _
    cases hb : cl p ps 0 with
    | true => exact decide_eq_true (e.mpr hb)
    | false => exact decide_eq_false (fun q => by rw [e.mp q] at hb; cases hb)
  | k + 1, h => by
    have e : (((k + 1 : Nat) : Int) ∈ led p ps) ↔ cl p ps (k + 1) = true := by
      constructor
      · intro q
        obtain ⟨j, e1, _, e2⟩ := mem_led.mp q
        have : j = k + 1 := by omega
        subst this; exact e2
      · intro q; exact mem_led.mpr ⟨k + 1, rfl, h, q⟩
    have ih : cl p (led p ps) k = cl p ps k := cl_idem (by omega)
    show (decide (((k + 1 : Nat) : Int) ∈ led p ps) || (decide (p[k]? = some 42) && cl p (led p ps) k)) = _
    rw [ih]
    cases hb : cl p ps (k + 1) with
    | true => rw [decide_eq_true (e.mpr hb)]; rfl
    | false =>
      rw [decide_eq_false (fun q => by rw [e.mp q] at hb; cases hb)]
      have z : cl p ps (k + 1) = (decide (((k + 1 : Nat) : Int) ∈ ps) || (decide (p[k]? = some 42) && cl p ps k)) := rfl
      rw [hb] at z
      have z2 := (Bool.or_eq_false_iff.mp z.symm).2
      rw [z2]; rfl

theorem led_idem (p : Tx) (ps : List Int) : led p (led p ps) = led p ps := by
  have e : ∀ k ∈ List.range (p.length + 1), cl p (led p ps) k = cl p ps k := fun k hk => cl_idem (by have := List.mem_range.mp hk; omega)
  show ((List.range (p.length + 1)).filter (cl p (led p ps))).map (fun k : Nat => (k : Int)) = ((List.range (p.length + 1)).filter (cl p ps)).map (fun k : Nat => (k : Int))
  rw [List.filter_congr e]

/-- two ascending lists with the same members are one -/
theorem asc_unique : ∀ {xs ys : List Int}, xs.Pairwise (· < ·) → ys.Pairwise (· < ·) → (∀ k, k ∈ xs ↔ k ∈ ys) → xs = ys
  | [], [], _, _, _ => rfl
  | [], y :: ys, _, _, h => absurd ((h y).mpr (by simp)) (by simp)
  | x :: xs, [], _, _, h => absurd ((h x).mp (by simp)) (by simp)
  | x :: xs, y :: ys, hx, hy, h => by
    have hx1 := List.pairwise_cons.mp hx
    have hy1 := List.pairwise_cons.mp hy
    have e : x = y := by
      have a := (h x).mp (by simp)
      have b := (h y).mpr (by simp)
      rcases List.mem_cons.mp a with q | q
      · exact q
      · rcases List.mem_cons.mp b with r | r
        · exact r.symm
        · have := hx1.1 y r; have := hy1.1 x q; omega
    subst e
    have t : xs = ys := asc_unique hx1.2 hy1.2 (fun k => by
      constructor
      · intro q
        have := hx1.1 k q
        rcases List.mem_cons.mp ((h k).mp (List.mem_cons_of_mem _ q)) with r | r
        · omega
        · exact r
      · intro q
        have := hy1.1 k q
        rcases List.mem_cons.mp ((h k).mpr (List.mem_cons_of_mem _ q)) with r | r
        · omega
        · exact r)
    rw [t]

/-! ### stands -/
def beside (L bound : Tx) (s : Int) (c : Nat) : Int :=
  if s < 0 then s
  else if s = (bound.length : Int) then -2
  else if bound[s.toNat]? = some c then s + 1
  else if ix L c < ix L (bound.getD s.toNat 0) then -1 else -2

def stars (p : Tx) (xs : List Int) : List Int := xs.filter fun k => decide (p[k.toNat]? = some 42)
def steps (p : Tx) (c : Nat) (xs : List Int) : List Int := (xs.filter fun k => decide (p[k.toNat]? = some 63) || decide (p[k.toNat]? = some c)).map (· + 1)

def step1 (p : Tx) (s : Int) (c : Nat) : Int := if 0 ≤ s ∧ p[s.toNat]? = some c then s + 1 else -1

def nextStand (L : Tx) : Cond → Stand → Nat → Stand
  | .eq p, .n s, c => .n (step1 p s c)
  | .beg p, .n s, c => .n (if s = (p.length : Int) then s else step1 p s c)
  | .bet p q, .t [a, b], c => .t [beside L p a c, beside L q b c]
  | .like p, .t xs, c => .t (led p (stars p xs ++ steps p c xs))
  | _, s, _ => s

def firstStand : Cond → Stand
  | .like p => .t (led p [0])
  | .bet _ _ => .t [0, 0]
  | _ => .n 0

def met : Cond → Stand → Bool
  | .eq p, .n s => decide (s = (p.length : Int))
  | .beg p, .n s => decide (s = (p.length : Int))
  | .bet p _, .t [a, b] => (decide (a = -2) || decide (a = (p.length : Int))) && !decide (b = -2)
  | .like p, .t xs => decide ((p.length : Int) ∈ xs)
  | _, _ => false

/-- a stand has the form that goes with the condition -/
def fits : Cond → Stand → Prop
  | .eq _, .n _ => True
  | .beg _, .n _ => True
  | .bet _ _, .t [_, _] => True
  | .like _, .t xs => xs.length ≤ 30
  | _, _ => False

def okStand : Cond → Stand → Bool
  | .eq p, .n s => decide (-1 ≤ s) && decide (s ≤ (p.length : Int))
  | .beg p, .n s => decide (-1 ≤ s) && decide (s ≤ (p.length : Int))
  | .bet p q, .t [a, b] => (decide (-2 ≤ a) && decide (a ≤ (p.length : Int))) && (decide (-2 ≤ b) && decide (b ≤ (q.length : Int)))
  | .like p, .t xs => xs.all (fun k => decide (0 ≤ k) && decide (k ≤ (p.length : Int))) && decide (led p xs = xs)
  | _, _ => false

/-- the condition's texts are of the letters, and short -/
def okCond (L : Tx) : Cond → Prop
  | .eq p => (∀ c ∈ p, c ∈ L) ∧ p.length ≤ 4
  | .beg p => (∀ c ∈ p, c ∈ L) ∧ p.length ≤ 4
  | .bet p q => ((∀ c ∈ p, c ∈ L) ∧ p.length ≤ 4) ∧ ((∀ c ∈ q, c ∈ L) ∧ q.length ≤ 4)
  | .like p => (∀ c ∈ p, c ∈ L ∨ c = 63 ∨ c = 42) ∧ p.length ≤ 4

def okTurn (L : Tx) (n : Nat) (t : Int × Tx) : Prop := (0 ≤ t.1 ∧ t.1 < (n : Int)) ∧ (t.2 = [] ∨ ∃ c ∈ L, t.2 = [c])
def okRow (L : Tx) (n : Nat) (r : List (Int × Tx)) : Prop := r.length = L.length ∧ ∀ t ∈ r, okTurn L n t
def okRows (L : Tx) (R : Rows) : Prop := 1 ≤ R.length ∧ R.length ≤ 6 ∧ ∀ r ∈ R, okRow L R.length r

def menu : List Tx := [[97, 98], [98, 97], [97, 98, 99], [95, 97, 98], [65, 97], [99, 97, 98, 95], [90, 122, 95]]

structure OkPlan (P : Plan) : Prop where
  L : P.L ∈ menu
  R1 : okRows P.L P.R1
  R2 : okRows P.L P.R2
  q : okCond P.L P.q
  c : okCond P.L P.c

theorem fits_of_ok : ∀ {c : Cond} {s : Stand} {L : Tx}, okCond L c → okStand c s = true → fits c s
  | .eq p, .n s, _, _, _ => trivial
  | .beg p, .n s, _, _, _ => trivial
  | .bet p q, .t [a, b], _, _, _ => trivial
  | .like p, .t xs, _, hp, h => by
    show xs.length ≤ 30
    have e : led p xs = xs := by
      have := (Bool.and_eq_true_iff.mp h).2
      exact of_decide_eq_true this
    rw [← e]
    have := led_length p xs
    have := hp.2
    omega
  | .eq p, .t _, _, _, h => by cases h
  | .beg p, .t _, _, _, h => by cases h
  | .like p, .n _, _, _, h => by cases h
  | .bet p q, .n _, _, _, h => by cases h
  | .bet p q, .t [], _, _, h => by cases h
  | .bet p q, .t [_], _, _, h => by cases h
  | .bet p q, .t (_ :: _ :: _ :: _), _, _, h => by cases h

theorem ok_led (p : Tx) (ps : List Int) : okStand (.like p) (.t (led p ps)) = true := by
  show ((led p ps).all (fun k => decide (0 ≤ k) && decide (k ≤ (p.length : Int))) && decide (led p (led p ps) = led p ps)) = true
  rw [led_idem]
  simp only [decide_true, Bool.and_true, List.all_eq_true, Bool.and_eq_true, decide_eq_true_eq]
  exact fun k hk => led_range hk

theorem ok_first : ∀ c : Cond, okStand c (firstStand c) = true
  | .eq p => by show (decide ((-1 : Int) ≤ 0) && decide ((0 : Int) ≤ (p.length : Int))) = true; simp
  | .beg p => by show (decide ((-1 : Int) ≤ 0) && decide ((0 : Int) ≤ (p.length : Int))) = true; simp
  | .bet p q => by show ((decide ((-2 : Int) ≤ 0) && decide ((0 : Int) ≤ (p.length : Int))) && (decide ((-2 : Int) ≤ 0) && decide ((0 : Int) ≤ (q.length : Int)))) = true; simp
  | .like p => ok_led p [0]

theorem beside_range {L bound : Tx} {s : Int} {c : Nat} (h1 : -2 ≤ s) (h2 : s ≤ (bound.length : Int)) : -2 ≤ beside L bound s c ∧ beside L bound s c ≤ (bound.length : Int) := by
  unfold beside
  split
  · omega
  · split
    · omega
    · split
      · omega
      · split <;> omega

theorem step1_range {p : Tx} {s : Int} {c : Nat} (h2 : s ≤ (p.length : Int)) : -1 ≤ step1 p s c ∧ step1 p s c ≤ (p.length : Int) := by
  unfold step1
  split
  · rename_i h
    have : s.toNat < p.length := (List.getElem?_eq_some_iff.mp h.2).1
    omega
  · omega

theorem ok_next : ∀ {c : Cond} {s : Stand} (L : Tx) (x : Nat), okStand c s = true → okStand c (nextStand L c s x) = true
  | .eq p, .n s, L, x, h => by
    have h1 := Bool.and_eq_true_iff.mp h
    have b := of_decide_eq_true h1.2
    have r := step1_range (c := x) b
    show (decide (-1 ≤ step1 p s x) && decide (step1 p s x ≤ (p.length : Int))) = true
    simp [r]
  | .beg p, .n s, L, x, h => by
    have h1 := Bool.and_eq_true_iff.mp h
    have b := of_decide_eq_true h1.2
    have r := step1_range (c := x) b
    have a := of_decide_eq_true h1.1
    show (decide (-1 ≤ (if s = (p.length : Int) then s else step1 p s x)) && decide ((if s = (p.length : Int) then s else step1 p s x) ≤ (p.length : Int))) = true
    split
    · simp [a, b]
    · simp [r]
  | .bet p q, .t [a, b], L, x, h => by
    have h1 := Bool.and_eq_true_iff.mp h
    have ha := Bool.and_eq_true_iff.mp h1.1
    have hb := Bool.and_eq_true_iff.mp h1.2
    have r1 := beside_range (L := L) (c := x) (of_decide_eq_true ha.1) (of_decide_eq_true ha.2)
    have r2 := beside_range (L := L) (c := x) (of_decide_eq_true hb.1) (of_decide_eq_true hb.2)
    show ((decide (-2 ≤ beside L p a x) && decide (beside L p a x ≤ (p.length : Int))) && (decide (-2 ≤ beside L q b x) && decide (beside L q b x ≤ (q.length : Int)))) = true
    simp [r1, r2]
  | .like p, .t xs, L, x, h => ok_led p _
  | .eq p, .t _, _, _, h => by cases h
  | .beg p, .t _, _, _, h => by cases h
  | .like p, .n _, _, _, h => by cases h
  | .bet p q, .n _, _, _, h => by cases h
  | .bet p q, .t [], _, _, h => by cases h
  | .bet p q, .t [_], _, _, h => by cases h
  | .bet p q, .t (_ :: _ :: _ :: _), _, _, h => by cases h

/-! ### machines -/
def turn (R : Rows) (L : Tx) (s : Int) (c : Nat) : Int × Tx := ((R.getD s.toNat []).getD (ix L c) (0, []))

theorem turn_at {L : Tx} {R : Rows} {s : Int} {c : Nat} (hR : okRows L R) (h0 : 0 ≤ s) (h1 : s < (R.length : Int)) (hc : c ∈ L) :
    ∃ r, R[s.toNat]? = some r ∧ r[ix L c]? = some (turn R L s c) ∧ okTurn L R.length (turn R L s c) := by
  have hs : s.toNat < R.length := by omega
  have e1 : R[s.toNat]? = some R[s.toNat] := List.getElem?_eq_getElem hs
  have hr := hR.2.2 _ (List.getElem_mem hs)
  have hi : ix L c < (R[s.toNat]).length := by rw [hr.1]; exact ix_lt hc
  have e2 : (R[s.toNat])[ix L c]? = some (R[s.toNat])[ix L c] := List.getElem?_eq_getElem hi
  have e3 : turn R L s c = (R[s.toNat])[ix L c] := by
    unfold turn
    simp [List.getD, e1, e2]
  exact ⟨_, e1, by rw [e2, e3], by rw [e3]; exact hr.2 _ (List.getElem_mem hi)⟩

/-- the stand after what was made -/
def after1 (L : Tx) (c : Cond) (s : Stand) : Tx → Stand
  | [] => s
  | x :: _ => nextStand L c s x

def next (P : Plan) (s : Spot) (c : Nat) : Spot :=
  ⟨(turn P.R1 P.L s.a c).1, after1 P.L P.q s.x (turn P.R1 P.L s.a c).2, (turn P.R2 P.L s.b c).1, after1 P.L P.c s.y (turn P.R2 P.L s.b c).2⟩

def first (P : Plan) : Spot := ⟨0, firstStand P.q, 0, firstStand P.c⟩

def isSpot (P : Plan) (s : Spot) : Bool :=
  ((decide (0 ≤ s.a) && decide (s.a < (P.R1.length : Int))) && (decide (0 ≤ s.b) && decide (s.b < (P.R2.length : Int)))) && (okStand P.q s.x && okStand P.c s.y)

theorem isSpot_iff {P : Plan} {s : Spot} : isSpot P s = true ↔ ((0 ≤ s.a ∧ s.a < (P.R1.length : Int)) ∧ (0 ≤ s.b ∧ s.b < (P.R2.length : Int))) ∧ (okStand P.q s.x = true ∧ okStand P.c s.y = true) := by
  unfold isSpot
  simp only [Bool.and_eq_true, decide_eq_true_eq]

theorem after1_ok {L : Tx} {c : Cond} {s : Stand} (o : Tx) (h : okStand c s = true) : okStand c (after1 L c s o) = true := by
  cases o with
  | nil => exact h
  | cons x r => exact ok_next L x h

theorem isSpot_first {P : Plan} (h : OkPlan P) : isSpot P (first P) = true := by
  have a := h.R1.1
  have b := h.R2.1
  refine isSpot_iff.mpr ⟨⟨⟨Int.le_refl _, ?_⟩, Int.le_refl _, ?_⟩, ok_first _, ok_first _⟩
  · show (0 : Int) < _; omega
  · show (0 : Int) < _; omega

theorem isSpot_next {P : Plan} (h : OkPlan P) {s : Spot} {c : Nat} (hs : isSpot P s = true) (hc : c ∈ P.L) : isSpot P (next P s c) = true := by
  obtain ⟨⟨⟨a1, a2⟩, b1, b2⟩, x1, x2⟩ := isSpot_iff.mp hs
  obtain ⟨_, _, _, t1⟩ := turn_at h.R1 a1 a2 hc
  obtain ⟨_, _, _, t2⟩ := turn_at h.R2 b1 b2 hc
  exact isSpot_iff.mpr ⟨⟨t1.1, t2.1⟩, after1_ok _ x1, after1_ok _ x2⟩

/-- the spot has the form that goes with the plan -/
def fitsSpot (P : Plan) (s : Spot) : Prop := fits P.q s.x ∧ fits P.c s.y

theorem fits_isSpot {P : Plan} (h : OkPlan P) {s : Spot} (hs : isSpot P s = true) : fitsSpot P s := by
  obtain ⟨_, x1, x2⟩ := isSpot_iff.mp hs
  exact ⟨fits_of_ok h.q x1, fits_of_ok h.c x2⟩

def found (P : Plan) (s : Spot) : Bool := met P.q s.x
def wished (P : Plan) (s : Spot) : Bool := met P.c s.y

def closed (P : Plan) (ss : List Spot) : Bool :=
  (ss.all (isSpot P) && decide (first P ∈ ss)) && ss.all fun s => P.L.all fun c => decide (next P s c ∈ ss)

def spotOf (P : Plan) (v : Tx) : Spot := v.foldl (next P) (first P)

def isValue (L v : Tx) : Bool := v.all fun c => decide (c ∈ L)

def exactShows (P : Plan) (ss : List Spot) : Bool := closed P ss && ss.all fun s => found P s == wished P s
def moreShows (P : Plan) (ss : List Spot) (v : Tx) : Bool :=
  ((isValue P.L v && closed P ss) && (found P (spotOf P v) && !wished P (spotOf P v))) && ss.all fun s => found P s || !wished P s
def missesShows (P : Plan) (v : Tx) : Bool := isValue P.L v && (wished P (spotOf P v) && !found P (spotOf P v))

abbrev Kind := Bool × Bool
def kind (P : Plan) (s : Spot) : Kind := (found P s, wished P s)
def closedK (P : Plan) (ss : List Spot) (ks : List Kind) : Bool := closed P ss && ss.all fun s => decide (kind P s ∈ ks)

def same2 : List Kind := [(true, true), (false, false)]
def same3 : List Kind := [(true, true), (false, false), (true, false)]

theorem exact_due (P : Plan) (ss : List Spot) : exactShows P ss = closedK P ss same2 := by
  unfold exactShows closedK
  congr 1
  congr 1
  funext s
  unfold kind same2
  cases found P s <;> cases wished P s <;> decide
theorem more_all (P : Plan) (ss : List Spot) : (ss.all fun s => found P s || !wished P s) = ss.all fun s => decide (kind P s ∈ same3) := by
  congr 1
  funext s
  unfold kind same3
  cases found P s <;> cases wished P s <;> decide
theorem more_due {P : Plan} {ss : List Spot} {v : Tx} (h : isValue P.L v = true) : moreShows P ss v = (decide (kind P (spotOf P v) = (true, false)) && closedK P ss same3) := by
  unfold moreShows closedK
  rw [h, more_all]
  unfold kind
  generalize (ss.all fun s => decide ((found P s, wished P s) ∈ same3)) = d
  generalize closed P ss = e
  generalize found P (spotOf P v) = a
  generalize wished P (spotOf P v) = b
  cases a <;> cases b <;> cases d <;> cases e <;> rfl
theorem misses_due {P : Plan} {v : Tx} (h : isValue P.L v = true) : missesShows P v = decide (kind P (spotOf P v) = (false, true)) := by
  unfold missesShows
  rw [h]
  unfold kind
  generalize found P (spotOf P v) = a
  generalize wished P (spotOf P v) = b
  cases a <;> cases b <;> rfl
theorem more_bad {P : Plan} {ss : List Spot} {v : Tx} (h : isValue P.L v = false) : moreShows P ss v = false := by
  unfold moreShows; rw [h]; rfl
theorem misses_bad {P : Plan} {v : Tx} (h : isValue P.L v = false) : missesShows P v = false := by
  unfold missesShows; rw [h]; rfl
end K5

set_option Elab.async false
set_option linter.all false
set_option maxRecDepth 100000
set_option maxHeartbeats 4000000
/-! My own short forms over the layer: a promise without an exception (Sq), a def that may be called by its name (Cl), a method of a slotted class (Ml), a class that is made (Ck). -/
namespace K5
open PySem PySem.Spec PyProof.Rows L2

abbrev Sq := List V → Hp → VK → Prop
abbrev ofSq (q : Sq) : Sp := fun vs H Q _ => q vs H Q

def sq1 (p : V → Hp → VK → Prop) : Sq := fun vs H Q => match vs with | [a] => p a H Q | _ => False
def sq2 (p : V → V → Hp → VK → Prop) : Sq := fun vs H Q => match vs with | [a, b] => p a b H Q | _ => False
def sq3 (p : V → V → V → Hp → VK → Prop) : Sq := fun vs H Q => match vs with | [a, b, c] => p a b c H Q | _ => False
def sq4 (p : V → V → V → V → Hp → VK → Prop) : Sq := fun vs H Q => match vs with | [a, b, c, d] => p a b c d H Q | _ => False
def sq5 (p : V → V → V → V → V → Hp → VK → Prop) : Sq := fun vs H Q => match vs with | [a, b, c, d, e] => p a b c d e H Q | _ => False

theorem sq1_inv {p : V → Hp → VK → Prop} : ∀ {vs : List V} {H : Hp} {Q : VK}, sq1 p vs H Q → ∃ a, vs = [a] ∧ p a H Q
  | [a], _, _, h => ⟨a, rfl, h⟩
  | [], _, _, h => h.elim
  | _ :: _ :: _, _, _, h => h.elim
theorem sq2_inv {p : V → V → Hp → VK → Prop} : ∀ {vs : List V} {H : Hp} {Q : VK}, sq2 p vs H Q → ∃ a b, vs = [a, b] ∧ p a b H Q
  | [a, b], _, _, h => ⟨a, b, rfl, h⟩
  | [], _, _, h => h.elim
  | [_], _, _, h => h.elim
  | _ :: _ :: _ :: _, _, _, h => h.elim
theorem sq3_inv {p : V → V → V → Hp → VK → Prop} : ∀ {vs : List V} {H : Hp} {Q : VK}, sq3 p vs H Q → ∃ a b c, vs = [a, b, c] ∧ p a b c H Q
  | [a, b, c], _, _, h => ⟨a, b, c, rfl, h⟩
  | [], _, _, h => h.elim
  | [_], _, _, h => h.elim
  | [_, _], _, _, h => h.elim
  | _ :: _ :: _ :: _ :: _, _, _, h => h.elim
theorem sq4_inv {p : V → V → V → V → Hp → VK → Prop} : ∀ {vs : List V} {H : Hp} {Q : VK}, sq4 p vs H Q → ∃ a b c d, vs = [a, b, c, d] ∧ p a b c d H Q
  | [a, b, c, d], _, _, h => ⟨a, b, c, d, rfl, h⟩
  | [], _, _, h => h.elim
  | [_], _, _, h => h.elim
  | [_, _], _, _, h => h.elim
  | [_, _, _], _, _, h => h.elim
  | _ :: _ :: _ :: _ :: _ :: _, _, _, h => h.elim
theorem sq5_inv {p : V → V → V → V → V → Hp → VK → Prop} : ∀ {vs : List V} {H : Hp} {Q : VK}, sq5 p vs H Q → ∃ a b c d e, vs = [a, b, c, d, e] ∧ p a b c d e H Q
  | [a, b, c, d, e], _, _, h => ⟨a, b, c, d, e, rfl, h⟩
  | [], _, _, h => h.elim
  | [_], _, _, h => h.elim
  | [_, _], _, _, h => h.elim
  | [_, _, _], _, _, h => h.elim
  | [_, _, _, _], _, _, h => h.elim
  | _ :: _ :: _ :: _ :: _ :: _ :: _, _, _, h => h.elim

section
variable (P : Program) (w : World) (K : PySem.W.Frag) (mg : Str → Option Value) (base : Heap)
/-- a def that may be called by its name -/
structure Cl (k : Nat) (x : Str) (q : Sq) : Prop where
  ex : ∃ (f : Addr) (fd : FuncData) (ps : List Str), FnOk P w K mg base CX0 k f fd ps (ofSq q) ∧ mg x = some (.ref f) ∧ PySem.W.keepIn K (.ref f) = true ∧ Binds K fd ps []
/-- a method of the slotted class at C -/
structure Ml (k : Nat) (C : Addr) (m : Str) (q : Sq) : Prop where
  c : SlX.SCls K C
  ex : ∃ g, Meth K C m g ∧ FnR P w K mg base CX0 k g (ofSq q)
/-- a class that is made by its name; q: its __init__ -/
structure Ck (k : Nat) (x : Str) (C : Addr) (q : Sq) : Prop where
  ex : ∃ (f : Addr) (fd : FuncData) (ps : List Str), Mk K C f ∧ FnOk P w K mg base CX0 k f fd ps (ofSq q) ∧ mg x = some (.ref C) ∧ Binds K fd ps []
/-- a property of the slotted class at C -/
structure Pl (k : Nat) (C : Addr) (m : Str) (q : Sq) : Prop where
  c : SlX.SCls K C
  ex : ∃ p g, PySem.W.findIn K (.ref C) m = some (some (.ref p)) ∧ PySem.W.specialIn K (.ref p) "__get__" = some (some (.builtin "property.__get__")) ∧ PySem.W.takesIn K (.ref p) = some true ∧
    (∃ rest, PySem.W.recIn K p "property" = some (.ref g :: rest)) ∧ FnR P w K mg base CX0 k g (ofSq q)
end

/-- the call's reading -/
def tCl (q : Sq) (t : TA) : TE := fun σ H Q => t σ H fun vs H1 => q vs H1 Q
/-- a method's -/
def tMl (C : Addr) (q : Sq) (ta : TE) (t : TA) : TE := fun σ H Q => ta σ H fun x H1 => ∃ a dx vs, x = .ref a ∧ SlX.Slt H1 a C dx vs ∧ t σ H1 fun ws H2 => q (.ref a :: ws) H2 Q
/-- a new instance's -/
def tCk (C : Addr) (q : Sq) (t : TA) : TE := fun σ H Q => t σ H fun vs H1 => ∀ x dx, H1 x = none → H1 dx = none → dx ≠ x → q (.ref x :: vs) (upd (upd H1 dx (.own x)) x (.ins C dx [])) fun v H2 => v = .non ∧ Q (.ref x) H2
/-- a property's -/
def tPl (C : Addr) (q : Sq) (ta : TE) : TE := fun σ H Q => ta σ H fun x H1 => ∃ a dx vs, x = .ref a ∧ SlX.Slt H1 a C dx vs ∧ q [.ref a] H1 Q

section
variable {X : Cx} {k j : Nat} {C : Addr} {x m : Str} {q : Sq} {p pos apos : Pos} {e o : Expr} {es : List Expr} {ta : TE} {t : TA}
theorem pe_cl (c : Cl X.prog X.w X.K X.mg X.base k x q) (hr : Room j X.A) (ha : PA X (e :: es) t) (hk : k ≤ j := by decide) (hg : Gl X x := by rfl) (hdb : (x == ("__debug__" : Str)) = false := by decide)
    (he : starEach (e :: es) X.env = (false, eval e X.env) :: starEach es X.env := by rfl) (hpl : (backTo pos (starEach es X.env)).any (·.1) = false := by rfl) : PE X (.Call (.Name x p) (e :: es) [] pos) (tCl q t) := by
  obtain ⟨f, fd, ps, F, hm, kp, b⟩ := c.ex
  have h := pe_call (p := p) (pos := pos) F (hr.mono hk) hg hm kp b .nil pass0 ha hdb he hpl
  refine ⟨fun pins s σ H Q I hq => h.run pins s σ H Q I ?_⟩
  have e1 : (fun (vs : List V) (H1 : Hp) => ofSq q (vs ++ []) H1 Q E0) = fun vs H1 => q vs H1 Q := by
    funext vs H1
    rw [List.append_nil]
  show t σ H fun vs H1 => ofSq q (vs ++ []) H1 Q E0
  rw [e1]
  exact hq
theorem pe_ck (c : Ck X.prog X.w X.K X.mg X.base k x C q) (hr : Room j X.A) (ha : PA X (e :: es) t) (hk : k + 1 ≤ j := by decide) (hg : Gl X x := by rfl) (hdb : (x == ("__debug__" : Str)) = false := by decide)
    (he : starEach (e :: es) X.env = (false, eval e X.env) :: starEach es X.env := by rfl) (hpl : (backTo pos (starEach es X.env)).any (·.1) = false := by rfl) : PE X (.Call (.Name x p) (e :: es) [] pos) (tCk C q t) := by
  obtain ⟨f, fd, ps, M, F, hm, b⟩ := c.ex
  have h := pe_make (p := p) (pos := pos) M F (hr.mono hk) hg hm b .nil pass0 ha hdb he hpl
  refine ⟨fun pins s σ H Q I hq => h.run pins s σ H Q I ?_⟩
  have e1 : (fun (vs : List V) (H1 : Hp) => ∀ x dx, H1 x = none → H1 dx = none → dx ≠ x → ofSq q (.ref x :: (vs ++ [])) (upd (upd H1 dx (.own x)) x (.ins C dx [])) (fun v H2 => v = .non ∧ Q (.ref x) H2) E0) =
      fun vs H1 => ∀ x dx, H1 x = none → H1 dx = none → dx ≠ x → q (.ref x :: vs) (upd (upd H1 dx (.own x)) x (.ins C dx [])) fun v H2 => v = .non ∧ Q (.ref x) H2 := by
    funext vs H1
    rw [List.append_nil]
  show t σ H fun vs H1 => ∀ x dx, H1 x = none → H1 dx = none → dx ≠ x → ofSq q (.ref x :: (vs ++ [])) (upd (upd H1 dx (.own x)) x (.ins C dx [])) (fun v H2 => v = .non ∧ Q (.ref x) H2) E0
  rw [e1]
  exact hq
theorem pe_ml {pl : Sem Bool} (c : Ml X.prog X.w X.K X.mg X.base k C m q) (hr : Room j X.A) (he : PE X o ta) (ha : PA X (e :: es) t) (hk : k ≤ j := by decide)
    (hst : starEach (e :: es) X.env = (false, eval e X.env) :: starEach es X.env := by rfl) (hpl : (backTo pos (starEach es X.env)).any (·.1) = false := by rfl)
    (ht : eval (.Call (.Attribute o m apos) (e :: es) [] pos) X.env = (do
      let ov ← eval o X.env
      standAt apos.atName
      let (f, first) ← holding [ov] (getMethod ov m pl)
      callWith pos f first (backTo pos (starEach (e :: es) X.env)) (backToKw pos (keywordEach [] X.env))) := by rfl) :
    PE X (.Call (.Attribute o m apos) (e :: es) [] pos) (tMl C q ta t) := by
  obtain ⟨g, M, F⟩ := c.ex
  have h := SlX.pe_methSl (pl := pl) he c.c M F (hr.mono hk) pass0 ha hst hpl ht
  refine ⟨fun pins s σ H Q I hq => h.run pins s σ H Q I ?_⟩
  have e1 : (fun (x : V) (H1 : Hp) => ∃ a dx vs, x = .ref a ∧ SlX.Slt H1 a C dx vs ∧ t σ H1 fun ws H2 => ofSq q (x :: ws) H2 Q E0) =
      fun x H1 => ∃ a dx vs, x = .ref a ∧ SlX.Slt H1 a C dx vs ∧ t σ H1 fun ws H2 => q (.ref a :: ws) H2 Q := by
    funext x H1
    refine propext ⟨fun ⟨a, dx, vs, ex, h1, h2⟩ => ?_, fun ⟨a, dx, vs, ex, h1, h2⟩ => ?_⟩
    · subst ex; exact ⟨a, dx, vs, rfl, h1, h2⟩
    · subst ex; exact ⟨a, dx, vs, rfl, h1, h2⟩
  show ta σ H fun x H1 => ∃ a dx vs, x = .ref a ∧ SlX.Slt H1 a C dx vs ∧ t σ H1 fun ws H2 => ofSq q (x :: ws) H2 Q E0
  rw [e1]
  exact hq
theorem pe_ml0 {pl : Sem Bool} (c : Ml X.prog X.w X.K X.mg X.base k C m q) (hr : Room j X.A) (he : PE X o ta) (hk : k ≤ j := by decide)
    (ht : eval (.Call (.Attribute o m apos) [] [] pos) X.env = (do
      let ov ← eval o X.env
      standAt apos.atName
      let (f, first) ← holding [ov] (getMethod ov m pl)
      callWith pos f first (backTo pos (starEach [] X.env)) (backToKw pos (keywordEach [] X.env))) := by rfl) :
    PE X (.Call (.Attribute o m apos) [] [] pos) (tMl C q ta tNil) := by
  obtain ⟨g, M, F⟩ := c.ex
  have h := SlX.pe_methSl0 (pl := pl) he c.c M F (hr.mono hk) pass0 ht
  refine ⟨fun pins s σ H Q I hq => h.run pins s σ H Q I ?_⟩
  have e1 : (fun (x : V) (H1 : Hp) => ∃ a dx vs, x = .ref a ∧ SlX.Slt H1 a C dx vs ∧ ofSq q [x] H1 Q E0) =
      fun x H1 => ∃ a dx vs, x = .ref a ∧ SlX.Slt H1 a C dx vs ∧ q [.ref a] H1 Q := by
    funext x H1
    refine propext ⟨fun ⟨a, dx, vs, ex, h1, h2⟩ => ?_, fun ⟨a, dx, vs, ex, h1, h2⟩ => ?_⟩
    · subst ex; exact ⟨a, dx, vs, rfl, h1, h2⟩
    · subst ex; exact ⟨a, dx, vs, rfl, h1, h2⟩
  show ta σ H fun x H1 => ∃ a dx vs, x = .ref a ∧ SlX.Slt H1 a C dx vs ∧ ofSq q [x] H1 Q E0
  rw [e1]
  exact hq
theorem pe_pl (c : Pl X.prog X.w X.K X.mg X.base k C m q) (hr : Room j X.A) (he : PE X o ta) (hk : k + 1 ≤ j := by decide) (hb : attributeBase o m X.env (eval o X.env) = eval o X.env := by rfl) : PE X (.Attribute o m pos) (tPl C q ta) :=
  let ⟨_, _, h1, h2, h3, h4, F⟩ := c.ex
  SlX.pe_propSl (E := E0) he c.c h1 h2 h3 h4 F (hr.mono hk) (fun _ _ _ _ z => z) hb
end

/-! ### a def keeps its promise -/
section
variable {P : Program} {w : World} {K : PySem.W.Frag} {mg : Str → Option Value} {base : Heap}
abbrev FnP (K : PySem.W.Frag) (x qual : Str) (st : Stmt) (f : Addr) (fd : FuncData) : Prop := FunD K x qual (defArgs st) (defBody st) (defScope st) [] [] f fd
abbrev Bnd (x qual : Str) (st : Stmt) (ps : List Str) : Prop := ∀ (kV doc pm : Value) (an : Option Addr) (cdv ct : Value) (us : List Value), us.length = ps.length →
  bindArgs (PySem.W.fnOf x qual (defArgs st) (defBody st) (defScope st) .none kV doc pm an cdv ct) ⟨us, []⟩ = pure (ps.zip us)
/-- what is to be shown of a body -/
abbrev Bd (P : Program) (w : World) (K : PySem.W.Frag) (mg : Str → Option Value) (base : Heap) (N : List Str) (qual : Str) (st : Stmt) (f : Addr) (k : Nat) (vs : List V) (H : Hp) (Q : VK) : Prop :=
  ∀ (cdv : Value) (A : Around) (outer : List Env) (s : Shared), Room k (A.deeper (envOfC qual (defScope st) s.heap.objs.size f cdv)) →
    ∃ t, PSs (cxOf CX0 P w K mg base N qual (defScope st) f cdv A outer s H E0).nox (defBody st) t ∧ t { nx := fun _ H' => Q .non H', rt := Q } (start N vs) H
theorem fn_of_body {x qual : Str} {st : Stmt} {f : Addr} {fd : FuncData} {N ps : List Str} {k : Nat} {q : Sq} (F : FnP K x qual st f fd) (S : FnScope N ps (defScope st)) (len : ∀ vs H Q, q vs H Q → vs.length = ps.length)
    (body : ∀ vs H Q, q vs H Q → Bd P w K mg base N qual st f k vs H Q) : FnOk P w K mg base CX0 (k + 1) f fd ps (ofSq q) := by
  refine FunD.ok F S (fun vs H Q E h => len vs H Q h) fun cdv A outer s H vs Q E hr h => ?_
  obtain ⟨t, h1, h2⟩ := body vs H Q h cdv A outer s hr
  exact ⟨t, PSs.nox ⟨h1.run⟩, h2⟩
theorem cl_of {x : Str} {st : Stmt} {f : Addr} {fd : FuncData} {N ps : List Str} {k : Nat} {q : Sq} (F : FnP K x x st f fd) (g : mg x = some (.ref f)) (b : Bnd x x st ps) (S : FnScope N ps (defScope st)) (len : ∀ vs H Q, q vs H Q → vs.length = ps.length)
    (body : ∀ vs H Q, q vs H Q → Bd P w K mg base N x st f k vs H Q) : Cl P w K mg base (k + 1) x q :=
  ⟨f, fd, ps, fn_of_body F S len body, g, F.kp, FunD.bindsN F b⟩
theorem fnr_of {x qual : Str} {st : Stmt} {f : Addr} {fd : FuncData} {N ps : List Str} {k : Nat} {q : Sq} (F : FnP K x qual st f fd) (b : Bnd x qual st ps) (S : FnScope N ps (defScope st)) (len : ∀ vs H Q, q vs H Q → vs.length = ps.length)
    (body : ∀ vs H Q, q vs H Q → Bd P w K mg base N qual st f k vs H Q) : FnR P w K mg base CX0 (k + 1) f (ofSq q) :=
  (FnOk.raw (fn_of_body F S len body) (FunD.bindsN F b) .nil).imp fun vs H Q E h => by
    show q (vs ++ []) H Q
    rw [List.append_nil]
    exact h
end
end K5

set_option Elab.async false
set_option linter.all false
set_option maxRecDepth 100000
set_option maxHeartbeats 4000000
/-! How the data stand in the heap: texts, stands, spots, machines' rows, conditions, plans. -/
namespace K5
open PySem PySem.Spec PyProof.Rows L2

/-! ### texts -/
def tx (l : Tx) : Str := ⟨l.toArray⟩
theorem tx_cps (l : Tx) : (tx l).cps.toList = l := by show l.toArray.toList = l; simp
theorem tx_len (l : Tx) : (tx l).length = l.length := by show l.toArray.size = l.length; simp
theorem tx_inj {a b : Tx} (h : tx a = tx b) : a = b := by rw [← tx_cps a, ← tx_cps b, h]
theorem tx_eq {a b : Tx} : tx a = tx b ↔ a = b := ⟨tx_inj, fun h => by rw [h]⟩
theorem tx_app (a b : Tx) : tx a ++ tx b = tx (a ++ b) := by
  show (⟨a.toArray ++ b.toArray⟩ : Str) = ⟨(a ++ b).toArray⟩
  rw [List.append_toArray]
theorem dec_tx (a b : Tx) : decide (V.str (tx a) = V.str (tx b)) = decide (a = b) := by
  by_cases h : a = b
  · subst h; simp
  · rw [decide_eq_false h]
    exact decide_eq_false fun q => h (tx_inj (V.str.inj q))
theorem tx_of (z : Str) : ∃ l, z = tx l := ⟨z.cps.toList, by show z = ⟨z.cps.toList.toArray⟩; simp⟩
theorem tx_one (c : Nat) : (⟨#[c]⟩ : Str) = tx [c] := rfl
theorem sz_small {n : Nat} (h : n ≤ 100000) : n ≤ sizeLine := Nat.le_trans h (by decide)
theorem sz_smallT {n : Nat} (h : n < 100000) : n < sizeLine := Nat.lt_of_lt_of_le h (by decide)

/-! ### what stands still -/
def TS (K : PySem.W.Frag) (H H' : Hp) : Prop := ∀ a xs, SqT K H a xs → SqT K H' a xs
variable {K : PySem.W.Frag} {H H' H1 H2 : Hp} {v : V}
theorem TS.refl : TS K H H := fun _ _ h => h
theorem TS.trans (a : TS K H H1) (b : TS K H1 H2) : TS K H H2 := fun x xs h => b x xs (a x xs h)
theorem rd_same {a : Addr} {u : HO} (e : Same H H') (h : Rd H a u) : Rd H' a u := h.elim (fun h => .inl (e _ _ h)) fun ⟨o, h⟩ => .inr ⟨o, e _ _ h⟩
theorem TS.of (e : Same H H') : TS K H H' := fun _ _ h => h.elim (fun h => .inl (rd_same e h)) .inr
theorem SqT.same {a : Addr} {xs : List V} (e : Same H H') (h : SqT K H a xs) : SqT K H' a xs := TS.of e a xs h
/-- a change at an address that holds no tuple -/
theorem TS.put {p : Addr} {o : HO} (h : ∀ xs, ¬ Rd H p (.tup xs)) : TS K H (upd H p o) := fun a xs q => q.elim (fun q => by
  have ne : a ≠ p := fun z => by subst z; exact h xs q
  refine .inl ?_
  rcases q with q | ⟨ob, q⟩
  · exact .inl (by rw [upd_ne ne]; exact q)
  · exact .inr ⟨ob, by rw [upd_ne ne]; exact q⟩) .inr
theorem noTup_lst {p : Addr} {ys : List V} (h : H p = some (.lst ys)) : ∀ xs, ¬ Rd H p (.tup xs) := fun xs q => by
  rcases q with q | ⟨o, q⟩
  · rw [h] at q; cases q
  · rw [h] at q; cases q
theorem noTup_ext {p : Addr} {φ : Heap → Prop} (h : H p = some (.ext φ)) : ∀ xs, ¬ Rd H p (.tup xs) := fun xs q => by
  rcases q with q | ⟨o, q⟩
  · rw [h] at q; cases q
  · rw [h] at q; cases q
theorem noTup_none {p : Addr} (h : H p = none) : ∀ xs, ¬ Rd H p (.tup xs) := fun xs q => by
  rcases q with q | ⟨o, q⟩
  · rw [h] at q; cases q
  · rw [h] at q; cases q
/-- a new thing -/
theorem Same.new {p : Addr} {o : HO} (h : H p = none) : Same H (upd H p o) := fun b u e => by rw [upd_ne (ne_of_none e h)]; exact e
/-- a thing of which the elder heap knows nothing is changed -/
theorem Same.put {p : Addr} {o : HO} (e : Same H H') (h : H p = none) : Same H (upd H' p o) := fun b u q => by rw [upd_ne (ne_of_none q h)]; exact e _ _ q

/-! ### stands, spots -/
def StAt (K : PySem.W.Frag) (H : Hp) (v : V) : Stand → Prop
  | .n i => v = .int i
  | .t xs => ∃ a, v = .ref a ∧ SqT K H a (xs.map V.int)
def SpotAt (K : PySem.W.Frag) (H : Hp) (v : V) (s : Spot) : Prop := ∃ a v1 v3, v = .ref a ∧ SqT K H a [.int s.a, v1, .int s.b, v3] ∧ StAt K H v1 s.x ∧ StAt K H v3 s.y
theorem StAt.mono (t : TS K H H') : ∀ {s : Stand}, StAt K H v s → StAt K H' v s
  | .n _, h => h
  | .t _, ⟨a, e, h⟩ => ⟨a, e, t _ _ h⟩
theorem SpotAt.mono (t : TS K H H') {s : Spot} (h : SpotAt K H v s) : SpotAt K H' v s :=
  let ⟨a, v1, v3, e, q, h1, h3⟩ := h
  ⟨a, v1, v3, e, t _ _ q, h1.mono t, h3.mono t⟩

/-- as data -/
def sdS : Stand → PyData
  | .n i => .int i
  | .t xs => .tuple (xs.map .int)
def sd (s : Spot) : PyData := .tuple [.int s.a, sdS s.x, .int s.b, sdS s.y]
theorem dp_ints : ∀ xs : List Int, DpAll K H (xs.map V.int) (xs.map PyData.int)
  | [] => .nil
  | x :: xs => .cons (.int x) (dp_ints xs)
theorem StAt.dp : ∀ {s : Stand}, StAt K H v s → Dp K H v (sdS s)
  | .n i, h => by cases (show v = .int i from h); exact .int i
  | .t xs, ⟨a, e, h⟩ => by subst e; exact .tup h (dp_ints xs)
theorem SpotAt.dp {s : Spot} (h : SpotAt K H v s) : Dp K H v (sd s) := by
  obtain ⟨a, v1, v3, rfl, q, h1, h3⟩ := h
  exact .tup q (.cons (.int _) (.cons h1.dp (.cons (.int _) (.cons h3.dp .nil))))
theorem eqv_ints : ∀ xs ys : List Int, PyData.eqvAll (xs.map PyData.int) (ys.map PyData.int) = decide (xs = ys)
  | [], [] => by simp [PyData.eqvAll]
  | [], _ :: _ => by simp [PyData.eqvAll]
  | _ :: _, [] => by simp [PyData.eqvAll]
  | x :: xs, y :: ys => by
    rw [List.map_cons, List.map_cons, PyData.eqvAll, eqv_ints xs ys]
    by_cases h : x = y
    · subst h; simp [PyData.eqv]
    · simp [PyData.eqv, h]
theorem eqv_sdS : ∀ s t : Stand, PyData.eqv (sdS s) (sdS t) = decide (s = t)
  | .n i, .n j => by
    show PyData.eqv (.int i) (.int j) = _
    by_cases h : i = j
    · subst h; simp [PyData.eqv]
    · simp [PyData.eqv, h]
  | .n i, .t xs => by show PyData.eqv (.int i) (.tuple _) = _; simp [PyData.eqv]
  | .t xs, .n i => by show PyData.eqv (.tuple _) (.int i) = _; simp [PyData.eqv]
  | .t xs, .t ys => by
    show PyData.eqv (.tuple (xs.map PyData.int)) (.tuple (ys.map PyData.int)) = _
    rw [PyData.eqv, eqv_ints]
    by_cases h : xs = ys
    · subst h; simp
    · simp [h]
theorem eqv_sd (s t : Spot) : PyData.eqv (sd s) (sd t) = decide (s = t) := by
  obtain ⟨a, x, b, y⟩ := s
  obtain ⟨a', x', b', y'⟩ := t
  show PyData.eqv (.tuple [.int a, sdS x, .int b, sdS y]) (.tuple [.int a', sdS x', .int b', sdS y']) = _
  have e1 : PyData.eqv (.int a) (.int a') = decide (a = a') := eqv_sdS (.n a) (.n a') |>.trans (by simp)
  have e2 : PyData.eqv (.int b) (.int b') = decide (b = b') := eqv_sdS (.n b) (.n b') |>.trans (by simp)
  rw [PyData.eqv, PyData.eqvAll, PyData.eqvAll, PyData.eqvAll, PyData.eqvAll, PyData.eqvAll, e1, e2, eqv_sdS, eqv_sdS]
  by_cases h1 : a = a' <;> by_cases h2 : x = x' <;> by_cases h3 : b = b' <;> by_cases h4 : y = y' <;> simp [h1, h2, h3, h4]
theorem lay_ints : ∀ xs : List Int, PyData.canLayAll0 (xs.map PyData.int) = true
  | [] => by simp [PyData.canLayAll0]
  | x :: xs => by simp [PyData.canLayAll0, PyData.canLay0, lay_ints xs]
theorem dep_ints : ∀ xs : List Int, PyData.depthAll (xs.map PyData.int) = 0
  | [] => by simp [PyData.depthAll]
  | x :: xs => by simp [PyData.depthAll, PyData.depth, dep_ints xs]
theorem lay_sdS : ∀ s : Stand, (sdS s).canLay0 = true
  | .n i => by simp [sdS, PyData.canLay0]
  | .t xs => by show (PyData.tuple _).canLay0 = true; rw [PyData.canLay0, lay_ints]
theorem dep_sdS : ∀ s : Stand, (sdS s).depth ≤ 1
  | .n i => by simp [sdS, PyData.depth]
  | .t xs => by show (PyData.tuple _).depth ≤ 1; rw [PyData.depth, dep_ints]; omega
theorem lay_sd (s : Spot) : (sd s).canLay0 = true := by simp [sd, PyData.canLay0, PyData.canLayAll0, lay_sdS]
theorem dep_sd (s : Spot) : (sd s).depth ≤ 2 := by
  have h1 := dep_sdS s.x
  have h2 := dep_sdS s.y
  simp only [sd, PyData.depth, PyData.depthAll]
  omega
theorem shaped_sd (s : Spot) : SeqAt.shaped (sd s) = true := by
  have := dep_sd s
  unfold SeqAt.shaped
  rw [lay_sd, decide_eq_true (by omega)]
  rfl
theorem shaped_sdS (s : Stand) : SeqAt.shaped (sdS s) = true := by
  have := dep_sdS s
  unfold SeqAt.shaped
  rw [lay_sdS, decide_eq_true (by omega)]
  rfl
/-- a list of spots, perhaps with the empty tuple behind them -/
def dds (ss : List Spot) (e : Bool) : List PyData := ss.map sd ++ (if e then [.tuple []] else [])
theorem lay_dds : ∀ (ss : List Spot) (e : Bool), PyData.canLayAll0 (dds ss e) = true
  | [], e => by cases e <;> simp [dds, PyData.canLayAll0, PyData.canLay0]
  | s :: ss, e => by
    have h := lay_dds ss e
    show PyData.canLayAll0 (sd s :: dds ss e) = true
    rw [PyData.canLayAll0, lay_sd, h]
    rfl
theorem dep_dds : ∀ (ss : List Spot) (e : Bool), PyData.depthAll (dds ss e) ≤ 2
  | [], e => by cases e <;> simp [dds, PyData.depthAll, PyData.depth]
  | s :: ss, e => by
    have h := dep_dds ss e
    have h2 := dep_sd s
    show PyData.depthAll (sd s :: dds ss e) ≤ 2
    rw [PyData.depthAll]
    omega
theorem shaped_dds (ss : List Spot) (e : Bool) : SeqAt.shaped (.list (dds ss e)) = true := by
  have := dep_dds ss e
  unfold SeqAt.shaped
  rw [PyData.canLay0, lay_dds, PyData.depth, decide_eq_true (by omega)]
  rfl
theorem eqv_dds : ∀ (ss ts : List Spot), PyData.eqvAll (dds ss false) (dds ts false) = decide (ss = ts)
  | [], [] => by simp [dds, PyData.eqvAll]
  | [], _ :: _ => by simp [dds, PyData.eqvAll]
  | _ :: _, [] => by simp [dds, PyData.eqvAll]
  | s :: ss, t :: ts => by
    show PyData.eqvAll (sd s :: dds ss false) (sd t :: dds ts false) = _
    rw [PyData.eqvAll, eqv_dds ss ts, eqv_sd]
    by_cases h : s = t
    · subst h; simp
    · simp [h]
theorem eqv_dds_more : ∀ (ss : List Spot), PyData.eqvAll (dds ss false) (dds ss true) = false
  | [] => by simp [dds, PyData.eqvAll]
  | s :: ss => by
    show PyData.eqvAll (sd s :: dds ss false) (sd s :: dds ss true) = _
    rw [PyData.eqvAll, eqv_dds_more ss]
    simp
theorem any_sd (ss : List Spot) (t : Spot) : ((dds ss false).any fun z => PyData.eqv z (sd t)) = decide (t ∈ ss) := by
  induction ss with
  | nil => simp [dds]
  | cons s ss ih =>
    show (PyData.eqv (sd s) (sd t) || (dds ss false).any fun z => PyData.eqv z (sd t)) = _
    rw [ih, eqv_sd]
    by_cases h : s = t
    · subst h; simp
    · have h' : ¬ t = s := fun e => h e.symm
      simp [h, h']

/-- as a key -/
def skS : Stand → NestedKey
  | .n i => .num i
  | .t xs => .tup (xs.map .num)
def sk (s : Spot) : NestedKey := .tup [.num s.a, skS s.x, .num s.b, skS s.y]
theorem map_num_inj : ∀ {xs ys : List Int}, xs.map NestedKey.num = ys.map NestedKey.num → xs = ys
  | [], [], _ => rfl
  | [], _ :: _, h => by cases h
  | _ :: _, [], h => by cases h
  | x :: xs, y :: ys, h => by
    rw [List.map_cons, List.map_cons] at h
    injection h with h1 h2
    injection h1 with h1
    rw [h1, map_num_inj h2]
theorem skS_inj : ∀ {s t : Stand}, skS s = skS t → s = t
  | .n i, .n j, h => by injection h with h; rw [h]
  | .n i, .t xs, h => by cases h
  | .t xs, .n i, h => by cases h
  | .t xs, .t ys, h => by
    have h' : NestedKey.tup (xs.map .num) = NestedKey.tup (ys.map .num) := h
    injection h' with h'
    rw [map_num_inj h']
theorem sk_inj {s t : Spot} (h : sk s = sk t) : s = t := by
  obtain ⟨a, x, b, y⟩ := s
  obtain ⟨a', x', b', y'⟩ := t
  have h' : NestedKey.tup [.num a, skS x, .num b, skS y] = NestedKey.tup [.num a', skS x', .num b', skS y'] := h
  injection h' with h'
  injection h' with h1 h'
  injection h' with h2 h'
  injection h' with h3 h'
  injection h' with h4 h'
  injection h1 with h1
  injection h3 with h3
  rw [h1, h3, skS_inj h2, skS_inj h4]
theorem depth_nums : ∀ xs : List Int, NestedKey.depthAll (xs.map NestedKey.num) = 0
  | [] => by simp [NestedKey.depthAll]
  | x :: xs => by simp [NestedKey.depthAll, NestedKey.depth, depth_nums xs]
theorem depth_skS : ∀ s : Stand, (skS s).depth ≤ 1
  | .n i => by simp [skS, NestedKey.depth]
  | .t xs => by show (NestedKey.tup _).depth ≤ 1; rw [NestedKey.depth, depth_nums]; omega
theorem depth_sk (s : Spot) : (sk s).depth ≤ 8 := by
  have h1 := depth_skS s.x
  have h2 := depth_skS s.y
  simp only [sk, NestedKey.depth, NestedKey.depthAll]
  omega
theorem key_ints {h : Heap} : ∀ {xs : List Int} {us : List Value}, Vals (xs.map V.int) us → NestedAll h (xs.map .num) us
  | [], us, r => by cases r; exact .nil
  | x :: xs, us, r => by
    rw [List.map_cons] at r
    cases r with
    | cons r t =>
      obtain ⟨k, rfl⟩ := r
      exact .cons (.int x k) (key_ints t)
section
variable {X : Cx} {pins : List (Addr × Obj)} {σ : L2.St} {s : Shared}
theorem StAt.key (I : Inv X pins σ H s) {u : Value} : ∀ {t : Stand}, StAt X.K H v t → RelV v u → NestedIs s.heap (skS t) u
  | .n i, h, r => by
    cases (show v = .int i from h)
    obtain ⟨k, rfl⟩ := r
    exact .int i k
  | .t xs, ⟨a, e, h⟩, r => by
    subst e
    cases (show u = Value.ref a from r)
    obtain ⟨its, rv, ⟨o, ho, hc, n, hd⟩, _⟩ := I.tuple h
    exact .tup ho hc hd (by rw [List.toList_toArray]; exact key_ints rv)
theorem SpotAt.key (I : Inv X pins σ H s) {a : Addr} {t : Spot} (h : SpotAt X.K H (.ref a) t) : (nestedKind X.prog X.w).is s.heap (sk t) a := by
  obtain ⟨b, v1, v3, e, q, h1, h3⟩ := h
  cases e
  obtain ⟨its, rv, ⟨o, ho, hc, n, hd⟩, _⟩ := I.tuple q
  refine ⟨.tup ho hc hd ?_, depth_sk t⟩
  rw [List.toList_toArray]
  cases rv with
  | cons r1 rv =>
    cases rv with
    | cons r2 rv =>
      cases rv with
      | cons r3 rv =>
        cases rv with
        | cons r4 rv =>
          cases rv
          obtain ⟨k1, rfl⟩ := r1
          obtain ⟨k3, rfl⟩ := r3
          exact .cons (.int _ k1) (.cons (h1.key I r2) (.cons (.int _ k3) (.cons (h3.key I r4) .nil)))
end

/-! ### conditions, rows, plans -/
def CondAt (K : PySem.W.Frag) (H : Hp) (v : V) : Cond → Prop
  | .eq p => ∃ a, v = .ref a ∧ SqT K H a [.str "equal", .str (tx p)]
  | .beg p => ∃ a, v = .ref a ∧ SqT K H a [.str "begins", .str (tx p)]
  | .bet p q => ∃ a, v = .ref a ∧ SqT K H a [.str "between", .str (tx p), .str (tx q)]
  | .like p => ∃ a, v = .ref a ∧ SqT K H a [.str "like", .str (tx p)]
theorem CondAt.mono (t : TS K H H') : ∀ {c : Cond}, CondAt K H v c → CondAt K H' v c
  | .eq _, ⟨a, e, h⟩ => ⟨a, e, t _ _ h⟩
  | .beg _, ⟨a, e, h⟩ => ⟨a, e, t _ _ h⟩
  | .bet _ _, ⟨a, e, h⟩ => ⟨a, e, t _ _ h⟩
  | .like _, ⟨a, e, h⟩ => ⟨a, e, t _ _ h⟩
def TurnAt (K : PySem.W.Frag) (H : Hp) (v : V) (t : Int × Tx) : Prop := ∃ a, v = .ref a ∧ SqT K H a [.int t.1, .str (tx t.2)]
def RowAt (K : PySem.W.Frag) (H : Hp) (v : V) (r : List (Int × Tx)) : Prop := ∃ a vs, v = .ref a ∧ SqT K H a vs ∧ Paired (TurnAt K H) vs r
def RowsAt (K : PySem.W.Frag) (H : Hp) (v : V) (R : Rows) : Prop := ∃ a vs, v = .ref a ∧ SqT K H a vs ∧ Paired (RowAt K H) vs R
theorem TurnAt.mono (t : TS K H H') {x : Int × Tx} (h : TurnAt K H v x) : TurnAt K H' v x := let ⟨a, e, q⟩ := h; ⟨a, e, t _ _ q⟩
theorem RowAt.mono (t : TS K H H') {x : List (Int × Tx)} (h : RowAt K H v x) : RowAt K H' v x := let ⟨a, vs, e, q, p⟩ := h; ⟨a, vs, e, t _ _ q, Paired.mapP p fun _ _ z => z.mono t⟩
theorem RowsAt.mono (t : TS K H H') {x : Rows} (h : RowsAt K H v x) : RowsAt K H' v x := let ⟨a, vs, e, q, p⟩ := h; ⟨a, vs, e, t _ _ q, Paired.mapP p fun _ _ z => z.mono t⟩
def PlanAt (K : PySem.W.Frag) (H : Hp) (v : V) (P : Plan) : Prop := ∃ a v1 v2 v3 v4, v = .ref a ∧ SqT K H a [.str (tx P.L), v1, v2, v3, v4] ∧ RowsAt K H v1 P.R1 ∧ CondAt K H v2 P.q ∧ RowsAt K H v3 P.R2 ∧ CondAt K H v4 P.c
theorem PlanAt.mono (t : TS K H H') {x : Plan} (h : PlanAt K H v x) : PlanAt K H' v x :=
  let ⟨a, v1, v2, v3, v4, e, q, h1, h2, h3, h4⟩ := h
  ⟨a, v1, v2, v3, v4, e, t _ _ q, h1.mono t, h2.mono t, h3.mono t, h4.mono t⟩
/-- items by place -/
theorem paired_get {α : Type} {R : V → α → Prop} : ∀ {vs : List V} {xs : List α} {i : Nat} {x : α}, Paired R vs xs → xs[i]? = some x → ∃ v, vs[i]? = some v ∧ R v x
  | _, _, _, _, .nil, e => by simp at e
  | _, _, 0, _, .cons r _, e => by simp at e; subst e; exact ⟨_, rfl, r⟩
  | _, _, i + 1, x, .cons _ t, e => by
    obtain ⟨v, h1, h2⟩ := paired_get (i := i) (x := x) t (by simpa using e)
    exact ⟨v, by simpa using h1, h2⟩
theorem paired_get' {α : Type} {R : V → α → Prop} : ∀ {vs : List V} {xs : List α} {i : Nat} {v : V}, Paired R vs xs → vs[i]? = some v → ∃ x, xs[i]? = some x ∧ R v x
  | _, _, _, _, .nil, e => by simp at e
  | _, _, 0, _, .cons r _, e => by simp at e; subst e; exact ⟨_, rfl, r⟩
  | _, _, i + 1, x, .cons _ t, e => by
    obtain ⟨v, h1, h2⟩ := paired_get' (i := i) (v := x) t (by simpa using e)
    exact ⟨v, by simpa using h1, h2⟩
theorem paired_app {α : Type} {R : V → α → Prop} : ∀ {vs ws : List V} {xs ys : List α}, Paired R vs xs → Paired R ws ys → Paired R (vs ++ ws) (xs ++ ys)
  | _, _, _, _, .nil, s => s
  | _, _, _, _, .cons r t, s => .cons r (paired_app t s)
theorem paired_take {α : Type} {R : V → α → Prop} : ∀ (n : Nat) {vs : List V} {xs : List α}, Paired R vs xs → Paired R (vs.take n) (xs.take n)
  | 0, _, _, _ => .nil
  | _ + 1, _, _, .nil => .nil
  | n + 1, _, _, .cons r t => .cons r (paired_take n t)
theorem paired_drop {α : Type} {R : V → α → Prop} : ∀ (n : Nat) {vs : List V} {xs : List α}, Paired R vs xs → Paired R (vs.drop n) (xs.drop n)
  | 0, _, _, r => r
  | _ + 1, _, _, .nil => .nil
  | n + 1, _, _, .cons _ t => paired_drop n t
theorem paired_rev {α : Type} {R : V → α → Prop} : ∀ {vs : List V} {xs : List α}, Paired R vs xs → Paired R vs.reverse xs.reverse
  | _, _, .nil => .nil
  | _, _, .cons r t => by rw [List.reverse_cons, List.reverse_cons]; exact paired_app (paired_rev t) (.cons r .nil)
theorem paired_len {α : Type} {R : V → α → Prop} {vs : List V} {xs : List α} (h : Paired R vs xs) : vs.length = xs.length := Paired.length h
/-- a list of spots -/
abbrev Spots (K : PySem.W.Frag) (H : Hp) : List V → List Spot → Prop := Paired (SpotAt K H)
theorem Spots.mono (t : TS K H H') {vs : List V} {ss : List Spot} (h : Spots K H vs ss) : Spots K H' vs ss := Paired.mapP h fun _ _ z => z.mono t
theorem Spots.dp : ∀ {vs : List V} {ss : List Spot}, Spots K H vs ss → DpAll K H vs (dds ss false)
  | _, _, .nil => .nil
  | _, _, .cons r t => .cons r.dp (Spots.dp t)
theorem dpAll_app : ∀ {vs ws : List V} {ds es : List PyData}, DpAll K H vs ds → DpAll K H ws es → DpAll K H (vs ++ ws) (ds ++ es)
  | _, _, _, _, .nil, h => h
  | _, _, _, _, .cons r t, h => .cons r (dpAll_app t h)
/-- the machine -/
def MachAt (K : PySem.W.Frag) (C : Addr) (H : Hp) (v : V) (L : Tx) (R : Rows) : Prop := ∃ a dx r, v = .ref a ∧ SlX.Slt H a C dx [some (.str (tx L)), some r] ∧ RowsAt K H r R
theorem Slt.same {a C dx : Addr} {vs : List (Option V)} (e : Same H H') (h : SlX.Slt H a C dx vs) : SlX.Slt H' a C dx vs :=
  h.elim (fun ⟨h1, h2⟩ => .inl ⟨e _ _ h1, h2⟩) fun ⟨h1, h2⟩ => .inr ⟨e _ _ h1, e _ _ h2⟩
theorem MachAt.same {C : Addr} (e : Same H H') {L : Tx} {R : Rows} (h : MachAt K C H v L R) : MachAt K C H' v L R :=
  let ⟨a, dx, r, ev, q, h1⟩ := h
  ⟨a, dx, r, ev, Slt.same e q, h1.mono (TS.of e)⟩
end K5

set_option Elab.async false
set_option linter.all false
set_option maxRecDepth 100000
set_option maxHeartbeats 4000000
/-! Dicts whose keys are spots (nested tuples): rules of mine over the library's own for such keys. -/
namespace K5
open PySem PySem.Spec PyProof.Rows L2

abbrev NIt := Spot × Addr × V
abbrev NKu := NestedKey × Addr × Value
def KR (x : NIt) (u : NKu) : Prop := u.1 = sk x.1 ∧ u.2.1 = x.2.1 ∧ RelV x.2.2 u.2.2
def DNφ (P : Program) (w : World) (d : Addr) (xs : List NIt) : Heap → Prop := fun h => (d == sysModules) = false ∧ ∃ us : List NKu, Paired KR xs us ∧
  ∃ o es ep, h.get? d = some o ∧ o.ExactDict ∧ o.data = .dict es ep ∧ es.toList = us.map (entryOfKey (nestedKind P w))
def DNO (P : Program) (w : World) (d : Addr) (xs : List NIt) : HO := .ext (DNφ P w d xs)
/-- what the keys are: their tuples stand, none twice -/
def KeysOk (K : PySem.W.Frag) (H : Hp) (xs : List NIt) : Prop := (∀ x ∈ xs, SpotAt K H (.ref x.2.1) x.1) ∧ (xs.map (·.1)).Nodup
def DN (P : Program) (w : World) (K : PySem.W.Frag) (H : Hp) (d : Addr) (xs : List NIt) : Prop := Rd H d (DNO P w d xs) ∧ KeysOk K H xs
theorem KeysOk.mono {K : PySem.W.Frag} {H H' : Hp} {xs : List NIt} (t : TS K H H') (h : KeysOk K H xs) : KeysOk K H' xs := ⟨fun x hx => (h.1 x hx).mono t, h.2⟩
theorem DN.same {P : Program} {w : World} {K : PySem.W.Frag} {H H' : Hp} {d : Addr} {xs : List NIt} (e : Same H H') (h : DN P w K H d xs) : DN P w K H' d xs := ⟨rd_same e h.1, h.2.mono (TS.of e)⟩

theorem KR.keys : ∀ {xs : List NIt} {us : List NKu}, Paired KR xs us → us.map (·.1) = xs.map (fun x => sk x.1)
  | _, _, .nil => rfl
  | _, _, .cons r t => by rw [List.map_cons, List.map_cons, KR.keys t, r.1]
theorem nodup_map_sk : ∀ {l : List Spot}, l.Nodup → (l.map sk).Nodup
  | [], _ => List.nodup_nil
  | a :: l, h => by
    have h1 := List.nodup_cons.mp h
    rw [List.map_cons]
    refine List.nodup_cons.mpr ⟨fun q => ?_, nodup_map_sk h1.2⟩
    obtain ⟨b, hb, e⟩ := List.mem_map.mp q
    exact h1.1 (sk_inj e ▸ hb)
theorem KR.nodup {xs : List NIt} {us : List NKu} (r : Paired KR xs us) (h : (xs.map (·.1)).Nodup) : (us.map (·.1)).Nodup := by
  rw [KR.keys r]
  have e : xs.map (fun x => sk x.1) = (xs.map (·.1)).map sk := by rw [List.map_map]; rfl
  rw [e]
  exact nodup_map_sk h
theorem KR.mem : ∀ {xs : List NIt} {us : List NKu} {u : NKu}, Paired KR xs us → u ∈ us → ∃ x ∈ xs, KR x u
  | _, _, _, .nil, h => by cases h
  | _, _, _, .cons r t, h => by
    rcases List.mem_cons.mp h with rfl | h
    · exact ⟨_, List.mem_cons_self, r⟩
    · obtain ⟨x, hx, q⟩ := KR.mem t h
      exact ⟨x, List.mem_cons_of_mem _ hx, q⟩
theorem KR.find : ∀ {xs : List NIt} {us : List NKu} {t : Spot}, Paired KR xs us → (atKey us (sk t)).isSome = decide (t ∈ xs.map (·.1))
  | _, _, t, .nil => by simp [atKey]
  | _, _, t, .cons (a := x) (b := u) (l₁ := xs) (l₂ := us) r p => by
    have ih := KR.find (t := t) p
    unfold atKey at ih ⊢
    rw [List.find?_cons]
    by_cases h : t = x.1
    · have e : u.1 = sk t := by rw [r.1, h]
      simp [e, h]
    · have e : ¬ u.1 = sk t := fun q => h (sk_inj (q.symm.trans r.1))
      rw [decide_eq_false e]
      simp only [List.map_cons, List.mem_cons, h, false_or]
      exact ih
theorem KR.look : ∀ {xs : List NIt} {us : List NKu} {t : Spot} {p : Addr} {v : V}, Paired KR xs us → (xs.map (·.1)).Nodup → (t, p, v) ∈ xs → ∃ u, atKey us (sk t) = some (p, u) ∧ RelV v u
  | _, _, t, p, v, .nil, _, h => by cases h
  | _, _, t, p, v, .cons (a := x) (b := u) (l₁ := xs) (l₂ := us) r q, hn, h => by
    rw [List.map_cons, List.nodup_cons] at hn
    unfold atKey
    rw [List.find?_cons]
    rcases List.mem_cons.mp h with e | h
    · subst e
      have e : u.1 = sk t := r.1
      rw [decide_eq_true e]
      obtain ⟨u1, u2, u3⟩ := u
      exact ⟨u3, by simp [show u2 = p from r.2.1], r.2.2⟩
    · have ne : ¬ u.1 = sk t := fun z => hn.1 (by
        have : t = x.1 := sk_inj (z.symm.trans r.1)
        rw [← this]
        exact List.mem_map.mpr ⟨_, h, rfl⟩)
      rw [decide_eq_false ne]
      exact KR.look q hn.2 h
theorem KR.snoc {xs : List NIt} {us : List NKu} {x : NIt} {u : NKu} (r : Paired KR xs us) (q : KR x u) : Paired KR (xs ++ [x]) (us ++ [u]) := Paired.snoc r q

section
variable {X : Cx} {pins : List (Addr × Obj)} {σ : L2.St} {H : Hp} {s : Shared} {d : Addr} {xs : List NIt}
theorem room_n {A : Around} {k : Nat} (hr : Room k A) : (nestedKind X.prog X.w).room A.in1.in1 := by
  have := hr.un
  show A.units + 1 + 1 + 8 < cLine
  omega
theorem room_n1 {A : Around} {k : Nat} (hr : Room k A) : (nestedKind X.prog X.w).room A.in1 := by
  have := hr.un
  show A.units + 1 + 8 < cLine
  omega
theorem room_n0 {A : Around} {k : Nat} (hr : Room k A) : (nestedKind X.prog X.w).room A := by
  have := hr.un
  show A.units + 8 < cLine
  omega
theorem dn_dict (I : Inv X pins σ H s) (h : DN X.prog X.w X.K H d xs) : (d == sysModules) = false ∧ ∃ us, Paired KR xs us ∧ s.heap.DictOfH (nestedKind X.prog X.w) d us := by
  obtain ⟨⟨hs, us, r, o, es, ep, ho, hx, hd, he⟩, _, _⟩ := (show ObjOk X.prog X.w H s.heap d (DNO X.prog X.w d xs) from h.1.ok I.hok)
  refine ⟨hs, us, r, o, es, ep, ho, hx, hd, he, fun u hu => ?_, KR.nodup r h.2.2⟩
  obtain ⟨x, hx, q1, q2, _⟩ := KR.mem r hu
  rw [q1, q2]
  exact (h.2.1 x hx).key I
theorem dn_ok {P : Program} {w : World} {H' : Hp} {h' : Heap} {us : List NKu} (hs : (d == sysModules) = false) (r : Paired KR xs us) (hd : h'.DictOfH (nestedKind P w) d us) : ObjOk P w H' h' d (DNO P w d xs) := by
  obtain ⟨o, es, ep, ho, hx, hdt, he, _, _⟩ := hd
  exact ⟨⟨hs, us, r, o, es, ep, ho, hx, hdt, he⟩, ⟨o, ho⟩, fun h1 h2 ⟨z, us', r', o', es', ep', ho', q⟩ st => ⟨z, us', r', o', es', ep', st _ ho', q⟩⟩

/-- x in d -/
def rInN (P : Program) (w : World) (K : PySem.W.Frag) (neg : Bool) : R2 := fun x y H Q => ∃ (a d : Addr) (t : Spot) (xs : List NIt), x = .ref a ∧ y = .ref d ∧ SpotAt K H (.ref a) t ∧ DN P w K H d xs ∧
  Q (.bl (if neg then !decide (t ∈ xs.map (·.1)) else decide (t ∈ xs.map (·.1)))) H
theorem op_inN {k : Nat} (hr : Room k X.A) : OpR X (compareOp .In) (rInN X.prog X.w X.K false) := by
  intro pins s σ H x y v u Q I rx ry h
  obtain ⟨a, d, t, xs, rfl, rfl, ha, hd, q⟩ := h
  cases (show v = Value.ref a from rx)
  cases (show u = Value.ref d from ry)
  obtain ⟨hs, us, r, dd⟩ := dn_dict I hd
  refine wpAny_in_heap (room_n1 hr) (ha.key I) hs dd ⟨.bl _, H, I.tok _, rfl, ?_⟩
  rw [KR.find r]
  exact q
theorem op_notInN {k : Nat} (hr : Room k X.A) : OpR X (compareOp .NotIn) (rInN X.prog X.w X.K true) := by
  intro pins s σ H x y v u Q I rx ry h
  obtain ⟨a, d, t, xs, rfl, rfl, ha, hd, q⟩ := h
  cases (show v = Value.ref a from rx)
  cases (show u = Value.ref d from ry)
  obtain ⟨hs, us, r, dd⟩ := dn_dict I hd
  show wpAny _ _ (do return Value.bool (!(← contains (.ref d) (.ref a)))) _ _ s
  refine wpAny_bind (wpAny_contains_heap (room_n1 hr) (ha.key I) hs dd (wpAny_pure ⟨.bl _, H, I.tok _, rfl, ?_⟩))
  rw [KR.find r]
  exact q
/-- d[k] -/
def rGetN (P : Program) (w : World) (K : PySem.W.Frag) : R2 := fun x y H Q => ∃ (a d p : Addr) (t : Spot) (xs : List NIt) (z : V), x = .ref d ∧ y = .ref a ∧ SpotAt K H (.ref a) t ∧ DN P w K H d xs ∧ (t, p, z) ∈ xs ∧ Q z H
theorem pe_getN {k : Nat} {o i : Expr} {td ty : TE} {pos : Pos} (hr : Room k X.A) (ho : PE X o td) (hi : PE X i ty) (hs : NoSl i) : PE X (.Subscript o i pos) (tOp (rGetN X.prog X.w X.K) td ty) := by
  refine ⟨fun pins s σ H Q I h => ?_⟩
  refine subD_of PySem.F.slot_dict_getitem.lookup hs (thn (ho.run pins s σ H _ I h) fun ov s1 h1 => ?_)
  obtain ⟨x, H1, I1, rx, q1⟩ := h1
  refine thn (hi.run pins s1 σ H1 _ I1 q1) fun iv s2 h2 => ?_
  obtain ⟨y, H2, I2, ry, a, d, p, t, xs, z, rfl, rfl, ha, hd, hm, q⟩ := h2
  cases (show ov = Value.ref d from rx)
  cases (show iv = Value.ref a from ry)
  obtain ⟨hsm, us, r, dd⟩ := dn_dict I2 hd
  obtain ⟨z', e, rz⟩ := KR.look r hd.2.2 hm
  exact ⟨dd.typeIs, wpAny_getItem_heap (p := (p, z')) (room_n1 hr) (ha.key I2) dd e ⟨z, H2, I2.tok _, rz, q⟩⟩
/-- d[k] = v, a new key -/
def rSetN (P : Program) (w : World) (K : PySem.W.Frag) : V → V → V → Hp → (Hp → Prop) → Prop := fun o i v H Q => ∃ (a d : Addr) (t : Spot) (xs : List NIt), o = .ref d ∧ i = .ref a ∧ SpotAt K H (.ref a) t ∧
  H d = some (DNO P w d xs) ∧ KeysOk K H xs ∧ xs.length ≤ 100000 ∧ t ∉ xs.map (·.1) ∧ Q (upd H d (DNO P w d (xs ++ [(t, a, v)])))
theorem set_N {k : Nat} (hr : Room k X.A) : PSet X (rSetN X.prog X.w X.K) := by
  intro pins s σ H o i v ov iv u Q I ro ri rv h
  obtain ⟨a, d, t, xs, rfl, rfl, ha, hd, hk, hz, hn, q⟩ := h
  cases (show ov = Value.ref d from ro)
  cases (show iv = Value.ref a from ri)
  obtain ⟨hs, us, r, dd⟩ := dn_dict I ⟨.inl hd, hk⟩
  have hl : us.length = xs.length := (Paired.length r).symm
  refine wpAny_setItem_heap (hsz := by rw [hl]; exact sz_small hz) (room_n1 hr) (ha.key I) dd fun h' hm' sb => ?_
  have none_ : atKey us (sk t) = none := by
    have e := KR.find (t := t) r
    rw [decide_eq_false hn] at e
    exact Option.isNone_iff_eq_none.mp (by simpa using e)
  rw [storedH_new none_] at hm'
  have r' : Paired KR (xs ++ [(t, a, v)]) (us ++ [(sk t, a, u)]) := KR.snoc r ⟨rfl, rfl, rv⟩
  have he : ∃ q, h'.get? d = some q := let ⟨q, _, _, hq, _⟩ := hm'; ⟨q, hq⟩
  exact ⟨_, d_write I (by rw [hd]; exact True.intro) sb he (dn_ok hs r' hm'), q⟩

/-! ### list(d) -/
def keysV (xs : List NIt) : List V := xs.map fun x => V.ref x.2.1
def rListN (P : Program) (w : World) (K : PySem.W.Frag) : List V → Hp → VK → Prop := fun vs H Q => ∃ (d : Addr) (xs : List NIt), vs = [.ref d] ∧ DN P w K H d xs ∧ xs.length ≤ 100000 ∧ ∀ l, H l = none → Q (.ref l) (upd H l (.lst (keysV xs)))
theorem vals_keys : ∀ {xs : List NIt} {us : List NKu}, Paired KR xs us → Vals (keysV xs) (us.map fun u => Value.ref u.2.1)
  | _, _, .nil => .nil
  | _, _, .cons r t => .cons (by show Value.ref _ = Value.ref _; rw [r.2.1]) (vals_keys t)
theorem call_listN (hc : X.calm = true) : CallR X (.type "list") (rListN X.prog X.w X.K) := by
  intro pins s σ H vs us Q I r h
  obtain ⟨d, xs, rfl, hd, hz, q⟩ := h
  rw [Vals.ref1 r]
  obtain ⟨hs, ks, rk, o, es, ep, ho, hx, hdt, he, _, _⟩ := dn_dict I hd
  have hsz : es.size = ks.length := size_of_entries he
  have hkl : ks.length = xs.length := (Paired.length rk).symm
  refine PySem.W.kdl_call (KdlSrc.rawDict (es := es) (ep := ep) hs) (I.ok.hd hc) ⟨o, ho, hx, hdt⟩ (by rw [hsz, hkl]; exact sz_small hz) fun h' tk acc c k hD hacc => ?_
  have hv : acc.toList = ks.map fun u => Value.ref u.2.1 := by
    refine List.ext_getElem? fun i => ?_
    rw [List.getElem?_map]
    by_cases hi : i < es.size
    · have hi2 : i < acc.toList.length := by rw [Array.length_toList, hacc.1]; exact hi
      obtain ⟨hi', ev⟩ := hacc.2 i _ (by rw [← Array.getElem?_toList]; exact List.getElem?_eq_getElem hi2)
      have hk2 : i < ks.length := by rw [← hsz]; exact hi
      rw [List.getElem?_eq_getElem hi2, List.getElem?_eq_getElem hk2, ev]
      have e2 := entry_at he i
      rw [Array.getElem?_eq_getElem hi, List.getElem?_eq_getElem hk2, Option.map_some] at e2
      rw [Option.some.inj e2]
      rfl
    · have h1 : acc.toList.length ≤ i := by rw [Array.length_toList, hacc.1]; omega
      have h2 : ks.length ≤ i := by rw [← hsz]; omega
      rw [List.getElem?_eq_none_iff.mpr h1, List.getElem?_eq_none_iff.mpr h2]
      rfl
  refine ⟨.ref s.heap.objs.size, _, I.laid (o := .lst (keysV xs)) k (Nat.le_refl _) ⟨?_, acc.toList, c, ?_, ?_⟩, rfl, q _ (I.hok.fresh (Nat.le_refl _))⟩
  · show (xs.map _).length ≤ _
    rw [List.length_map]
    exact sz_small hz
  · rw [hv]
    exact vals_keys rk
  · rw [hD]
end

/-! ### a walk of the keys (the dict is locked) -/
def Itn (P : Program) (w : World) (K : PySem.W.Frag) (d : Addr) (o : Obj) (xs : List NIt) : It :=
  ⟨fun i H => H d = some (.frz o (DNO P w d xs)) ∧ i < xs.length, fun i H x H' => H' = H ∧ ∃ t, xs[i]? = some t ∧ x = .ref t.2.1, fun i H => H d = some (.frz o (DNO P w d xs)) ∧ xs.length ≤ i⟩
section
variable {X : Cx} {pins : List (Addr × Obj)} {σ : L2.St} {H : Hp} {s : Shared} {d : Addr} {xs : List NIt} {o : Obj}
theorem frz_n (I : Inv X pins σ H s) (h : H d = some (.frz o (DNO X.prog X.w d xs))) : (d == sysModules) = false ∧ s.heap.get? d = some o ∧ o.ExactDict ∧ ∃ (es : Array DictEntry) (ep : Nat), o.data = .dict es ep ∧ es.size = xs.length ∧ ∀ (i : Nat) (t : NIt), xs[i]? = some t → ∃ en : DictEntry, es[i]? = some en ∧ en.key = Value.ref t.2.1 := by
  obtain ⟨ho, ⟨hs, us, r, o', es, ep, ho', hx, hd, he⟩, _, _⟩ := (show ObjOk X.prog X.w H s.heap d (.frz o (DNO X.prog X.w d xs)) from I.hok d _ h)
  rw [ho] at ho'
  cases ho'
  refine ⟨hs, ho, hx, es, ep, hd, by rw [size_of_entries he, ← Paired.length r], fun i t ht => ?_⟩
  obtain ⟨u, hu, rk⟩ : ∃ u, us[i]? = some u ∧ KR t u := by
    have aux : ∀ {xs : List NIt} {us : List NKu} {i : Nat}, Paired KR xs us → xs[i]? = some t → ∃ u, us[i]? = some u ∧ KR t u := by
      intro xs us i p
      induction p generalizing i with
      | nil => intro e; simp at e
      | cons r p ih =>
        intro e
        cases i with
        | zero => simp at e; subst e; exact ⟨_, rfl, r⟩
        | succ i => obtain ⟨u, h1, h2⟩ := ih (i := i) (by simpa using e); exact ⟨u, by simpa using h1, h2⟩
    exact aux r ht
  refine ⟨_, by rw [entry_at he i, hu]; rfl, ?_⟩
  show Value.ref u.2.1 = _
  rw [rk.2.1]
theorem turn_n {P : Program} {w : World} {K : PySem.W.Frag} {tg : Expr} {es : Array DictEntry} {ep : Nat} (it : Addr) (hod : o.data = .dict es ep) : Turn P w K tg (Itn P w K d o xs) [it] it (fun i h => h.IsKeyIter it d i xs.length ep) where
  mem := List.mem_singleton.mpr rfl
  obj := fun i h st b hb => by
    rw [List.mem_singleton.mp hb]
    obtain ⟨oi, e, c, dd⟩ := st
    exact ⟨oi, e, fun v z => by rw [dd] at z; cases z⟩
  keep := fun i h h' st k => st.at fun oi e => k it (List.mem_singleton.mpr rfl) oi e
  item := by
    intro X hP hw hK hc i pins s σ H E I hf st hg
    subst hP hw hK
    obtain ⟨f0, f1, f2, f3, f4, f5⟩ := hf it (List.mem_singleton.mpr rfl)
    obtain ⟨hs, hgd, hx, es', ep', hdt, hsz, ent⟩ := frz_n I hg.1
    obtain ⟨rfl, rfl⟩ := dict_ep hod hdt
    obtain ⟨t, ht⟩ : ∃ t, xs[i]? = some t := ⟨_, List.getElem?_eq_getElem hg.2⟩
    obtain ⟨en, hen, hkey⟩ := ent i t ht
    refine next_key_item st hgd hdt hsz hen fun h' st' sb => ?_
    have I1 := I.turned (h' := h') (t' := s.toks) (fun b ob hb e => (sb.2 b hb).trans e) f0 f1 f3 f4 f5
    obtain ⟨oi, e, c, dd⟩ := id st'
    refine ⟨en.key, rfl, go_of (s := { s with heap := h' }) e c dd (by decide) ⟨.ref t.2.1, H, I1, hkey, ⟨rfl, t, ht, rfl⟩, st', fun b hb => (hf b hb).1⟩⟩
  done := by
    intro X hP hw hK hc i pins s σ H E I hf st hg
    subst hP hw hK
    obtain ⟨f0, f1, f2, f3, f4, f5⟩ := hf it (List.mem_singleton.mpr rfl)
    obtain ⟨hs, hgd, hx, es', ep', hdt, hsz, ent⟩ := frz_n I hg.1
    obtain ⟨rfl, rfl⟩ := dict_ep hod hdt
    exact next_key_end (I.ok.hd hc) st hgd hdt hsz hg.2 fun h' eb => ⟨rfl, I.turned (t' := s.toks) (fun b ob hb e => eb b ob hb e) f0 f1 f3 f4 f5⟩
  self := fun A i s Q E st h => by
    refine wpAny_pyIter_slot st.typeIs F.slot_dict_keyiterator_iter (wpAny_call_entry F.slot_dict_keyiterator_iter st.typeIs F.entry_dict_keyiterator_iter ?_ (F.args_dict_keyiterator_iter_1 _))
    exact wpAny_pure ⟨_, rfl, "dict_keyiterator", _, st.typeIs, F.slot_dict_keyiterator_next.lookup, h⟩
def iKeysN (P : Program) (w : World) (K : PySem.W.Frag) (td : TE) : TI := fun σ H R => td σ H fun x H1 => ∃ d o xs, x = .ref d ∧ H1 d = some (.frz o (DNO P w d xs)) ∧ R (Itn P w K d o xs) H1
theorem pi_keysN {tg e : Expr} {td : TE} (he : PE X e td) : PI X tg e (iKeysN X.prog X.w X.K td) := by
  refine ⟨fun pins s σ H R I h => thn (he.run pins s σ H _ I h) fun u s1 ⟨x, H1, I1, rx, d, o, xs, ex, hd, q⟩ => ?_⟩
  subst ex
  cases (show u = Value.ref d from rx)
  obtain ⟨hs, hgd, hx, es, ep, hdt, hsz, ent⟩ := frz_n I1 hd
  refine iter_keys hs hgd hx hdt (pi_one (tk := s1.toks) I1 _ (turn_n _ hdt) ⟨_, Heap.get?_push_size _ rfl, rfl, ?_⟩ q)
  rw [hsz] <;> rfl
theorem walk_n {P : Program} {w : World} {K : PySem.W.Frag} : Walk (Itn P w K d o xs) xs.length (fun H => H d = some (.frz o (DNO P w d xs))) (fun i H x H' => H' = H ∧ ∃ t, xs[i]? = some t ∧ x = .ref t.2.1) :=
  ⟨fun _ _ hi q => ⟨q, hi⟩, fun _ q => ⟨q, Nat.le_refl _⟩, fun _ _ _ _ _ _ y => y⟩
end
end K5

set_option Elab.async false
set_option linter.all false
set_option maxRecDepth 100000
set_option maxHeartbeats 4000000
/-! Dicts of spots made anew: a display of one pair, dict(pairs), {x: True for x in l}. -/
namespace K5
open PySem PySem.Spec PyProof.Rows L2

/-- what storing does, by keys -/
def storedN (xs : List NIt) (t : Spot) (a : Addr) (v : V) : List NIt := if t ∈ xs.map (·.1) then xs.map (fun x => if x.1 = t then (x.1, x.2.1, v) else x) else xs ++ [(t, a, v)]
def storedAllN (xs ps : List NIt) : List NIt := ps.foldl (fun acc p => storedN acc p.1 p.2.1 p.2.2) xs
theorem put_fst (t : Spot) (v : V) : ∀ xs : List NIt, (xs.map (fun x => if x.1 = t then (x.1, x.2.1, v) else x)).map (·.1) = xs.map (·.1)
  | [] => rfl
  | x :: xs => by
    rw [List.map_cons, List.map_cons, List.map_cons, put_fst t v xs]
    by_cases h : x.1 = t
    · rw [if_pos h]
    · rw [if_neg h]
theorem storedN_keys {xs : List NIt} {t : Spot} {a : Addr} {v : V} : (∀ k, k ∈ (storedN xs t a v).map (·.1) ↔ k ∈ xs.map (·.1) ∨ k = t) := by
  intro k
  unfold storedN
  by_cases h : t ∈ xs.map (·.1)
  · rw [if_pos h, put_fst]
    exact ⟨.inl, fun q => q.elim id fun e => e ▸ h⟩
  · rw [if_neg h, List.map_append, List.mem_append]
    simp
theorem storedN_nodup {xs : List NIt} {t : Spot} {a : Addr} {v : V} (hn : (xs.map (·.1)).Nodup) : ((storedN xs t a v).map (·.1)).Nodup := by
  unfold storedN
  by_cases h : t ∈ xs.map (·.1)
  · rw [if_pos h, put_fst]; exact hn
  · rw [if_neg h, List.map_append]
    refine List.nodup_append.mpr ⟨hn, by simp, ?_⟩
    intro x hx y hy e
    simp at hy
    exact h (by rw [← hy, ← e]; exact hx)
theorem storedN_from {xs : List NIt} {t : Spot} {a : Addr} {v : V} {y : NIt} (h : y ∈ storedN xs t a v) : (∃ x ∈ xs, x.1 = y.1 ∧ x.2.1 = y.2.1) ∨ (y.1 = t ∧ y.2.1 = a) := by
  unfold storedN at h
  by_cases q : t ∈ xs.map (·.1)
  · rw [if_pos q] at h
    obtain ⟨x, hx, e⟩ := List.mem_map.mp h
    refine .inl ⟨x, hx, ?_⟩
    by_cases z : x.1 = t
    · rw [if_pos z] at e; subst e; exact ⟨rfl, rfl⟩
    · rw [if_neg z] at e; subst e; exact ⟨rfl, rfl⟩
  · rw [if_neg q] at h
    rcases List.mem_append.mp h with h | h
    · exact .inl ⟨y, h, rfl, rfl⟩
    · rw [List.mem_singleton.mp h]; exact .inr ⟨rfl, rfl⟩
theorem storedN_length (xs : List NIt) (t : Spot) (a : Addr) (v : V) : (storedN xs t a v).length ≤ xs.length + 1 := by
  unfold storedN
  split
  · rw [List.length_map]; omega
  · rw [List.length_append, List.length_singleton]; omega
/-- ys: xs without what comes again -/
structure Dedup (xs ys : List NIt) : Prop where
  from_ : ∀ y ∈ ys, ∃ x ∈ xs, x.1 = y.1 ∧ x.2.1 = y.2.1
  nd : (ys.map (·.1)).Nodup
  keys : ∀ k, k ∈ ys.map (·.1) ↔ k ∈ xs.map (·.1)
  len : ys.length ≤ xs.length
theorem dedup_nil : Dedup [] [] := ⟨fun _ h => (nomatch h), List.nodup_nil, fun _ => Iff.rfl, Nat.le_refl _⟩
theorem Dedup.snoc {xs ys : List NIt} (h : Dedup xs ys) (x : NIt) : Dedup (xs ++ [x]) (storedN ys x.1 x.2.1 x.2.2) where
  from_ := fun y hy => by
    rcases storedN_from hy with ⟨z, hz, e1, e2⟩ | ⟨e1, e2⟩
    · obtain ⟨u, hu, f1, f2⟩ := h.from_ z hz
      exact ⟨u, List.mem_append_left _ hu, f1.trans e1, f2.trans e2⟩
    · exact ⟨x, List.mem_append_right _ List.mem_cons_self, e1.symm, e2.symm⟩
  nd := storedN_nodup h.nd
  keys := fun k => by
    rw [storedN_keys, h.keys k, List.map_append, List.mem_append]
    simp
  len := by
    have := storedN_length ys x.1 x.2.1 x.2.2
    have := h.len
    rw [List.length_append, List.length_singleton]
    omega
theorem dedup_all (xs : List NIt) : Dedup xs (storedAllN [] xs) := by
  have gen : ∀ (ps pre acc : List NIt), Dedup pre acc → Dedup (pre ++ ps) (storedAllN acc ps) := by
    intro ps
    induction ps with
    | nil => intro pre acc h; rw [List.append_nil]; exact h
    | cons p ps ih =>
      intro pre acc h
      have q := ih (pre ++ [p]) _ (h.snoc p)
      rw [List.append_assoc] at q
      exact q
  exact gen xs [] [] dedup_nil
theorem Dedup.ok {K : PySem.W.Frag} {H : Hp} {xs ys : List NIt} (h : Dedup xs ys) (q : ∀ x ∈ xs, SpotAt K H (.ref x.2.1) x.1) : KeysOk K H ys := ⟨fun y hy => by
  obtain ⟨x, hx, e1, e2⟩ := h.from_ y hy
  rw [← e1, ← e2]
  exact q x hx, h.nd⟩

theorem kr_put {t : Spot} {v : V} {u : Value} (r : RelV v u) : ∀ {xs : List NIt} {us : List NKu}, Paired KR xs us → Paired KR (xs.map fun x => if x.1 = t then (x.1, x.2.1, v) else x) (us.map (putAt (sk t) u))
  | _, _, .nil => .nil
  | _, _, .cons (a := x) (b := y) q p => by
    refine .cons ?_ (kr_put r p)
    unfold putAt
    show KR (if x.1 = t then (x.1, x.2.1, v) else x) (if y.1 = sk t then (y.1, y.2.1, u) else y)
    by_cases h : x.1 = t
    · have e : y.1 = sk t := by rw [q.1, h]
      rw [if_pos h, if_pos e]
      exact ⟨q.1, q.2.1, r⟩
    · have e : ¬ y.1 = sk t := fun z => h (sk_inj (q.1.symm.trans z))
      rw [if_neg h, if_neg e]
      exact q
theorem kr_stored {xs : List NIt} {us : List NKu} {t : Spot} {a : Addr} {v : V} {u : Value} (p : Paired KR xs us) (r : RelV v u) : Paired KR (storedN xs t a v) (storedH us (sk t) a u) := by
  have e := KR.find (t := t) p
  unfold storedN storedH
  by_cases h : t ∈ xs.map (·.1)
  · rw [if_pos h, e, decide_eq_true h, if_pos rfl]
    exact kr_put r p
  · rw [if_neg h, e, decide_eq_false h, if_neg Bool.false_ne_true]
    exact KR.snoc p ⟨rfl, rfl, r⟩
theorem kr_storedAll : ∀ {ps : List NIt} {qs : List NKu} {xs : List NIt} {us : List NKu}, Paired KR ps qs → Paired KR xs us → Paired KR (storedAllN xs ps) (storedAllH us qs)
  | _, _, _, _, .nil, p => p
  | _, _, _, _, .cons (a := x) (b := y) q r, p => by
    have z := kr_stored (t := x.1) (a := x.2.1) p q.2.2
    have e1 : y.1 = sk x.1 := q.1
    have e2 : y.2.1 = x.2.1 := q.2.1
    show Paired KR (storedAllN (storedN _ x.1 x.2.1 x.2.2) _) (storedAllH (storedH _ y.1 y.2.1 y.2.2) _)
    rw [e1, e2]
    exact kr_storedAll r z

section
variable {X : Cx} {pins : List (Addr × Obj)} {σ : L2.St} {H : Hp} {s : Shared}
theorem dn_new {P : Program} {w : World} {K : PySem.W.Frag} {H : Hp} (h : Heap) (hb : sysModules < h.objs.size) : ObjOk P w H (h.push { cls := .type "dict", data := .dict #[] }) h.objs.size (DNO P w h.objs.size []) :=
  dn_ok (beq_eq_false_iff_ne.mpr (Ne.symm (Nat.ne_of_lt hb))) .nil (Heap.DictOfH.new h)

/-! ### {k: v} -/
def tDisp1N (P : Program) (w : World) (K : PySem.W.Frag) (tk tv : TE) : TE := fun σ H Q => ∀ p, H p = none → tk σ (upd H p (DNO P w p [])) fun x H1 => tv σ H1 fun y H2 =>
  H2 p = some (DNO P w p []) ∧ ∃ a t, x = .ref a ∧ SpotAt K H2 (.ref a) t ∧ Q (.ref p) (upd H2 p (DNO P w p [(t, a, y)]))
theorem pe_disp1N {k : Nat} {e f : Expr} {tk tv : TE} {pos : Pos} (hr : Room k X.A) (hk : PE X e tk) (hv : PE X f tv) : PE X (.Dict [some e] [f] pos) (tDisp1N X.prog X.w X.K tk tv) := by
  refine ⟨fun pins s σ H Q I q => ?_⟩
  have hn := I.hok.fresh (Nat.le_refl s.heap.objs.size)
  have I1 := I.laid (a := s.heap.objs.size) (o := DNO X.prog X.w s.heap.objs.size []) (h' := s.heap.push { cls := .type "dict", data := .dict #[] }) (t' := s.toks) (fun _ _ q => Heap.get?_push_of_some _ q) (Nat.le_refl _) (dn_new (K := X.K) s.heap I.big)
  have run := (pps_cons (pos := pos) hk hv pps_nil).run pins _ σ _ (fun ps H2 => ∃ x y, ps = [(x, y)] ∧ H2 s.heap.objs.size = some (DNO X.prog X.w s.heap.objs.size []) ∧ ∃ a t, x = .ref a ∧ SpotAt X.K H2 (.ref a) t ∧ Q (.ref s.heap.objs.size) (upd H2 s.heap.objs.size (DNO X.prog X.w s.heap.objs.size [(t, a, y)]))) I1
    (by
      show tk σ _ _
      have z := q _ hn
      have e1 : (fun (x : V) (H1 : Hp) => tv σ H1 fun y H2 => H2 s.heap.objs.size = some (DNO X.prog X.w s.heap.objs.size []) ∧ ∃ a t, x = .ref a ∧ SpotAt X.K H2 (.ref a) t ∧ Q (.ref s.heap.objs.size) (upd H2 s.heap.objs.size (DNO X.prog X.w s.heap.objs.size [(t, a, y)]))) =
          fun x H1 => tv σ H1 fun y H2 => ∃ x' y', [(x, y)] = [(x', y')] ∧ H2 s.heap.objs.size = some (DNO X.prog X.w s.heap.objs.size []) ∧ ∃ a t, x' = .ref a ∧ SpotAt X.K H2 (.ref a) t ∧ Q (.ref s.heap.objs.size) (upd H2 s.heap.objs.size (DNO X.prog X.w s.heap.objs.size [(t, a, y')])) := by
        funext x H1
        congr 1
        funext y H2
        exact propext ⟨fun h => ⟨x, y, rfl, h⟩, fun ⟨x', y', e, h⟩ => by
          injection e with e _
          injection e with e2 e3
          rw [e2, e3]
          exact h⟩
      rw [e1] at z
      exact z)
  show wpAny _ _ (eval (.Dict [some e] [f] pos) X.env) _ _ s
  rw [arm_eval_Dict, show (evalEachOpt [some e] X.env).zip ((evalEach [f] X.env).map fun v => do let x ← v; standAt pos; pure x) = (pairTrees [some e] [f] X.env pos).map (fun p => (some p.1, p.2)) from rfl, dictDisplay_pairs (pairTrees [some e] [f] X.env pos) (by intro z; cases z) (show (1 : Nat) < 17 by decide)]
  refine wpAny_bind (wpAny_standAt (wpAny_bind (wpAny_subDictH (knd := nestedKind X.prog X.w) (room_n0 hr) (show (1 : Nat) ≤ 15 by decide) (thn run fun ws s2 h2 => ?_))))
  obtain ⟨ps, H2, I2, rel, x, y, rfl, hp, a, t, rfl, ha, q2⟩ := h2
  cases rel with
  | cons r1 r2 =>
    cases r2
    rename_i b
    obtain ⟨b1, b2⟩ := b
    cases (show b1 = Value.ref a from r1.1)
    have kd := ha.key I2
    obtain ⟨hs, us, ru, dd⟩ := dn_dict I2 (xs := []) ⟨.inl hp, ⟨fun _ z => (nomatch z), List.nodup_nil⟩⟩
    cases ru
    refine ⟨[(sk t, a, b2)], ⟨rfl, rfl, kd, trivial⟩, dd, fun h' tk du sb => wpAny_pure ⟨.ref s.heap.objs.size, _, ?_, rfl, q2⟩⟩
    have he : ∃ q, h'.get? s.heap.objs.size = some q := let ⟨q, _, _, hq, _⟩ := du; ⟨q, hq⟩
    exact d_write I2 (by rw [hp]; exact True.intro) sb he (dn_ok hs (.cons ⟨rfl, rfl, r1.2⟩ .nil) du)

/-! ### dict(pairs) -/
/-- v is the pair of the key's tuple and the value -/
def PairN (K : PySem.W.Frag) (H : Hp) (v : V) (x : NIt) : Prop := ∃ T, v = .ref T ∧ SqT K H T [.ref x.2.1, x.2.2] ∧ SpotAt K H (.ref x.2.1) x.1
def rDictN (P : Program) (w : World) (K : PySem.W.Frag) : List V → Hp → VK → Prop := fun vs H Q => ∃ (l : Addr) (ws : List V) (xs : List NIt), vs = [.ref l] ∧ SqL K H l ws ∧ Paired (PairN K H) ws xs ∧ xs.length ≤ 100000 ∧
  ∀ p ys, H p = none → Dedup xs ys → Q (.ref p) (upd H p (DNO P w p ys))
theorem pairs_of (I : Inv X pins σ H s) : ∀ {ws : List V} {xs : List NIt} {its : List Value}, Paired (PairN X.K H) ws xs → Vals ws its →
    ∃ ps : List NKu, Paired KR xs ps ∧ ps.length = its.length ∧ (∀ u ∈ ps, (nestedKind X.prog X.w).is s.heap u.1 u.2.1) ∧ ∀ (j : Nat) (u : NKu), ps[j]? = some u → ∃ T, its[j]? = some (.ref T) ∧ PairAt s.heap T (.ref u.2.1) u.2.2
  | _, _, _, .nil, r => by
    cases r
    exact ⟨[], .nil, rfl, fun _ z => (nomatch z), fun j u z => by simp at z⟩
  | _, _, _, .cons (a := v) (b := x) h t, r => by
    cases r with
    | cons r1 r2 =>
      obtain ⟨ps, k, hl, hk, hp⟩ := pairs_of I t r2
      obtain ⟨T, rfl, hT, ha⟩ := h
      rename_i b _
      cases (show b = Value.ref T from r1)
      obtain ⟨its2, rv, it, _⟩ := I.tuple hT
      cases rv with
      | cons q1 q2 =>
        cases q2 with
        | cons q2 q3 =>
          cases q3
          rename_i b1 b2
          cases (show b1 = Value.ref x.2.1 from q1)
          refine ⟨(sk x.1, x.2.1, b2) :: ps, .cons ⟨rfl, rfl, q2⟩ k, by simp [hl], fun u hu => ?_, fun j u e => ?_⟩
          · rcases List.mem_cons.mp hu with rfl | hu
            · exact ha.key I
            · exact hk u hu
          · cases j with
            | zero =>
              simp at e
              subst e
              exact ⟨T, by simp, .inl it⟩
            | succ j =>
              obtain ⟨T', h1, h2⟩ := hp j u (by simpa using e)
              exact ⟨T', by simpa using h1, h2⟩
theorem call_dictN {k : Nat} (hr : Room k X.A) : CallR X (.type "dict") (rDictN X.prog X.w X.K) := by
  intro pins s σ H vs us Q I r h
  obtain ⟨l, ws, xs, rfl, hl, hp, hz, q⟩ := h
  rw [Vals.ref1 r]
  obtain ⟨its, rv, pl, _⟩ := I.list hl
  obtain ⟨ps, kr, hlen, hk, hat⟩ := pairs_of I hp rv
  have hn : (ps.map fun u : NKu => (Value.ref u.2.1, u.2.2)).length = ps.length := List.length_map _
  refine call_dict_pairsH (knd := nestedKind X.prog X.w) (ps := ps) (n := (ps.map fun u : NKu => (Value.ref u.2.1, u.2.2)).length)
    (PairArg.list l its.toArray (fun j => match its[j]? with | some (.ref T) => T | _ => 0) (ps.map fun u : NKu => (Value.ref u.2.1, u.2.2))) hr.hd (room_n hr) ⟨pl, ?_, fun j k v hj => ?_⟩ ⟨hn.symm, fun i key v hi => ?_⟩ (fun h' hk' x hx => ?_) ?_ fun h' tk hd kp => ?_
  · rw [List.size_toArray, hn, hlen]
  · rw [List.getElem?_map] at hj
    obtain ⟨u, hu, eu⟩ := Option.map_eq_some_iff.mp hj
    obtain ⟨T, h1, h2⟩ := hat j u hu
    cases eu
    refine ⟨?_, ?_⟩
    · rw [List.getElem?_toArray, h1]
      show some (Value.ref T) = some (Value.ref (match its[j]? with | some (.ref T) => T | _ => 0))
      rw [h1]
    · show PairAt s.heap (match its[j]? with | some (.ref T) => T | _ => 0) _ _
      rw [h1]; exact h2
  · have hi' : (ps.map fun u : NKu => (Value.ref u.2.1, u.2.2))[i]? = some (key, v) := hi
    rw [List.getElem?_map] at hi'
    obtain ⟨u, hu, eu⟩ := Option.map_eq_some_iff.mp hi'
    cases eu
    exact ⟨u.1, u.2.1, hu, rfl⟩
  · exact nestedKind_stays.stays (fun b o vs n e _ => hk' b o (Nat.ne_of_lt (Heap.lt_size e)) (by simp) e) (hk x hx)
  · rw [hn, ← Paired.length kr]; exact sz_small hz
  · refine ⟨.ref s.heap.objs.size, _, I.laid (t' := tk) (fun b o e => kp b o (by simp) e) (Nat.le_refl _) (dn_ok ?_ (kr_storedAll kr .nil) hd), rfl, q _ _ (I.hok.fresh (Nat.le_refl _)) (dedup_all xs)⟩
    exact beq_eq_false_iff_ne.mpr (Ne.symm (Nat.ne_of_lt I.big))

/-! ### {x: True for x in l} -/
def tDcN (P : Program) (w : World) (K : PySem.W.Frag) (tl : TE) : TE := fun σ H Q => tl σ H fun v H1 => ∃ (l : Addr) (ws : List V) (xs : List NIt), v = .ref l ∧ SqL K H1 l ws ∧ Paired (fun v (x : NIt) => v = .ref x.2.1 ∧ x.2.2 = .bl true ∧ SpotAt K H1 v x.1) ws xs ∧ xs.length ≤ 100000 ∧
  ∀ p ys, H1 p = none → Dedup xs ys → Q (.ref p) (upd H1 p (DNO P w p ys))
theorem nat_ne1 {b N C : Nat} (h1 : b < N) (h2 : N ≤ C) : b ≠ C := by omega
theorem nat_le1 {N C : Nat} (h : N + 1 ≤ C) : N ≤ C := by omega
theorem nat_ne2 {N C : Nat} (h : N + 1 ≤ C) : N ≠ C := by omega
theorem pe_dcN {k k2 : Nat} {l : Expr} {tl : TE} {x : Str} {p1 p2 p3 pos : Pos} {scope : Scope} (hr : Room k X.A) (hc : X.calm = true) (hl : PE X l tl) (hkind : scope.kind = .function) (hnames : scope.names = [((".0" : Str), .local), (x, .local)]) (hx0 : (x == (".0" : Str)) = false := by decide) (hdb : (x == ("__debug__" : Str)) = false := by decide)
    (hcd : (x == ("__classdict__" : Str)) = false := by decide) (hs : ∀ z, foldedSetIterable l X.env z = pure z := by intro _; rfl) :
    PE X (.DictComp (.Name x p1) (.Constant (.bool true) k2 p2) [⟨.Name x p3, l, [], 0⟩] scope pos) (tDcN X.prog X.w X.K tl) := by
  refine ⟨fun pins s σ H Q I h => ?_⟩
  have hloc : ∀ y ∈ scope.names, y.2 = NameKind.local := fun y hy => by
    rw [hnames] at hy
    rcases List.mem_cons.mp hy with h | h
    · rw [h]
    · rw [List.mem_singleton.mp h]
  have hclos : closureFor scope X.env = pure (cloFrom X.env.cells scope.names []) := closure_ok fun y hy e => by
    rw [hloc y hy] at e
    cases e
  have hx0' : x ≠ (".0" : Str) := fun z => by rw [z] at hx0; simp at hx0
  refine DictComp_goes hclos (fun y hy e => by rw [hloc y hy] at e; cases e) hkind (fun y hy _ => by
    rw [hnames] at hy
    rw [hnames]
    rcases List.mem_cons.mp hy with h | h
    · subst h; simp
    · rw [List.mem_singleton] at h; subst h; simp [List.lookup, hx0]) (thn (hl.run pins s σ H _ I h) fun v s1 h1 => ?_) hs
  obtain ⟨x0, H1, I1, rx, a, ws, xs, rfl, hq, hp, hz, q⟩ := h1
  cases (show v = Value.ref a from rx)
  obtain ⟨its, rv, pl, _⟩ := I1.list hq
  have hlt : a < s1.heap.objs.size := by obtain ⟨o, n, e, _⟩ := pl; exact Heap.lt_size e
  refine wpAny_pyIter_list pl.isList ?_
  have hil : (s1.heap.push { cls := .type "list_iterator", data := .fields #[.ref a, .int 0 0] }).IsListIter s1.heap.objs.size a 0 := ⟨_, Heap.get?_push_size _ rfl, rfl, rfl⟩
  have hll : (s1.heap.push { cls := .type "list_iterator", data := .fields #[.ref a, .int 0 0] }).IsList a its.toArray := pl.isList.at fun o e => Heap.get?_push_of_some _ e
  refine ⟨_, _, _, _, _, _, rfl, .list (A := X.A) hr.hd _ a (Nat.ne_of_lt hlt) its.toArray, ⟨hil, hll⟩, fun D C s₃ hB hD0 => ?_⟩
  obtain ⟨⟨h₃, tk₃, rfl⟩, old, nD, nC, hDC, hnm⟩ := hB
  have nD' : s1.heap.objs.size + 1 ≤ D := by rw [← Heap.size_push]; exact nD
  have nC' : s1.heap.objs.size + 1 ≤ C := by rw [← Heap.size_push]; exact nC
  have hDI : D ≠ s1.heap.objs.size := Ne.symm (nat_ne2 nD')
  have hCI : C ≠ s1.heap.objs.size := Ne.symm (nat_ne2 nC')
  have kx_ : (compEnvC scope (cloFrom X.env.cells scope.names []) C X.env).kindOf x = some .local := lookup_relabel_local (by rw [hnames]; simp [List.lookup, hx0])
  have hpl : ((compEnvC scope (cloFrom X.env.cells scope.names []) C X.env).scope.kind == .class || ((compEnvC scope (cloFrom X.env.cells scope.names []) C X.env).scope.kind == .module && (compEnvC scope (cloFrom X.env.cells scope.names []) C X.env).locals != (compEnvC scope (cloFrom X.env.cells scope.names []) C X.env).globals)) = false := by
    show (scope.kind == .class || (scope.kind == .module && _)) = false
    rw [hkind]; rfl
  have keyAt : ∀ (h : Heap), (∀ b o, s1.heap.get? b = some o → h.get? b = some o) → ∀ z ∈ xs, (nestedKind X.prog X.w).is h (sk z.1) z.2.1 := fun h kp z hz' => by
    have sp : SpotAt X.K H1 (.ref z.2.1) z.1 := by
      obtain ⟨i, hi⟩ := List.mem_iff_getElem?.mp hz'
      obtain ⟨v, _, ev, _, q⟩ := paired_get hp hi
      rw [← ev]; exact q
    exact nestedKind_stays.stays (fun b o vs n e _ => kp b o e) (sp.key I1)
  refine ⟨fun i s' => ∃ h' tk m us, s' = { s1 with heap := h', toks := tk } ∧ h'.Ns C m ∧ (∀ b o, s1.heap.get? b = some o → h'.get? b = some o) ∧ Paired KR (storedAllN [] (xs.take i)) us ∧ h'.DictOfH (nestedKind X.prog X.w) D us,
    ⟨h₃, tk₃, _, [], rfl, hnm, fun b o e => old b o (Heap.get?_push_of_some _ e), .nil, ⟨_, #[], 0, hD0, ⟨rfl, rfl, rfl⟩, rfl, rfl, fun _ z => (nomatch z), List.nodup_nil⟩⟩, ?_, ?_, ?_⟩
  · rintro i s' h' tk ⟨h₄, tk₄, m, us, rfl, n₄, k₄, r₄, d₄⟩ hk' _
    have k5 : ∀ b o, s1.heap.get? b = some o → h'.get? b = some o := fun b o e => hk' b o (fun z => by rw [List.mem_singleton.mp z] at e; exact absurd (Heap.lt_size e) (Nat.lt_irrefl _)) (k₄ b o e)
    refine ⟨h', tk, m, us, rfl, n₄.at' fun o e => hk' _ o (fun z => hCI (List.mem_singleton.mp z)) e, k5, r₄, d₄.at' (fun o e => hk' _ o (fun z => hDI (List.mem_singleton.mp z)) e) fun y hy => ?_⟩
    obtain ⟨z, hz', e1, e2, _⟩ := KR.mem r₄ hy
    obtain ⟨z2, hz2, f1, f2⟩ := (dedup_all (xs.take i)).from_ z hz'
    rw [e1, e2, ← f1, ← f2]
    exact keyAt _ k5 z2 (List.mem_of_mem_take hz2)
  · rintro i v s' hi hy st ⟨h₄, tk₄, m, us, rfl, n₄, k₄, r₄, d₄⟩
    have hy' : its[i]? = some v := by rw [← List.getElem?_toArray]; exact hy
    obtain ⟨y, hyv, ry⟩ : ∃ y, ws[i]? = some y ∧ RelV y v := by
      have hlen := rv.length
      have hi2 : i < ws.length := by rw [hlen]; exact (List.getElem?_eq_some_iff.mp hy').1
      obtain ⟨u, h1, h2⟩ := rv.get (List.getElem?_eq_getElem hi2)
      rw [hy'] at h1
      exact ⟨_, List.getElem?_eq_getElem hi2, by rw [Option.some.inj h1]; exact h2⟩
    obtain ⟨z, hz1, e1, e2, sp⟩ := paired_get' hp hyv
    subst e1
    cases (show v = Value.ref z.2.1 from ry)
    refine wpAny_assign_Name (wpAny_storeName_local kx_ n₄ (fun h₅ n₅ s₅ => wpAny_tests_nil ?_) hpl)
    have up5 : ∀ b o, b ≠ C → h₄.get? b = some o → h₅.get? b = some o := fun b o hb e => s₅.extBut _ _ hb e
    have k5 : ∀ b o, s1.heap.get? b = some o → h₅.get? b = some o := fun b o e => up5 b o (nat_ne1 (Heap.lt_size e) (nat_le1 nC')) (k₄ b o e)
    show wpAny _ _ (eval (.Name x p1) _) _ _ _
    rw [eval_Name _ _ _ hdb]
    refine wpAny_bind (wpAny_standAt (wpAny_loadName_local hkind kx_ n₅ (v := .ref z.2.1) (by simp) ?_))
    refine Constant_bool ?_
    have d5 : h₅.DictOfH (nestedKind X.prog X.w) D us := d₄.at' (fun o e => up5 D o hDC e) fun y hy => by
      obtain ⟨z3, hz3, e3, e4, _⟩ := KR.mem r₄ hy
      obtain ⟨z2, hz2, f1, f2⟩ := (dedup_all (xs.take i)).from_ z3 hz3
      rw [e3, e4, ← f1, ← f2]
      exact keyAt _ k5 z2 (List.mem_of_mem_take hz2)
    have hus : us.length ≤ sizeLine := by
      have h1 := Paired.length r₄
      have h2 := (dedup_all (xs.take i)).len
      rw [List.length_take] at h2
      exact sz_small (by omega)
    refine wpAny_dictSet_heap (hsz := hus) (room_n0 hr) (keyAt _ k5 z (List.mem_of_getElem? hz1)) d5 fun h₆ d₆ s₆ => ?_
    have up6 : ∀ b o, b ≠ D → h₅.get? b = some o → h₆.get? b = some o := fun b o hb e => (s₆.2 b hb).trans e
    have k6 : ∀ b o, s1.heap.get? b = some o → h₆.get? b = some o := fun b o e => up6 b o (nat_ne1 (Heap.lt_size e) (nat_le1 nD')) (k5 b o e)
    refine ⟨⟨h₆, _, _, _, rfl, n₅.at' fun o e => up6 C o (Ne.symm hDC) e, k6, ?_, d₆⟩, ?_⟩
    · have e5 : storedAllN [] (xs.take (i + 1)) = storedN (storedAllN [] (xs.take i)) z.1 z.2.1 z.2.2 := by
        unfold storedAllN
        rw [List.take_add_one, hz1, List.foldl_append]
        rfl
      rw [e5, e2]
      exact kr_stored r₄ rfl
    · obtain ⟨z1, z2⟩ := st
      refine ⟨z1.at fun o e => up6 _ o (Ne.symm hDI) (up5 _ o (Ne.symm hCI) e), z2.at fun o e => up6 _ o (nat_ne1 hlt (nat_le1 nD')) (up5 _ o (nat_ne1 hlt (nat_le1 nC')) e)⟩
  · rintro s' ⟨h₄, tk₄, m, us, rfl, n₄, k₄, r₄, d₄⟩
    refine ⟨m, n₄, fun h' hs' => ?_⟩
    have up : ∀ b o, b ≠ C → h₄.get? b = some o → h'.get? b = some o := fun b o hb e => hs'.extBut b o hb e
    have k7 : ∀ b o, s1.heap.get? b = some o → h'.get? b = some o := fun b o e => up b o (nat_ne1 (Heap.lt_size e) (nat_le1 nC')) (k₄ b o e)
    have hxl : xs.take its.toArray.size = xs := by
      rw [List.size_toArray, ← rv.length, paired_len hp, List.take_length]
    rw [hxl] at r₄
    have d7 : h'.DictOfH (nestedKind X.prog X.w) D us := d₄.at' (fun o e => up D o hDC e) fun y hy => by
      obtain ⟨z3, hz3, e3, e4, _⟩ := KR.mem r₄ hy
      obtain ⟨z2, hz2, f1, f2⟩ := (dedup_all xs).from_ z3 hz3
      rw [e3, e4, ← f1, ← f2]
      exact keyAt _ k7 z2 hz2
    refine ⟨.ref D, _, I1.laid (t' := tk₄) (a := D) k7 (nat_le1 nD') (dn_ok ?_ r₄ d7), rfl, q D _ (I1.hok.fresh (nat_le1 nD')) (dedup_all xs)⟩
    exact beq_eq_false_iff_ne.mpr (Ne.symm (Nat.ne_of_lt (Nat.lt_of_lt_of_le I1.big (nat_le1 nD'))))
end
end K5

set_option Elab.async false
set_option linter.all false
set_option maxRecDepth 100000
set_option maxHeartbeats 4000000
/-! set(l) of a list or a tuple of whole numbers, as a set whose sorted list is known. -/
namespace K5
open PySem PySem.Spec PyProof.Rows L2

/-- the empty set, as set() lays it -/
abbrev eS (w : World) : Obj := { cls := .type "set", dict := none, data := .set #[] 0 (.fresh 0 0 (!w.params.followText "set-order")) }
section
variable {P : Program} {w : World} {A : Around} {E : Value → Shared → Prop} {s : Shared}
/-- the filling of the set at S by the list at l -/
theorem fill_list {S l : Addr} {items : Array Value} {ns : List Int} {Z : Result → Shared → Prop} (hh : A.in1.handled = none) (hS : s.heap.get? S = some (eS w)) (hl : s.heap.IsList l items) (hit : IntsAre items.toList ns) (hb : ns.length + 1 < scanBound) (hlS : l ≠ S)
    (h : ∀ h' tk c, SetR w h' S (fun j => decide (j ∈ ns)) c → c ≤ ns.length → (∀ b o, b ≠ S → s.heap.get? b = some o → h'.get? b = some o) → Z (.ok (.ret .none)) { s with heap := h', toks := tk }) :
    codeAny (model P w) A (.builtin "set.update.loop" ⟨[.ref S, .ref s.heap.objs.size], []⟩) Z { s with heap := s.heap.push { cls := .type "list_iterator", data := .fields #[.ref l, .int 0 0] } } := by
  have hsz : items.size = ns.length := by rw [← Array.length_toList]; exact IntsAre.length hit
  have lI : l < s.heap.objs.size := by obtain ⟨o, e, _⟩ := hl; exact Heap.lt_size e
  have SI : S < s.heap.objs.size := Heap.lt_size hS
  have off : S ∉ [s.heap.objs.size, l] := fun z => by
    rcases List.mem_cons.mp z with e | z
    · exact absurd e (Nat.ne_of_lt SI)
    · exact hlS (List.mem_singleton.mp z).symm
  have vals : ∀ (i : Nat) (v : Value), items[i]? = some v → ∃ k t, ns[i]? = some k ∧ v = .int k t := fun i v hv => by
    obtain ⟨t, e⟩ := IntsAre.int_at hit i v (by rw [Array.getElem?_toList]; exact hv)
    have hi : i < ns.length := hsz ▸ (Array.getElem?_eq_some_iff.mp hv).1
    exact ⟨ns[i], t, List.getElem?_eq_getElem hi, by rw [e, List.getD_eq_getElem?_getD, List.getElem?_eq_getElem hi]; rfl⟩
  have st0 : (s.heap.push { cls := .type "list_iterator", data := .fields #[.ref l, .int 0 0] }).IsListIter s.heap.objs.size l 0 := ⟨_, Heap.get?_push_size _ rfl, rfl, rfl⟩
  refine set_update_ints ((Walks.list (A := A.in1) hh s.heap.objs.size l (Nat.ne_of_lt lI) items).toS) S off ns hsz hb vals (items.size - 0) 0 _ (by omega) (Nat.zero_le _) ⟨st0, hl.at fun o e => Heap.get?_push_of_some _ e⟩
    ⟨0, Nat.le_refl 0, setR_new_at (Heap.get?_push_of_some _ hS)⟩ fun s' c hm hc hR => ?_
  obtain ⟨h', g', d', t', o'⟩ := s'
  have e1 : g' = s.gens := hm.gens
  have e2 : d' = s.drawn := hm.drawn
  have e3 : o' = s.os := hm.os
  subst e1 e2 e3
  refine h h' t' c hR (hsz ▸ hc) fun b o hb' e => hm.heap b o (fun z => ?_) (Heap.get?_push_of_some _ e)
  rcases List.mem_cons.mp z with q | q
  · exact hb' q
  · have e5 : b = s.heap.objs.size := List.mem_singleton.mp q
    rw [e5] at e
    exact absurd (Heap.lt_size e) (Nat.lt_irrefl _)

/-- set(l), l a list of whole numbers -/
theorem set_of_list {l : Addr} {items : Array Value} {ns : List Int} {Q : Value → Shared → Prop} (hh : A.handled = none) (hl : s.heap.IsList l items) (hit : IntsAre items.toList ns) (hb : ns.length + 1 < scanBound)
    (h : ∀ h' tk c, SetR w h' s.heap.objs.size (fun j => decide (j ∈ ns)) c → c ≤ ns.length → (∀ b o, s.heap.get? b = some o → h'.get? b = some o) → Q (.ref s.heap.objs.size) { s with heap := h', toks := tk }) :
    wpAny (model P w) A (call (.type "set") [.ref l]) Q E s := by
  obtain ⟨c, tl, hmro⟩ := F.called_set.mro
  have c1 := F.called_set.made
  have c2 := F.called_set.sub
  have c3 := F.called_set.notType
  have c4 := F.called_set.canCreate
  have c5 := F.typeCall_set_1 (.ref l)
  refine wpAny_call (codeAny_of_tree ?_)
  change wpAny _ _ (callAny (.type "set") ⟨[.ref l], []⟩) _ _ s
  refine wpAny_pure (And.intro (Code.quiet_builtin _ (by decide +kernel)) (codeAny_builtin F.entry_type_call ?_))
  rw [Around.under_plain (weight_type_call_type "set" [.ref l] []) rfl]
  repeat (any_goals (first | assumption | wp_step))
  refine codeAny_mono (code_set_led1 (.ref l) (E := E) (Q₁ := fun obj s₁ => obj = .ref s.heap.objs.size ∧ s₁ = { s with heap := s.heap.push (eS w) }) ⟨rfl, rfl⟩) fun r s₁ hr => ?_
  match r, hr with
  | .error e, hr => exact hr
  | .ok .next, hr => exact hr.elim
  | .ok .brk, hr => exact hr.elim
  | .ok .cont, hr => exact hr.elim
  | .ok (.ret obj), hr =>
    obtain ⟨rfl, rfl⟩ := hr
    have hS : (s.heap.push (eS w)).get? s.heap.objs.size = some (eS w) := Heap.get?_push_size _ rfl
    have hT : Shared.TypeIs { s with heap := s.heap.push (eS w) } (.ref s.heap.objs.size) "set" := ⟨_, hS, rfl⟩
    have b1 := F.called_set.init.lookup
    have b2 := F.called_set.init.bind (.ref s.heap.objs.size)
    repeat (any_goals (first | assumption | wp_step))
    refine codeAny_mono (codeAny_call_builtin (R := wants (fun r s₂ => r = .none ∧ ∃ h' tk c, s₂ = { s with heap := h', toks := tk } ∧ SetR w h' s.heap.objs.size (fun j => decide (j ∈ ns)) c ∧ c ≤ ns.length ∧ ∀ b o, s.heap.get? b = some o → h'.get? b = some o) E)
      F.called_set.init.plain F.entry_set_init (check_set_init_1 hT ?_)) fun r₂ s₂ hr₂ => ?_
    · obtain ⟨⟨ocls, odict, odata, oslots⟩, hol, hcl, nl, hdl⟩ := hl
      simp only at hcl hdl
      subst hcl hdl
      have hlt : l < s.heap.objs.size := Heap.lt_size hol
      have hol' : (s.heap.push (eS w)).get? l = some { cls := .type "list", dict := odict, data := .seq items nl, slots := oslots } := Heap.get?_push_of_some _ hol
      have hl1 : (s.heap.push (eS w)).IsList l items := ⟨_, hol', rfl, nl, rfl⟩
      have n1 := F.sub_list_set
      have n2 := F.sub_list_frozenset
      have n3 : (Value.type "list" == Value.type "dict") = false := by decide
      unfold Builtin.«set.__init__» noKeywords Builtin.Frozenset.updateFrom
      generalize hPI : pyIter = PI
      wp_walk
      subst hPI
      refine wpAny_pyIter_list hl1 (wpAny_bind (wpAny_runValue (fill_list (s := { s with heap := s.heap.push (eS w) }) (by simp [hh]) hS hl1 hit hb (Nat.ne_of_lt hlt) fun h' tk c hR hc hk => ?_)))
      show wpAny _ _ _ _ _ _
      refine wpAny_pure ?_
      show wpAny _ _ (ret Value.none) _ _ _
      exact wpAny_pure ⟨rfl, h', tk, c, rfl, hR, hc, fun b o e => hk b o (Nat.ne_of_lt (Heap.lt_size e)) (Heap.get?_push_of_some _ e)⟩
    · match r₂, hr₂ with
      | .error e, hr₂ => exact hr₂
      | .ok .next, hr₂ => exact hr₂.elim
      | .ok .brk, hr₂ => exact hr₂.elim
      | .ok .cont, hr₂ => exact hr₂.elim
      | .ok (.ret r), hr₂ =>
        obtain ⟨rfl, h', tk, c', rfl, hR, hc, hk⟩ := hr₂
        repeat (any_goals (first | assumption | wp_step))
        exact h _ _ _ hR hc hk
end

section
variable {X : Cx}
/-- set(l), l a list or a tuple of whole numbers -/
def rSetI (w : World) (K : PySem.W.Frag) : List V → Hp → VK → Prop := fun vs H Q => ∃ (l : Addr) (ns : List Int), vs = [.ref l] ∧ (SqL K H l (ns.map V.int) ∨ SqT K H l (ns.map V.int)) ∧ ns.length ≤ 1000 ∧
  ∀ p n, H p = none → n ≤ ns.length → Q (.ref p) (upd H p (SetO w p (fun j => decide (j ∈ ns)) n))
theorem scan_small {n : Nat} (h : n ≤ 1000) : n + 1 < scanBound := by unfold scanBound; omega
theorem call_setI (hc : X.calm = true) : CallR X (.type "set") (rSetI X.w X.K) := by
  intro pins s σ H vs us Q I r h
  obtain ⟨l, ns, rfl, hl, hz, q⟩ := h
  rw [Vals.ref1 r]
  rcases hl with hl | hl
  · obtain ⟨its, rv, pl, _⟩ := I.list hl
    refine set_of_list (I.ok.hd hc) pl.isList (by rw [List.toList_toArray]; exact rv.ints) (scan_small hz) fun h' tk c hR hc' k => ?_
    exact ⟨.ref s.heap.objs.size, _, I.laid (t' := tk) k (Nat.le_refl _) (setO_new hR), rfl, q _ c (I.hok.fresh (Nat.le_refl _)) hc'⟩
  · obtain ⟨its, rv, it, _⟩ := I.tuple hl
    refine call_set_tupI ns (I.ok.hd hc) it (by rw [List.toList_toArray]; exact rv.ints) (scan_small hz) fun h' tk c hR hc' k => ?_
    exact ⟨.ref s.heap.objs.size, _, I.laid (t' := tk) k (Nat.le_refl _) (setO_new hR), rfl, q _ c (I.hok.fresh (Nat.le_refl _)) hc'⟩
end
end K5

set_option Elab.async false
set_option linter.all false
set_option maxRecDepth 100000
set_option maxHeartbeats 4000000
/-! Further rules of mine: enumerate of a text and of a tuple, len(x) and x != y of an own slotted class, a method of one of several classes, i not in range(n). -/
namespace K5
open PySem PySem.Spec PyProof.Rows L2

/-! ### enumerate -/
/-- n pairs of the turn and an item, while G stands -/
def Iten (items : Nat → Option V) (n : Nat) (G : Hp → Prop) : It :=
  ⟨fun i H => i < n ∧ G H, fun i H v H' => ∃ T x, v = .ref T ∧ H T = none ∧ H' = upd H T (.tup [.int (i : Nat), x]) ∧ items i = some x, fun i H => i = n ∧ G H⟩
theorem walk_en {items : Nat → Option V} {n : Nat} {G : Hp → Prop} : Walk (Iten items n G) n G (YPair (fun i => some (.int (i : Nat))) items) :=
  ⟨fun _ _ hi q => ⟨hi, q⟩, fun _ q => ⟨rfl, q⟩, fun _ _ _ _ _ _ ⟨T, x, e1, e2, e3, e4⟩ => ⟨T, _, x, e1, e2, e3, rfl, e4⟩⟩

theorem meets_enum1 {v : Value} {o : Obj} {U : Heap → Prop} (B : Begins v o U) :
    Meets (Builtin.«enumerate.__new__» ⟨[.type "enumerate", v], []⟩) (fun _ R s => U s.heap ∧
      R (.ok (.ret (.ref (s.heap.push o).objs.size))) { s with heap := (s.heap.push o).push { cls := .type "enumerate", data := .fields #[.none, .bool false, .ref s.heap.objs.size, rawInt 0, .none, .none] } }) :=
  .of_wp fun prog w A R s h => by
    obtain ⟨hp, g, d, tk, os⟩ := s
    obtain ⟨h1, h⟩ := h
    have hsub := sub_enumerate
    have step : ∀ {A' : Around} {E : Value → Shared → Prop} {Q : Value → Shared → Prop}, Q (.ref hp.objs.size) ⟨hp.push o, g, d, tk, os⟩ → wpAny (model prog w) A' (pyIter v) Q E ⟨hp, g, d, tk, os⟩ := fun q => B.iter prog w _ _ ⟨hp, g, d, tk, os⟩ _ h1 q
    wp_walk using step
    refine wpAny_stack_any fun st => wpAny_pure ?_
    split
    · rename_i c _ _ _ _ _
      cases (c == Value.type "enumerate") <;> (wp_walk using step; exact ⟨_, rfl, h⟩)
    · wp_walk using step
      exact ⟨_, rfl, h⟩
theorem call_enum1 {prog : Program} {w : World} {A : Around} {E : Value → Shared → Prop} {s : Shared} {v : Value} {o : Obj} {U : Heap → Prop} {Q : Value → Shared → Prop} (B : Begins v o U) (h1 : U s.heap)
    (h : ∀ h', IsEnum h' (s.heap.objs.size + 1) s.heap.objs.size 0 .none → h'.get? s.heap.objs.size = some o → h'.objs.size = s.heap.objs.size + 2 → (∀ b u, s.heap.get? b = some u → h'.get? b = some u) → Q (.ref (s.heap.objs.size + 1)) { s with heap := h' }) :
    wpAny (model prog w) A (call (.type "enumerate") [v]) Q E s := by
  have z : (s.heap.push o).objs.size = s.heap.objs.size + 1 := Heap.size_push ..
  have en := Heap.get?_push_size (s.heap.push o) (o := { cls := .type "enumerate", data := .fields #[.none, .bool false, .ref s.heap.objs.size, rawInt 0, .none, .none] }) rfl
  rw [z] at en
  refine callType_new F.called_enumerate (by decide) (F.typeCall_enumerate_1 _) (F.newCall_enumerate_1 _) (fun obj => F.args_object_init_2 obj _) F.entry_enumerate_new (meets_enum1 B) ⟨h1, ?_⟩
  refine show _ ∧ _ from ?_
  rw [z]
  exact ⟨⟨_, en, rfl⟩, h _ en (Heap.get?_push_of_some _ (Heap.get?_push_size _ B.free)) (by rw [Heap.size_push, z]) fun b u e => Heap.get?_push_of_some _ (Heap.get?_push_of_some _ e)⟩

/-- an enumerate over something that draws, as a turn: what is read of tracked things is told by G -/
theorem turn_en {P : Program} {w : World} {K : PySem.W.Frag} {elts : List Expr} {kk : Nat} {tpos : Pos} {e it : Addr} {items : Nat → Option V} {n : Nat} {G : Hp → Prop} {St : Nat → Heap → Prop} (hne : e ≠ it)
    (ob : ∀ i h, St i h → ∃ o, h.get? it = some o ∧ ∀ v, o.data ≠ .cell v) (keep : ∀ i h h', St i h → (∀ o, h.get? it = some o → h'.get? it = some o) → St i h')
    (draws : ∀ (X : Cx) (pins : List (Addr × Obj)) (s : Shared) (σ : L2.St) (H : Hp), X.prog = P → X.w = w → X.K = K → X.calm = true → Inv X pins σ H s → G H → H it = none → H e = none →
      ∃ (fp : List Addr) (Pv : Nat → Value → Prop) (St2 : Nat → Heap → Prop), Draws P w X.A.in1 it fp n Pv St2 ∧ it ∈ fp ∧ e ∉ fp ∧ (∀ i, St i s.heap → St2 i s.heap) ∧ (∀ i h, St2 i h → St i h) ∧ ∀ i u, Pv i u → ∃ x, items i = some x ∧ RelV x u) :
    Turn P w K (.Tuple elts kk tpos) (Iten items n G) [e, it] e (fun i h => (∃ old, IsEnum h e it ((i : Nat) : Int) old) ∧ St i h) where
  mem := List.mem_cons_self
  obj := fun i h st b hb => by
    obtain ⟨⟨old, he⟩, hs⟩ := st
    rcases List.mem_cons.mp hb with rfl | hb
    · exact ⟨_, he, fun v q => nomatch q⟩
    · rw [List.mem_singleton.mp hb]
      exact ob i h hs
  keep := fun i h h' st k => let ⟨⟨old, he⟩, hs⟩ := st; ⟨⟨old, k e List.mem_cons_self _ he⟩, keep i h h' hs fun o q => k it (List.mem_cons_of_mem _ List.mem_cons_self) o q⟩
  item := by
    intro X hP hw hK hc i pins s σ H E I hf st hg
    obtain ⟨he, hs⟩ := st
    have f1 := hf e List.mem_cons_self
    have f2 := hf it (List.mem_cons_of_mem _ List.mem_cons_self)
    obtain ⟨fp, Pv, St2, D, m1, m2, s1, s2, val⟩ := draws X pins s σ H hP hw hK hc I hg.2 f2.1 f1.1
    subst hP hw hK
    have W := GoesN.enumFrom (elts := elts) (x1 := kk) (pos := tpos) 0 D e hne m2 m1
    have st2 : (∃ old, IsEnum s.heap e it (0 + (i : Int)) old) ∧ St2 i s.heap := ⟨by rw [Int.zero_add]; exact he, s1 i hs⟩
    refine wpAny_mono (W.goes i s (fun u s₂ => ∃ x H', Inv X pins σ H' s₂ ∧ RelV x u ∧ (Iten items n G).yld i H x H' ∧ ((∃ old, IsEnum s₂.heap e it (((i + 1 : Nat)) : Int) old) ∧ St (i + 1) s₂.heap) ∧ ∀ b ∈ [e, it], H' b = none) E hg.1 st2 ?_) (fun r s₁ h => h) fun _ _ h => h
    rintro u h' tk ⟨T, t, x, rfl, hT, hp, hTup⟩ st' hk htk
    obtain ⟨y, hy, ry⟩ := val i x hp
    obtain ⟨oT, ho, hcT, nT, hdT⟩ := hTup
    have ez : (0 : Int) + (i : Int) = ((i : Nat) : Int) := Int.zero_add _
    have new : ObjOk X.prog X.w (upd H T (.tup [.int (i : Nat), y])) h' T (.tup [.int (i : Nat), y]) :=
      ⟨by show 2 ≤ sizeLine; decide, [.int (0 + (i : Int)) t, x], .cons ⟨t, by rw [ez]⟩ (.cons ry .nil), ⟨oT, ho, hcT, nT, hdT⟩⟩
    have I1 : Inv X pins σ (upd H T (.tup [.int (i : Nat), y])) { s with heap := h', toks := tk } := I.turnedNew (ch := [e, it]) (fun b o hb q => hk b o hb q) hf hT new
    have e1 : (0 : Int) + ((i + 1 : Nat) : Int) = ((i + 1 : Nat) : Int) := Int.zero_add _
    refine ⟨.ref T, _, I1, rfl, ⟨T, y, rfl, I.hok.fresh hT, rfl, hy⟩, ⟨?_, s2 _ _ st'.2⟩, fun b hb => ?_⟩
    · have q := st'.1
      rw [e1] at q
      exact q
    · have hb2 : H b = none := (hf b hb).1
      rw [upd_ne fun z => ?_]
      · exact hb2
      · subst z
        obtain ⟨o, eo⟩ : ∃ o, s.heap.get? b = some o := by
          rcases List.mem_cons.mp hb with q | q
          · rw [q]; obtain ⟨old, q⟩ := he; exact ⟨_, q⟩
          · rw [List.mem_singleton.mp q]; obtain ⟨o, q, _⟩ := ob i _ hs; exact ⟨o, q⟩
        exact absurd (Nat.lt_of_lt_of_le (Heap.lt_size eo) hT) (Nat.lt_irrefl _)
  done := by
    intro X hP hw hK hc i pins s σ H E I hf st hg
    obtain ⟨he, hs⟩ := st
    have f1 := hf e List.mem_cons_self
    have f2 := hf it (List.mem_cons_of_mem _ List.mem_cons_self)
    obtain ⟨fp, Pv, St2, D, m1, m2, s1, s2, val⟩ := draws X pins s σ H hP hw hK hc I hg.2 f2.1 f1.1
    subst hP hw hK
    obtain ⟨rfl, _⟩ := hg
    have W := GoesN.enumFrom (elts := elts) (x1 := kk) (pos := tpos) 0 D e hne m2 m1
    refine W.stops s (fun s₁ => Inv X pins σ H s₁) E ⟨by rw [Int.zero_add]; exact he, s1 i hs⟩ fun h' tk hk _ => ?_
    exact I.step (g' := s.gens) (d' := s.drawn) (t' := tk) (ch := [e, it]) (fun b hb => let z := hf b hb; ⟨z.2.2.2.1, z.2.1, z.2.2.2.2.1, z.2.2.2.2.2⟩) (fun b o _ _ hc q _ => hk b o hc q) (fun b o _ _ hc q _ => ⟨o.slots, hk b o hc q⟩)
      (fun _ _ _ _ z => z) (fun b o hc q => ⟨o, hk b o hc q⟩) (fun _ _ q => q) (fun _ _ _ q => q) (fun _ _ q => ⟨#[], by rw [q]; simp⟩) (fun m hm => hm.at' fun o q => hk _ o (fun z => (hf _ z).2.1 rfl) q)
      (fun b u q => (I.hok b u q).stay (fun c v hcb r => hk c v (fun z => by
        have hn := (hf c z).1
        rcases hcb with w1 | w1
        · rw [w1, q] at hn; cases hn
        · rw [w1] at hn; cases hn) r) (fun _ z => z) fun _ _ z => z) I.bare
  self := fun A i s Q E st h => by
    obtain ⟨⟨old, he⟩, _⟩ := st
    exact wpAny_pyIter_enum he h

/-- enumerate(x), x a text | a tuple -/
def iEnumS (ta : TA) : TI := fun σ H R => ta σ H fun vs H1 => ∃ z : Str, vs = [.str z] ∧ R (Iten (fun i => (z.cps[i]?).map fun c => V.str ⟨#[c]⟩) z.cps.size (fun _ => True)) H1
def iEnumT (K : PySem.W.Frag) (ta : TA) : TI := fun σ H R => ta σ H fun vs H1 => ∃ (a : Addr) (xs : List V), vs = [.ref a] ∧ SqT K H1 a xs ∧ R (Iten (fun i => xs[i]?) xs.length (fun H => SqT K H a xs)) H1
section
variable {X : Cx} {e : Expr} {ta : TA} {p pos tpos : Pos} {elts : List Expr} {kk : Nat}
theorem two_new {N a : Nat} (h : a = N + 1 ∨ a = N) : N ≤ a := by omega
theorem pi_enumS (hm : X.mg "enumerate" = none) (ha : PA X [e] ta) (hg : Gl X "enumerate" := by rfl) (hs : starEach [e] X.env = [(false, eval e X.env)] := by rfl) : PI X (.Tuple elts kk tpos) (.Call (.Name "enumerate" p) [e] [] pos) (iEnumS ta) := by
  refine ⟨fun pins s σ H R I h => Call_ (ld_blt I hg hm boot_enumerate (callWith_type1 (thn (ha.run pos pins s σ H _ I h) fun us s1 h1 => ?_) hs rfl))⟩
  obtain ⟨vs, H1, I1, r1, z, rfl, q⟩ := h1
  obtain ⟨u, rfl, t, rfl⟩ := r1.one
  refine call_enum1 (begins_text z t) trivial fun h' he ho hz hk => wpAny_pyIter_enum he ?_
  refine ⟨s1.heap.objs.size + 1, [s1.heap.objs.size + 1, s1.heap.objs.size], _, _, H1, rfl, I1.kept (t' := s1.toks) hk, turn_en (it := s1.heap.objs.size) (St := fun i h => h.IsStrIter s1.heap.objs.size (strIterType z) z t i) (Nat.succ_ne_self _) (fun i h st => ?_) (fun i h h' st k => ?_) (fun X' pins' s' σ' H' hP hw hK hc I' _ hn hn2 => ?_), ⟨⟨.none, he⟩, ⟨_, ho, rfl, rfl⟩⟩, fun b hb => ?_, q⟩
  · obtain ⟨o, e1, e2, e3⟩ := st
    exact ⟨o, e1, fun v z => by rw [e3] at z; cases z⟩
  · obtain ⟨o, e1, e2, e3⟩ := st
    exact ⟨o, k o e1, e2, e3⟩
  · rw [← hP, ← hw]
    exact ⟨_, _, _, Draws.text (A := X'.A.in1) (by simp [I'.ok.hd hc]) s1.heap.objs.size z t, List.mem_cons_self, fun z => absurd (List.mem_singleton.mp z) (Nat.succ_ne_self _), fun _ h => h, fun _ _ h => h, fun i u ⟨c, t', hc', hu⟩ => ⟨.str ⟨#[c]⟩, by rw [hc']; rfl, by rw [hu]; exact ⟨t', rfl⟩⟩⟩
  · have hle : s1.heap.objs.size ≤ b := two_new (by rcases List.mem_cons.mp hb with w | w; exact .inl w; exact .inr (List.mem_singleton.mp w))
    exact I1.fpOk hle (I1.hok.fresh hle)
theorem pi_enumT (hm : X.mg "enumerate" = none) (ha : PA X [e] ta) (hg : Gl X "enumerate" := by rfl) (hs : starEach [e] X.env = [(false, eval e X.env)] := by rfl) : PI X (.Tuple elts kk tpos) (.Call (.Name "enumerate" p) [e] [] pos) (iEnumT X.K ta) := by
  refine ⟨fun pins s σ H R I h => Call_ (ld_blt I hg hm boot_enumerate (callWith_type1 (thn (ha.run pos pins s σ H _ I h) fun us s1 h1 => ?_) hs rfl))⟩
  obtain ⟨vs, H1, I1, r1, a, xs, rfl, hq, q⟩ := h1
  rw [Vals.ref1 r1]
  obtain ⟨its, rv, tp, _⟩ := I1.tuple hq
  refine call_enum1 (begins_tuple a its.toArray) tp fun h' he ho hz hk => wpAny_pyIter_enum he ?_
  refine ⟨s1.heap.objs.size + 1, [s1.heap.objs.size + 1, s1.heap.objs.size], _, _, H1, rfl, I1.kept (t' := s1.toks) hk, turn_en (it := s1.heap.objs.size) (St := fun i h => h.IsTupleIter s1.heap.objs.size a i) (Nat.succ_ne_self _) (fun i h st => ?_) (fun i h h' st k => ?_) (fun X' pins' s' σ' H' hP hw hK hc I' hG hn hn2 => ?_), ⟨⟨.none, he⟩, ⟨_, ho, rfl, rfl⟩⟩, fun b hb => ?_, q⟩
  · obtain ⟨o, e1, e2, e3⟩ := st
    exact ⟨o, e1, fun v z => by rw [e3] at z; cases z⟩
  · obtain ⟨o, e1, e2, e3⟩ := st
    exact ⟨o, k o e1, e2, e3⟩
  · rw [← hP, ← hw]
    have hlt : a < s1.heap.objs.size := by obtain ⟨o, z, _⟩ := tp; exact Heap.lt_size z
    obtain ⟨its', rv', tp', _⟩ := I'.tuple (by rw [hK]; exact hG)
    have hn3 : its'.toArray.size = xs.length := by rw [List.size_toArray, rv'.length]
    refine ⟨[s1.heap.objs.size, a], fun i v => its'.toArray[i]? = some v, fun i h => h.IsTupleIter s1.heap.objs.size a i ∧ h.IsTuple a its'.toArray, ?_, List.mem_cons_self, fun z => ?_, fun _ h => ⟨h, tp'⟩, fun _ _ h => h.1, fun i u hu => ?_⟩
    · rw [← hn3]
      exact Draws.tuple (A := X'.A.in1) (by simp [I'.ok.hd hc]) s1.heap.objs.size a (Nat.ne_of_lt hlt) its'.toArray
    · rcases List.mem_cons.mp z with w | w
      · exact Nat.succ_ne_self _ w
      · rw [← List.mem_singleton.mp w] at hlt
        exact absurd hlt (Nat.not_lt.mpr (Nat.le_succ _))
    · have hu2 : its'[i]? = some u := by rw [← List.getElem?_toArray]; exact hu
      have hi : i < xs.length := by rw [rv'.length]; exact (List.getElem?_eq_some_iff.mp hu2).1
      obtain ⟨u2, h1, h2⟩ := rv'.get (List.getElem?_eq_getElem hi)
      rw [hu2] at h1
      exact ⟨xs[i], List.getElem?_eq_getElem hi, by rw [Option.some.inj h1]; exact h2⟩
  · have hle : s1.heap.objs.size ≤ b := two_new (by rcases List.mem_cons.mp hb with w | w; exact .inl w; exact .inr (List.mem_singleton.mp w))
    exact I1.fpOk hle (I1.hok.fresh hle)
end
end K5

set_option Elab.async false
set_option linter.all false
set_option maxRecDepth 100000
set_option maxHeartbeats 4000000
/-! Rules of mine for own slotted classes: len(x), x == y, x != y, a method of one of several classes; i not in range(n). -/
namespace K5
open PySem PySem.Spec PyProof.Rows L2

section
variable {X : Cx} {pins : List (Addr × Obj)} {σ : L2.St} {H : Hp} {s : Shared} {k j : Nat} {C : Addr} {q : Sq}
/-- len(x) -/
def rLenO (C : Addr) (q : Sq) : List V → Hp → VK → Prop := fun vs H Q => ∃ a dx ws, vs = [V.ref a] ∧ SlX.Slt H a C dx ws ∧ q [.ref a] H fun z H' => ∃ n : Int, z = .int n ∧ (0 ≤ n ∧ n < 2 ^ 63) ∧ Q (.int n) H'
theorem call_lenO (c : Ml X.prog X.w X.K X.mg X.base k C "__len__" q) (hr : Room j X.A) (hk : k + 1 ≤ j := by decide) : CallR X (.builtin "len") (rLenO C q) := by
  intro pins s σ H xs us Q I r h
  obtain ⟨a, dx, ws, rfl, hsl, hq⟩ := h
  rw [Vals.ref1 r]
  obtain ⟨g, M, F⟩ := c.ex
  obtain ⟨sl, od, _, J, _⟩ := SlX.slt_inst I hsl
  obtain ⟨m, hF⟩ := I.fr
  have hr1 : Room k X.A.in1 := Room.in1 (hr.mono hk)
  refine PySem.W.len_K hF I.ok.mod.kin J M.at_ M.fn (wpAny_mono (wpAny_call (SlX.run_at (us := [.ref a]) (ws := [.ref a]) F hr1 I.env0.in1 pass0 I (.cons rfl .nil) hq)) (fun u s' z => ?_) fun _ _ x => x)
  obtain ⟨z', H', I', rz, n, rfl, hn, hq2⟩ := z
  obtain ⟨t, rfl⟩ := rz
  exact ⟨hn, .int n, H', I'.tok _, ⟨_, rfl⟩, hq2⟩
/-- x == y -/
def rEqO (K : PySem.W.Frag) (C : Addr) (q : Sq) : R2 := fun x y H Q => ∃ a dx vs b C' dy ws, x = .ref a ∧ y = .ref b ∧ SlX.Slt H a C dx vs ∧ SlX.Slt H b C' dy ws ∧ PySem.W.notFirst K C (.ref C') = true ∧ q [.ref a, .ref b] H Q
theorem op_eqO (c : Ml X.prog X.w X.K X.mg X.base k C "__eq__" q) (hr : Room j X.A) (hk : k ≤ j := by decide) : OpR X (compareOp .Eq) (rEqO X.K C q) := by
  obtain ⟨g, M, F⟩ := c.ex
  intro pins s σ H x y v u Q I rx ry h
  obtain ⟨a, dx, vs, b, C', dy, ws, rfl, rfl, h1, h2, h3, h4⟩ := h
  exact SlX.op_own (op := .Eq) (fun _ _ => rfl) M.at_ M.fn F (hr.mono hk) pass0 pins s σ H _ _ v u Q I rx ry ⟨a, dx, vs, b, C', dy, ws, rfl, rfl, h1, h2, h3, h4⟩
/-- x != y -/
def rNeO (K : PySem.W.Frag) (C : Addr) (q : Sq) : R2 := fun x y H Q => ∃ a dx vs b C' dy ws, x = .ref a ∧ y = .ref b ∧ SlX.Slt H a C dx vs ∧ SlX.Slt H b C' dy ws ∧ PySem.W.notFirst K C (.ref C') = true ∧
  q [.ref a, .ref b] H fun z H' => ∃ k : Bool, z = .bl k ∧ Q (.bl (!k)) H'
theorem bind_ne (self : Value) : bindSpecial (.builtin "object.__ne__") self = pure (.builtin "object.__ne__", [self]) := (F.slot_object_ne).bind self
theorem check_ne {M : Model} {A : Around} {E : Value → Shared → Prop} {K : PySem.W.Frag} {x : Addr} {y : Value} {ox : Obj} {od : Option Obj} {Q : Unit → Shared → Prop} (Xk : K.In s.heap) (J : PySem.W.InstAt s.heap x ox C od) (hm : PySem.W.mroIn K C (.type "object") = some true) (hq : Q () s) :
    wpAny M A (checkBuiltinCall "object.__ne__" ⟨[.ref x, y], []⟩) Q E s := by
  have ha := F.args_object_ne_2 (.ref x) y
  simp only [checkBuiltinCall, F.cmpKind_ne, F.cmpSplit_ne]
  refine wpAny_bind (m := isInstance (.ref x) (.type "object")) ?_
  refine show wpAny M A (typeOf (.ref x) >>= fun t => isSubtype t (.type "object")) _ E s from ?_
  refine wpAny_bind (m := typeOf (.ref x)) (J.type.here ((PySem.W.looks_mroIn Xk hm).here ?_))
  rw [if_neg (by simp)]
  cases hs : Manifest.signature? "object.__ne__" with
  | none => exact wpAny_pure hq
  | some sg =>
    have h2 : Bind.checkArgs "object.__ne__" sg ⟨[.ref x, y], []⟩ = pure () := by
      simp only [argsOk, hs] at ha
      exact ha
    refine show wpAny M A (Bind.checkArgs "object.__ne__" sg ⟨[.ref x, y], []⟩) Q E s from ?_
    rw [h2]
    exact wpAny_pure hq
theorem ifBound_B {M : Model} {A : Around} {E : Value → Shared → Prop} {K : PySem.W.Frag} {x : Addr} {name : Str} {id : String} {args : List Value} {ox : Obj} {od : Option Obj} {Q : Option Value → Shared → Prop} (Xk : K.In s.heap) (J : PySem.W.InstAt s.heap x ox C od)
    (hs : PySem.W.findIn K (.ref C) name = some (some (.builtin id))) (hb : ∀ self, bindSpecial (.builtin id) self = pure (.builtin id, [self])) (h : wpAny M A (call (.builtin id) (.ref x :: args)) (fun v => Q (some v)) E s) :
    wpAny M A (callSpecialIfBound? (.ref x) name args) Q E s := by
  have last : wpAny M A (call (.builtin id) ([.ref x] ++ args) >>= fun v => pure (some v)) Q E s := wpAny_bind (thn h fun v s' q => wpAny_pure q)
  simp only [callSpecialIfBound?, bindSpecialIfBound?, hb]
  refine wpAny_holding (wpAny_bind (wpAny_bind (wpAny_bind (J.type.here ((PySem.W.looks_findIn Xk hs).here ?_)))))
  simp only [hb]
  refine wpAny_bind (wpAny_askSetting (wpAny_ite ?_))
  split
  · exact wpAny_bind (wpAny_pure (wpAny_pure (by exact last)))
  · exact wpAny_tryCatch (wpAny_bind (wpAny_pure (wpAny_pure (by exact last))))
theorem op_neO (c : Ml X.prog X.w X.K X.mg X.base k C "__eq__" q) (hne : PySem.W.findIn X.K (.ref C) "__ne__" = some (some (.builtin "object.__ne__"))) (hm : PySem.W.mroIn X.K C (.type "object") = some true) (hr : Room j X.A) (hk : k + 2 ≤ j := by decide) :
    OpR X (compareOp .NotEq) (rNeO X.K C q) := by
  obtain ⟨g, M, Fg⟩ := c.ex
  intro pins s σ H x y v u Q I rx ry h
  obtain ⟨a, dx, vs, b, C', dy, ws, rfl, rfl, h1, h2, h3, h4⟩ := h
  cases (show v = Value.ref a from rx)
  cases (show u = Value.ref b from ry)
  obtain ⟨sl, od, _, J, _⟩ := SlX.slt_inst I h1
  obtain ⟨sl', od', _, J', _⟩ := SlX.slt_inst I h2
  have Xk := I.kIn
  have hu : X.A.units < cLine := hr.units0
  have hr1 : Room k X.A.in1 := ((hr.mono hk : Room (k + 2) X.A).mono (Nat.le_succ _)).in1
  -- the call of object.__ne__
  have body : wpAny (model X.prog X.w) X.A (call (.builtin "object.__ne__") [.ref a, .ref b]) (EP X pins σ Q) X.xe s := by
    refine wpAny_call (codeAny_call_builtin (F.slot_object_ne).plain F.entry_object_ne (check_ne Xk J hm ?_))
    unfold Builtin.«object.__ne__»
    refine wpAny_bind (wpAny_of_eq (a := (Value.ref a, [Value.ref b])) rfl ?_)
    refine wpAny_bind (wpAny_cRoomFor (by have := hr.un; show X.A.units + 1 < cLine; omega) ?_)
    refine wpAny_bind (PySem.W.ifBound_K Xk J M.at_ M.fn (wpAny_mono (wpAny_call (SlX.run_at (us := [.ref a, .ref b]) (ws := [.ref a, .ref b]) Fg hr1 I.env0.in1 pass0 I (.cons rfl (.cons rfl .nil)) h4)) (fun w' s' z => ?_) fun _ _ x => x))
    obtain ⟨z', H', I', rz, b', rfl, hq2⟩ := z
    cases (show w' = Value.bool b' from rz)
    refine wpAny_bind (wpAny_truthy_bool ?_)
    exact wpAny_pure ⟨.bl (!b'), H', I', rfl, hq2⟩
  have one : wpAny (model X.prog X.w) X.A (tryCompare (.ref a) (cmpInfo .NotEq).2.1 (.ref b)) (fun r s' => ∃ v, r = some v ∧ EP X pins σ Q v s') X.xe s := by
    unfold tryCompare
    refine wpAny_bind (ifBound_B Xk J hne bind_ne (wpAny_mono body (fun w' s' z => ?_) fun _ _ x => x))
    obtain ⟨z', H', I', rz, hq2⟩ := id z
    cases w' <;> first | exact wpAny_pure ⟨_, rfl, z⟩ | skip
    cases z' <;> first | (cases (show _ = _ from rz)) | (obtain ⟨_, e⟩ := rz; cases e)
  refine show wpAny _ _ (richCompare .NotEq (.ref a) (.ref b)) _ _ s from ?_
  unfold richCompare
  simp only [oneThing_ref]
  refine wpAny_holding (wpAny_bind (wpAny_cRoomFor hu ?_))
  refine wpAny_bind (J.type.here (wpAny_bind (J'.type.here ?_)))
  by_cases hCC : C = C'
  · subst hCC
    rw [if_neg (by simp)]
    refine wpAny_bind (wpAny_pure ?_)
    simp only [Bool.false_eq_true, if_false]
    refine wpAny_bind (wpAny_mono one (fun r s' z => ?_) fun _ _ e => e)
    obtain ⟨v, rfl, hq⟩ := z
    exact wpAny_pure hq
  · rw [if_pos (by simp [hCC])]
    have e : PySem.W.subIn X.K (.ref C') (.ref C) = some false := by
      rcases Bool.or_eq_true_iff.mp h3 with e | e
      · have := beq_iff_eq.mp e
        injection this with this
        exact absurd this.symm hCC
      · exact beq_iff_eq.mp e
    refine wpAny_bind ((PySem.W.looks_subIn Xk e).here ?_)
    simp only [Bool.false_eq_true, if_false]
    refine wpAny_bind (wpAny_mono one (fun r s' z => ?_) fun _ _ e => e)
    obtain ⟨v, rfl, hq⟩ := z
    exact wpAny_pure hq
end

/-! ### a method of one of several classes -/
def tMlA (opts : List (Addr × Sq)) (ta : TE) (t : TA) : TE := fun σ H Q => ta σ H fun x H1 => ∃ (a C dx : Addr) (q : Sq) (vs : List (Option V)), (C, q) ∈ opts ∧ x = .ref a ∧ SlX.Slt H1 a C dx vs ∧ t σ H1 fun ws H2 => q (.ref a :: ws) H2 Q
section
variable {X : Cx} {k j : Nat} {m : Str} {opts : List (Addr × Sq)} {pos apos : Pos} {e o : Expr} {es : List Expr} {ta : TE} {t : TA}
theorem pe_mlA {pl : Sem Bool} (c : ∀ p ∈ opts, Ml X.prog X.w X.K X.mg X.base k p.1 m p.2) (hr : Room j X.A) (he : PE X o ta) (ha : PA X (e :: es) t) (hk : k ≤ j := by decide)
    (hst : starEach (e :: es) X.env = (false, eval e X.env) :: starEach es X.env := by rfl) (hpl : (backTo pos (starEach es X.env)).any (·.1) = false := by rfl)
    (ht : eval (.Call (.Attribute o m apos) (e :: es) [] pos) X.env = (do
      let ov ← eval o X.env
      standAt apos.atName
      let (f, first) ← holding [ov] (getMethod ov m pl)
      callWith pos f first (backTo pos (starEach (e :: es) X.env)) (backToKw pos (keywordEach [] X.env))) := by rfl) :
    PE X (.Call (.Attribute o m apos) (e :: es) [] pos) (tMlA opts ta t) := by
  refine ⟨fun pins s σ H Q I h => PySem.W.methodCall_KW (pl := pl) (thn (he.run pins s σ H _ I h) fun u s1 h1 => ?_) ht⟩
  obtain ⟨x, H1, I1, rx, a, C, dx, q, vs, hm, rfl, hsl, hq⟩ := h1
  obtain ⟨g, M, Fg⟩ := (c _ hm).ex
  cases (show u = Value.ref a from rx)
  refine SlX.getmethsl_ok I1 hsl (c _ hm).c M (PySem.W.callWith_K (first := [.ref a]) (h₀ := X.base) I.ok.mod.kin M.kp (thn (ha.run pos pins s1 σ H1 _ I1 hq) fun us s2 h2 => ?_) hst hpl)
  obtain ⟨ws, H2, I2, r, q2⟩ := h2
  exact ⟨I2.kIn, wpAny_call (run_fnR (us := .ref a :: us) (vs := .ref a :: ws) Fg (hr.mono hk) pass0 I2 (.cons rfl r) q2)⟩

/-! ### i not in range(n) -/
def rRng1 : List V → Hp → VK → Prop := fun vs H Q => ∃ n : Int, vs = [.int n] ∧ ∀ p, H p = none → Q (.ref p) (upd H p (.rng 0 n))
theorem call_rng1 : CallR X (.type "range") rRng1 := by
  intro pins s σ H vs us Q I r h
  obtain ⟨n, rfl, q⟩ := h
  obtain ⟨u, rfl, t, rfl⟩ := r.one
  exact call_range_1 ⟨.ref s.heap.objs.size, _, I.laid (o := .rng 0 n) (t' := s.toks + 1 + 1) (fun b o e => Heap.get?_push_of_some _ e) (Nat.le_refl _) ⟨_, _, _, Heap.get?_push_size _ rfl⟩, rfl, q _ (I.hok.fresh (Nat.le_refl _))⟩
def rNotInR : R2 := fun x y H Q => ∃ i a lo hi, x = V.int i ∧ y = V.ref a ∧ H a = some (.rng lo hi) ∧ Q (.bl (!decide (lo ≤ i ∧ i < hi))) H
theorem op_notInR : OpR X (compareOp .NotIn) rNotInR := by
  intro pins s σ H x y v u Q I rx ry h
  obtain ⟨i, a, lo, hi, rfl, rfl, ha, q⟩ := h
  obtain ⟨k, rfl⟩ := rx
  cases (show u = Value.ref a from ry)
  obtain ⟨t1, t2, t3, ho⟩ := I.hok a _ ha
  refine show wpAny _ _ (contains (.ref a) (.int i k) >>= fun b => pure (Value.bool (!b))) _ _ s from ?_
  have hty : s.TypeIs (.ref a) "range" := ⟨_, ho, rfl⟩
  refine wpAny_bind (wpAny_contains_slot hty F.slot_range_contains (call_meets F.slot_range_contains hty F.entry_range_contains (F.args_range_contains_2 _ _) (q_contains a lo hi i t1 t2 t3 k) ⟨ho, wpAny_truthy_bool (wpAny_pure ⟨.bl _, H, I, rfl, ?_⟩)⟩))
  rw [place1]
  exact q
end
end K5

set_option Elab.async false
set_option linter.all false
set_option maxRecDepth 100000
set_option maxHeartbeats 4000000
/-! The text by places, and what of the written part the proofs lean on. -/
namespace K5
open PySem PySem.Spec PyProof.Rows L2

def top (i : Nat) : Stmt := PySem.Challenge.pw_foldlook_k05_whole_judged_shown.main.body.getD i (.Pass ⟨0, 0, 0, 0⟩)
abbrev s_is_number : Stmt := (top 12)
abbrev s_are_letters : Stmt := (top 13)
abbrev s_check_letters : Stmt := (top 14)
abbrev s_is_value : Stmt := (top 15)
abbrev s_is_out : Stmt := (top 16)
abbrev s_is_turn : Stmt := (top 17)
abbrev s_first_wrong : Stmt := (top 18)
abbrev s_Machine_init : Stmt := (inClass (top 19) 1)
abbrev s_Machine_letters : Stmt := (inClass (top 19) 2)
abbrev s_Machine_len : Stmt := (inClass (top 19) 4)
abbrev s_Machine_turn : Stmt := (inClass (top 19) 7)
abbrev s_check_machine : Stmt := (top 20)
abbrev s_check_two : Stmt := (top 21)
abbrev s_is_pattern : Stmt := (top 28)
abbrev s_is_short : Stmt := (top 29)
abbrev s_is_condition_of : Stmt := (top 30)
abbrev s_check_condition : Stmt := (top 31)
abbrev s_led_on : Stmt := (top 32)
abbrev s_first_stand : Stmt := (top 33)
abbrev s_beside : Stmt := (top 34)
abbrev s_stand_after : Stmt := (top 35)
abbrev s_is_met : Stmt := (top 36)
abbrev s_is_place_of : Stmt := (top 37)
abbrev s_is_stand_of : Stmt := (top 38)
abbrev s_Pairing_init : Stmt := (inClass (top 40) 1)
abbrev s_Pairing_first : Stmt := (inClass (top 40) 2)
abbrev s_Pairing_after : Stmt := (inClass (top 40) 3)
abbrev s_Pairing_is_found : Stmt := (inClass (top 40) 4)
abbrev s_Pairing_is_wished : Stmt := (inClass (top 40) 5)
abbrev s_Pairing_is_spot : Stmt := (inClass (top 40) 6)
abbrev s_Pairing_are_closed : Stmt := (inClass (top 40) 7)
abbrev s_Pairing_spot_of : Stmt := (inClass (top 40) 8)
abbrev s_Exact_init : Stmt := (inClass (top 41) 1)
abbrev s_Exact_eq : Stmt := (inClass (top 41) 2)
abbrev s_Exact_shows : Stmt := (inClass (top 41) 3)
abbrev s_More_init : Stmt := (inClass (top 42) 1)
abbrev s_More_eq : Stmt := (inClass (top 42) 2)
abbrev s_More_shows : Stmt := (inClass (top 42) 3)
abbrev s_Misses_init : Stmt := (inClass (top 43) 1)
abbrev s_Misses_eq : Stmt := (inClass (top 43) 2)
abbrev s_Misses_shows : Stmt := (inClass (top 43) 3)
abbrev s_l_number : Stmt := (top 45)
abbrev s_l_letters : Stmt := (top 46)
abbrev s_l_rows : Stmt := (top 47)
abbrev s_l_value : Stmt := (top 48)
abbrev s_l_turn : Stmt := (top 49)
abbrev s_l_condition : Stmt := (top 51)
abbrev s_l_led : Stmt := (top 52)
abbrev s_l_first_stand : Stmt := (top 53)
abbrev s_l_beside : Stmt := (top 54)
abbrev s_l_next_stand : Stmt := (top 55)
abbrev s_l_met : Stmt := (top 56)
abbrev s_l_next_spot : Stmt := (top 57)
abbrev s_l_first_spot : Stmt := (top 58)
abbrev s_l_reach : Stmt := (top 59)
abbrev s_l_plan : Stmt := (top 60)
abbrev s_l_is_mark : Stmt := (top 61)
abbrev s_l_is_spot : Stmt := (top 62)
abbrev s_l_kind : Stmt := (top 63)
abbrev s_l_are_closed : Stmt := (top 64)
abbrev s_l_moved : Stmt := (top 65)
abbrev s_l_bent : Stmt := (top 66)
abbrev s_law : Stmt := (top 67)
/-- where the classes and the tuple of words stand -/
structure Ad where
  kinds : Addr
  cM : Addr
  cP : Addr
  cE : Addr
  cO : Addr
  cS : Addr
def signs : Tx := [65, 66, 67, 68, 69, 70, 71, 72, 73, 74, 75, 76, 77, 78, 79, 80, 81, 82, 83, 84, 85, 86, 87, 88, 89, 90, 95, 97, 98, 99, 100, 101, 102, 103, 104, 105, 106, 107, 108, 109, 110, 111, 112, 113, 114, 115, 116, 117, 118, 119, 120, 121, 122]
def Gc (mg : Str → Option Value) (x : Str) (v : V) : Prop := ∃ u, mg x = some u ∧ RelV v u
def Sk (K : PySem.W.Frag) (C : Addr) (f : Str) (i : Nat) : Prop := ∃ p, SlX.Slot1 K C f p i
structure Txt (K : PySem.W.Frag) (mg : Str → Option Value) (a : Ad) : Prop where
  fLen : mg "len" = none
  fIsi : mg "isinstance" = none
  fAll : mg "all" = none
  fInt : mg "int" = none
  fStr : mg "str" = none
  fBool : mg "bool" = none
  fTuple : mg "tuple" = none
  fList : mg "list" = none
  fDict : mg "dict" = none
  fSet : mg "set" = none
  fSorted : mg "sorted" = none
  fSum : mg "sum" = none
  fRange : mg "range" = none
  fEnum : mg "enumerate" = none
  g_SIGNS : Gc mg "SIGNS" (.str (tx signs))
  g_MOST_LETTERS : Gc mg "MOST_LETTERS" (.int 4)
  g_MOST_STATES : Gc mg "MOST_STATES" (.int 6)
  g_MOST_SIGNS : Gc mg "MOST_SIGNS" (.int 4)
  g_LESS : Gc mg "LESS" (.int (-1))
  g_GREATER : Gc mg "GREATER" (.int (-2))
  g_KINDS : Gc mg "KINDS" (.ref a.kinds)
  kinds : ∀ H : Hp, SqT K H a.kinds [.str "equal", .str "begins", .str "between", .str "like"]
  g_Machine : Gc mg "Machine" (.ref a.cM)
  g_Pairing : Gc mg "Pairing" (.ref a.cP)
  g_Exact : Gc mg "Exact" (.ref a.cE)
  g_More : Gc mg "More" (.ref a.cO)
  g_Misses : Gc mg "Misses" (.ref a.cS)
  cl_Machine : SlX.SCls K a.cM
  cl_Pairing : SlX.SCls K a.cP
  cl_Exact : SlX.SCls K a.cE
  cl_More : SlX.SCls K a.cO
  cl_Misses : SlX.SCls K a.cS
  si_Machine : SlX.SIsi K a.cM
  si_Exact : SlX.SIsi K a.cE
  si_More : SlX.SIsi K a.cO
  si_Misses : SlX.SIsi K a.cS
  k_Machine_signs : Sk K a.cM "signs" 0
  k_Machine_table : Sk K a.cM "table" 1
  k_Pairing_keeper : Sk K a.cP "keeper" 1
  k_Pairing_question : Sk K a.cP "question" 3
  k_Pairing_machine : Sk K a.cP "machine" 2
  k_Pairing_condition : Sk K a.cP "condition" 0
  k_Exact_spots : Sk K a.cE "spots" 0
  k_More_spots : Sk K a.cO "spots" 0
  k_More_value : Sk K a.cO "value" 1
  k_Misses_value : Sk K a.cS "value" 0
  ne_Exact : PySem.W.findIn K (.ref a.cE) "__ne__" = some (some (.builtin "object.__ne__"))
  ne_More : PySem.W.findIn K (.ref a.cO) "__ne__" = some (some (.builtin "object.__ne__"))
  ne_Misses : PySem.W.findIn K (.ref a.cS) "__ne__" = some (some (.builtin "object.__ne__"))
  i_MM : PySem.W.kitOne K (.ref a.cM) (.ref a.cM) = some true
  i_EE : PySem.W.kitOne K (.ref a.cE) (.ref a.cE) = some true
  i_OO : PySem.W.kitOne K (.ref a.cO) (.ref a.cO) = some true
  i_SS : PySem.W.kitOne K (.ref a.cS) (.ref a.cS) = some true
  i_OE : PySem.W.kitOne K (.ref a.cO) (.ref a.cE) = some false
  i_OS : PySem.W.kitOne K (.ref a.cO) (.ref a.cS) = some false
  nf_EO : PySem.W.notFirst K a.cE (.ref a.cO) = true
  nf_SO : PySem.W.notFirst K a.cS (.ref a.cO) = true

/-! ### small rules -/
section
variable {X : Cx}
theorem pe_gc {x : Str} {v : V} {pos : Pos} (hg : Gl X x) (h : Gc X.mg x v) (hd : (x == ("__debug__" : Str)) = false := by decide) : PE X (.Name x pos) (tC v) :=
  let ⟨_, h1, h2⟩ := h
  pe_glob hg h1 h2 hd
theorem hu65 {A : Around} {k : Nat} (hr : Room k A) : A.units + 65 < cLine := by
  have := hr.un
  omega
/-- e.f, f in slot i of the class at C -/
def tSf (C : Addr) (i : Nat) (ta : TE) : TE := fun σ H Q => ta σ H fun x H1 => ∃ a dx vs v, x = .ref a ∧ SlX.Slt H1 a C dx vs ∧ vs[i]? = some (some v) ∧ Q v H1
theorem pe_sf {C : Addr} {i : Nat} {f : Str} {e : Expr} {ta : TE} {pos : Pos} (c : SlX.SCls X.K C) (k : Sk X.K C f i) (he : PE X e ta) (hb : attributeBase e f X.env (eval e X.env) = eval e X.env := by rfl) : PE X (.Attribute e f pos) (tSf C i ta) := by
  obtain ⟨p, k⟩ := k
  refine ⟨fun pins s σ H Q I h => attr_of hb (thn (he.run pins s σ H _ I h) fun u s1 h1 => ?_)⟩
  obtain ⟨x, H1, I1, rx, a, dx, vs, v, rfl, hs, l, q⟩ := h1
  cases (show u = Value.ref a from rx)
  exact SlX.getslot_ok I1 hs c k l fun u' s2 I2 ru => ⟨v, H1, I2, ru, q⟩
/-- e.f = value -/
def sSf (C : Addr) (i : Nat) (ta tv : TE) : L2.TS := fun D σ H => tv σ H fun y H1 => ta σ H1 fun x H2 => ∃ a dx vs, x = .ref a ∧ SlX.Slt H2 a C dx vs ∧ D.nx σ (SlX.slH H2 a C dx (SlX.putS i y vs))
theorem ps_sf {C : Addr} {i : Nat} {f : Str} {o value : Expr} {ta tv : TE} {pos pos' : Pos} (c : SlX.SCls X.K C) (k : Sk X.K C f i) (ha : PE X o ta) (hv : PE X value tv) (hs : swapsWith value (some (.Attribute o f pos')) pos.line X.env = pure false := by rfl) :
    PS X (.Assign [.Attribute o f pos'] value pos) (sSf C i ta tv) := by
  obtain ⟨p, k⟩ := k
  refine ⟨fun pins s σ H D I h => plainObj_wpAny_Assign_Attribute (thn (hv.run pins s σ H _ I h) fun u s1 h1 => ?_) hs⟩
  obtain ⟨y, H1, I1, ry, q⟩ := h1
  refine thn (ha.run pins s1 σ H1 _ I1 q) fun ov s2 h2 => ?_
  obtain ⟨x, H2, I2, rx, a, dx, vs, rfl, hsl, q2⟩ := h2
  cases (show ov = Value.ref a from rx)
  exact SlX.setslot_ok I2 hsl c k ry fun s3 I3 => ⟨σ, _, I3, q2⟩
end

/-! ### small facts for readings -/
theorem sq1_len {p : V → Hp → VK → Prop} {vs : List V} {H : Hp} {Q : VK} (h : sq1 p vs H Q) : vs.length = 1 := by obtain ⟨_, rfl, _⟩ := sq1_inv h; rfl
theorem sq2_len {p : V → V → Hp → VK → Prop} {vs : List V} {H : Hp} {Q : VK} (h : sq2 p vs H Q) : vs.length = 2 := by obtain ⟨_, _, rfl, _⟩ := sq2_inv h; rfl
theorem sq3_len {p : V → V → V → Hp → VK → Prop} {vs : List V} {H : Hp} {Q : VK} (h : sq3 p vs H Q) : vs.length = 3 := by obtain ⟨_, _, _, rfl, _⟩ := sq3_inv h; rfl
theorem sq4_len {p : V → V → V → V → Hp → VK → Prop} {vs : List V} {H : Hp} {Q : VK} (h : sq4 p vs H Q) : vs.length = 4 := by obtain ⟨_, _, _, _, rfl, _⟩ := sq4_inv h; rfl
theorem sq5_len {p : V → V → V → V → V → Hp → VK → Prop} {vs : List V} {H : Hp} {Q : VK} (h : sq5 p vs H Q) : vs.length = 5 := by obtain ⟨_, _, _, _, _, rfl, _⟩ := sq5_inv h; rfl
theorem kit_ii {K : PySem.W.Frag} : PySem.W.kitOne K (.type "int") (.type "int") = some true := kit_ty (by decide +kernel)
theorem kit_ib {K : PySem.W.Frag} : PySem.W.kitOne K (.type "int") (.type "bool") = some false := kit_ty (by decide +kernel)
theorem kit_ss {K : PySem.W.Frag} : PySem.W.kitOne K (.type "str") (.type "str") = some true := kit_ty (by decide +kernel)
theorem kit_tt {K : PySem.W.Frag} : PySem.W.kitOne K (.type "tuple") (.type "tuple") = some true := kit_ty (by decide +kernel)
theorem ty_int {K : PySem.W.Frag} {H : Hp} (i : Int) : TyX K H (.int i) (.type "int") := .base (.int i)
theorem ty_str {K : PySem.W.Frag} {H : Hp} (x : Str) : TyX K H (.str x) (.type "str") := .base (.str x)
theorem ty_tup {K : PySem.W.Frag} {H : Hp} {a : Addr} {xs : List V} (h : SqT K H a xs) : TyX K H (.ref a) (.type "tuple") := by
  rcases h with (h | ⟨o, h⟩) | ⟨o, its, n, h, hc, _⟩
  · exact .base (.tup h)
  · exact .fTuple h
  · exact .kTuple h hc
end K5

set_option Elab.async false
set_option linter.all false
set_option maxRecDepth 100000
set_option maxHeartbeats 4000000
/-! Comprehensions whose turns leave all that was: general steps over the layer's walks. -/
namespace K5
open PySem PySem.Spec PyProof.Rows L2
section
variable {K : PySem.W.Frag} {J : It} {n : Nat} {G : Hp → Prop} {Y : Nat → Hp → V → Hp → Prop} {g : TG} {tt : TT} {te : TE} {vs : List Nat} {σ : L2.St} {H1 : Hp} {D : Addr} {Qd : Hp → Prop}
theorem lc_go (w : Walk J n G Y) (hD : H1 D = none) (R : Nat → List V → Hp → Prop) (hn : n ≤ 100000) (hR : ∀ i acc H H', TS K H H' → R i acc H → R i acc H') (hG : ∀ H, Same H1 H → G H) (h0 : R 0 [] H1)
    (hs : ∀ i acc x Hc H' (Yes : V → Hp → Prop) (No : Hp → Prop), i < n → Same H1 Hc → R i acc Hc → Y i Hc x H' → (∀ y H4, Same Hc H4 → R (i + 1) (acc ++ [y]) H4 → Yes y H4) → (∀ H3, Same Hc H3 → R (i + 1) acc H3 → No H3) →
      g x (wipe σ vs) H' fun σ2 H2 => wipe σ2 vs = wipe σ vs ∧ tt σ2 H2 fun b H3 => if b = true then te σ2 H3 Yes else No H3)
    (hd : ∀ acc H, Same H1 H → H D = some (.lst acc) → acc.length ≤ n → R n acc H → Qd H) :
    ∃ W : Nat → Nat → Hp → Prop, (∃ m, W 0 m (upd H1 D (.lst []))) ∧ ∀ i m H, W i m H →
      (J.stop i H ∧ Qd H) ∨ (J.go i H ∧ ∃ Nx : Hp → Prop, (∀ H', Nx H' → ∃ m', m' < m ∧ W (i + 1) m' H') ∧ ∀ x H', J.yld i H x H' → g x (wipe σ vs) H' fun σ2 H2 => wipe σ2 vs = wipe σ vs ∧ tt σ2 H2 fun b H3 =>
        if b = true then te σ2 H3 fun y H4 => ∃ acc, H4 D = some (.lst acc) ∧ acc.length < sizeLine ∧ Nx (upd H4 D (.lst (acc ++ [y]))) else Nx H3) := by
  refine lc_it w (fun i H => Same H1 H ∧ ∃ acc, H D = some (.lst acc) ∧ acc.length ≤ i ∧ R i acc H) ⟨Same.new hD, [], upd_same, Nat.le_refl _, hR _ _ _ _ (TS.of (Same.new hD)) h0⟩ (fun i H _ p => hG H p.1) ?_ ?_
  · rintro i x H H' hi ⟨e, acc, ha, hl, hr⟩ y
    refine hs i acc x H H' _ _ hi e hr y (fun z H4 e4 r4 => ⟨acc, e4 _ _ ha, sz_smallT (by omega), Same.put (e.trans e4) hD, acc ++ [z], upd_same, by simp; omega, hR _ _ _ _ (TS.put (noTup_lst (e4 _ _ ha))) r4⟩) (fun H3 e3 r3 => ⟨e.trans e3, acc, e3 _ _ ha, by omega, r3⟩)
  · rintro H ⟨e, acc, ha, hl, hr⟩
    exact hd acc H e ha hl hr
theorem wipe_one (σ : L2.St) (k : Nat) (v : Option V) : wipe ((wipe σ [k]).set k v) [k] = wipe σ [k] := by
  show ((σ.set k none).set k v).set k none = σ.set k none
  rw [List.set_set, List.set_set]
abbrev LcW (J : It) (g : TG) (tt : TT) (te : TE) (vs : List Nat) (σ : L2.St) (H1 : Hp) (D : Addr) (Qd : Hp → Prop) : Prop :=
    ∃ W : Nat → Nat → Hp → Prop, (∃ m, W 0 m (upd H1 D (.lst []))) ∧ ∀ i m H, W i m H →
      (J.stop i H ∧ Qd H) ∨ (J.go i H ∧ ∃ Nx : Hp → Prop, (∀ H', Nx H' → ∃ m', m' < m ∧ W (i + 1) m' H') ∧ ∀ x H', J.yld i H x H' → g x (wipe σ vs) H' fun σ2 H2 => wipe σ2 vs = wipe σ vs ∧ tt σ2 H2 fun b H3 =>
        if b = true then te σ2 H3 fun y H4 => ∃ acc, H4 D = some (.lst acc) ∧ acc.length < sizeLine ∧ Nx (upd H4 D (.lst (acc ++ [y]))) else Nx H3)
/-- each turn gives one truth -/
theorem lc_bl {α : Type} {k : Nat} (K : PySem.W.Frag) (w : Walk J n G Y) (hD : H1 D = none) (ys : List α) (F : α → Bool) (hl : ys.length = n) (hn : n ≤ 100000) (hG : ∀ H, Same H1 H → G H)
    (hs : ∀ i y x Hc H' (Yes : V → Hp → Prop), ys[i]? = some y → Same H1 Hc → Y i Hc x H' → (∀ H4, Same Hc H4 → Yes (.bl (F y)) H4) → te ((σ.set k none).set k (some x)) H' Yes)
    (hd : ∀ H, Same H1 H → H D = some (.lst ((ys.map F).map V.bl)) → Qd H) : LcW J (gName k) tYes te [k] σ H1 D Qd := by
  refine lc_go (K := K) w hD (fun i acc _ => acc = ((ys.take i).map F).map V.bl) hn (fun _ _ _ _ _ h => h) hG (by simp) ?_ (fun acc H e ha _ hr => hd H e (by rw [ha, hr, ← hl, List.take_length]))
  intro i acc x Hc H' Yes No hi e hr hy hyes _
  have hi' : i < ys.length := by omega
  have e1 : ys[i]? = some ys[i] := List.getElem?_eq_getElem hi'
  have z := hs i ys[i] x Hc H' Yes e1 e hy fun H4 e4 => hyes _ _ e4 (by
    rw [hr, List.take_succ, e1]
    simp only [List.map_append, Option.toList_some, List.map_cons, List.map_nil])
  have z2 : if true = true then te ((wipe σ [k]).set k (some x)) H' Yes else No H' := by rw [if_pos rfl]; exact z
  exact ⟨wipe_one _ _ _, z2⟩
end
section
variable {te : TE} {σ : L2.St} {H1 : Hp} {D : Addr} {Qd : Hp → Prop} {k : Nat}
theorem lc_str (K : PySem.W.Frag) (l : Tx) (F : Nat → Bool) (hn : l.length ≤ 100000) (hD : H1 D = none)
    (hs : ∀ c Hc (Yes : V → Hp → Prop), c ∈ l → Same H1 Hc → (∀ H4, Same Hc H4 → Yes (.bl (F c)) H4) → te ((σ.set k none).set k (some (.str (tx [c])))) Hc Yes)
    (hd : ∀ H, Same H1 H → H D = some (.lst ((l.map F).map V.bl)) → Qd H) : LcW (Its (tx l)) (gName k) tYes te [k] σ H1 D Qd := by
  refine lc_bl K (walk_str (z := tx l)) hD l F (by simp [tx]) (by simpa [tx] using hn) (fun _ _ => trivial) ?_ hd
  rintro i c x Hc H' Yes hc e ⟨rfl, c', hc', rfl⟩ hy
  have ec : c' = c := by
    have h2 : l[i]? = some c' := by simpa [tx] using hc'
    rw [hc] at h2; exact (Option.some.inj h2).symm
  subst ec
  exact hs c' H' Yes (List.mem_of_getElem? hc) e hy
/-- .. for x in list or tuple -/
theorem lc_seq (K : PySem.W.Frag) {α : Type} {J : It} {G : Hp → Prop} {vs0 : List V} (w : Walk J vs0.length G (YAt vs0)) (RR : Hp → V → α → Prop) (ys : List α) (F : α → Bool) (hn : ys.length ≤ 100000) (hD : H1 D = none) (hG : ∀ H, Same H1 H → G H) (hp : Paired (RR H1) vs0 ys)
    (hs : ∀ v y Hc (Yes : V → Hp → Prop), y ∈ ys → RR H1 v y → Same H1 Hc → (∀ H4, Same Hc H4 → Yes (.bl (F y)) H4) → te ((σ.set k none).set k (some v)) Hc Yes)
    (hd : ∀ H, Same H1 H → H D = some (.lst ((ys.map F).map V.bl)) → Qd H) : LcW J (gName k) tYes te [k] σ H1 D Qd := by
  have hl := paired_len hp
  refine lc_bl K w hD ys F hl.symm (by omega) hG ?_ hd
  rintro i y x Hc H' Yes hy e ⟨rfl, hx⟩ hyes
  obtain ⟨v, hv, hr⟩ := paired_get hp hy
  rw [hv] at hx
  cases Option.some.inj hx
  exact hs _ y H' Yes (List.mem_of_getElem? hy) hr e hyes
theorem all_fin {K : PySem.W.Frag} {bs : List Bool} {b : Bool} {H : Hp} {Q : VK} (h : H D = some (.lst (bs.map V.bl))) (q : Q (.bl b) H) (e : bs.all id = b) : rAll K [.ref D] H Q := ⟨D, bs, rfl, .inl (.inl h), by rw [e]; exact q⟩
theorem all_map {α : Type} (l : List α) (F : α → Bool) : (l.map F).all id = l.all F := by rw [List.all_map]; rfl
end
end K5

set_option Elab.async false
set_option linter.all false
set_option maxRecDepth 100000
set_option maxHeartbeats 4000000
/-! machines.py: each def and its promise. -/
namespace K5
open PySem PySem.Spec PyProof.Rows L2
variable {P : Program} {w : World} {K : PySem.W.Frag} {mg : Str → Option Value} {base : Heap} {a : Ad}

theorem menu_ok : ∀ L ∈ menu, (2 ≤ L.length ∧ L.length ≤ 4) ∧ L.Nodup ∧ ∀ c ∈ L, c ∈ (tx signs).cps.toList ∧ Txt.count (tx L) (tx [c]) = 1 := by decide +kernel
theorem menu_ix : ∀ L ∈ menu, ∀ c ∈ L, Builtin.Str.occurrences (tx L) (tx [c]) 0 (tx L).length 1 = [ix L c] := by decide +kernel
theorem tx_mem (c : Nat) (l : Tx) : decide (c ∈ (tx l).cps.toList) = decide (c ∈ l) := by rw [tx_cps]
theorem szS {l : Tx} (h : l.length ≤ 100000) : (tx l).length ≤ sizeLine := by rw [tx_len]; exact sz_small h

def p_is_number (K : PySem.W.Frag) (a : Ad) (x lo hi : V) (H : Hp) (Q : VK) : Prop := ∃ i l h : Int, x = .int i ∧ lo = .int l ∧ hi = .int h ∧ Q (.bl (decide (l ≤ i) && decide (i ≤ h))) H
abbrev N_is_number : List Str := ["thing", "low", "high"]
theorem sc_is_number : FnScope N_is_number ["thing", "low", "high"] (defScope s_is_number) := ⟨rfl, rfl, rfl, by decide +kernel, rfl, by decide +kernel, by decide +kernel⟩
theorem ok_is_number {fa : Addr} {fd : FuncData} (T : Txt K mg a) (F : FnP K "is_number" "is_number" s_is_number fa fd) (g : mg "is_number" = some (.ref fa)) : Cl P w K mg base 1 "is_number" (sq3 (p_is_number K a)) := by
  refine cl_of F g (fun _ _ _ _ _ _ us hl => match us, hl with | [_, _, _], _ => rfl) sc_is_number (fun vs H Q h => sq3_len h) fun vs H Q h cdv A outer s hr => ?_
  obtain ⟨v_thing, v_low, v_high, rfl, h⟩ := sq3_inv h
  refine ⟨_, (pss_one (ps_ret (pe_and (pe_callB call_isi (by rfl) T.fIsi (by decide +kernel) (pa_cons (pv 0) (pa_cons (pe_bltn (v := .ty "int") (by rfl) T.fInt (by decide +kernel) rfl) pa_nil))) (pe_and (pe_not (pe_callB call_isi (by rfl) T.fIsi (by decide +kernel) (pa_cons (pv 0) (pa_cons (pe_bltn (v := .ty "bool") (by rfl) T.fBool (by decide +kernel) rfl) pa_nil)))) (pe_one (pe_chain op_le op_le (pv 1) (pv 0) (pv 2))))))), ?_⟩
  obtain ⟨i, l, u, rfl, rfl, rfl, hq⟩ := h
  refine ⟨_, rfl, _, _, _, _, _, rfl, .ty _, ty_int i, kit_ii, true, rfl, iteT ?_⟩
  refine ⟨_, rfl, _, _, _, _, _, rfl, .ty _, ty_int i, kit_ib, false, rfl, true, rfl, iteT ?_⟩
  refine ⟨_, rfl, _, rfl, _, _, rfl, rfl, _, rfl, ?_⟩
  by_cases h1 : l ≤ i
  · rw [decide_eq_true h1] at hq ⊢
    exact iteT ⟨_, rfl, _, _, rfl, rfl, hq⟩
  · rw [decide_eq_false h1] at hq ⊢
    exact iteF hq

def p_are_letters (K : PySem.W.Frag) (a : Ad) (x : V) (H : Hp) (Q : VK) : Prop := ∃ L ∈ menu, x = .str (tx L) ∧ ∀ H', Same H H' → Q (.bl true) H'
abbrev N_are_letters : List Str := ["thing", "sign"]
theorem sc_are_letters : FnScope N_are_letters ["thing"] (defScope s_are_letters) := ⟨rfl, rfl, rfl, by decide +kernel, rfl, by decide +kernel, by decide +kernel⟩
theorem ok_are_letters {fa : Addr} {fd : FuncData} (T : Txt K mg a) (F : FnP K "are_letters" "are_letters" s_are_letters fa fd) (g : mg "are_letters" = some (.ref fa)) : Cl P w K mg base 1 "are_letters" (sq1 (p_are_letters K a)) := by
  refine cl_of F g (fun _ _ _ _ _ _ us hl => match us, hl with | [_], _ => rfl) sc_are_letters (fun vs H Q h => sq1_len h) fun vs H Q h cdv A outer s hr => ?_
  obtain ⟨v_thing, rfl, h⟩ := sq1_inv h
  refine ⟨_, (pss_cons (ps_if (PW.pt (pw_or (pt_not (pt_val (pe_callB call_isi (by rfl) T.fIsi (by decide +kernel) (pa_cons (pv 0) (pa_cons (pe_bltn (v := .ty "str") (by rfl) T.fStr (by decide +kernel) rfl) pa_nil))) (fun _ => rfl))) (pw_or1 (pt_not (pt_chain op_le op_le pe_int (pe_callB call_len_str (by rfl) T.fLen (by decide +kernel) (pa_cons (pv 0) pa_nil)) (pe_gc rfl T.g_MOST_LETTERS)))))) (pss_one (ps_ret pe_bl)) pss_nil)
      (pss_one (ps_ret (pe_callB (cr_all rfl) (by rfl) T.fAll (by decide +kernel) (pa_cons (pe_lc (own := [("sign", 1)]) (g := gName 1) (tt := tYes) rfl sc_are_letters.nd (pi_str (pv 0)) (blkOk_by (own := [("sign", 1)]) (N := N_are_letters) (sc := defScope s_are_letters) (by decide +kernel)) (fun _ _ _ _ _ => pg_name (i := 1) sc_are_letters.nd rfl (Or.inl rfl)) (fun _ _ _ _ _ => pts_nil) (fun _ _ _ _ _ => (pe_and (pe_cmpR op_in_sign (pv 1) (pe_gc rfl T.g_SIGNS) rfl) (pe_one (pe_cmpR op_eq (show PE _ _ (tBM K _ _ _ _) from pe_bm PySem.F.plainAttrs_str PySem.F.slot_str_count PySem.F.type_str_count mt_count (pv 0) (pa_cons (pv 1) pa_nil)) pe_int rfl))))) pa_nil))))), ?_⟩
  obtain ⟨L, hL, rfl, hq⟩ := h
  obtain ⟨⟨hl1, hl2⟩, hnd, hm⟩ := menu_ok L hL
  refine ⟨_, rfl, _, _, _, _, _, rfl, .ty _, ty_str _, kit_ss, true, rfl, iteF ?_⟩
  refine ⟨_, rfl, _, rfl, szS (by omega), _, _, rfl, rfl, _, rfl, ?_⟩
  rw [tx_len, decide_eq_true (show (2 : Int) ≤ L.length by omega)]
  refine iteT ⟨_, _, rfl, rfl, _, rfl, ?_⟩
  rw [decide_eq_true (show (L.length : Int) ≤ 4 by omega)]
  refine iteF ?_
  refine ⟨_, rfl, _, rfl, fun D hD => lc_str K L (fun _ => true) (by omega) hD ?_ ?_⟩
  · intro c Hc Yes hc e hy
    refine ⟨_, rfl, _, _, rfl, rfl, _, rfl, ?_⟩
    rw [decide_eq_true (hm c hc).1]
    refine iteT ⟨_, rfl, rfl, _, rfl, _, _, rfl, rfl, rfl, ?_⟩
    rw [(hm c hc).2]
    exact hy Hc (Same.refl Hc)
  · intro H' e hD'
    exact all_fin hD' (hq H' e) (by simp)

def p_check_letters (K : PySem.W.Frag) (a : Ad) (x : V) (H : Hp) (Q : VK) : Prop := ∃ L ∈ menu, x = .str (tx L) ∧ ∀ H', Same H H' → Q .non H'
abbrev N_check_letters : List Str := ["letters"]
theorem sc_check_letters : FnScope N_check_letters ["letters"] (defScope s_check_letters) := ⟨rfl, rfl, rfl, by decide +kernel, rfl, by decide +kernel, by decide +kernel⟩
theorem ok_check_letters {fa : Addr} {fd : FuncData} (T : Txt K mg a) (F : FnP K "check_letters" "check_letters" s_check_letters fa fd) (g : mg "check_letters" = some (.ref fa)) (c_are_letters : Cl P w K mg base 1 "are_letters" (sq1 (p_are_letters K a))) : Cl P w K mg base 2 "check_letters" (sq1 (p_check_letters K a)) := by
  refine cl_of F g (fun _ _ _ _ _ _ us hl => match us, hl with | [_], _ => rfl) sc_check_letters (fun vs H Q h => sq1_len h) fun vs H Q h cdv A outer s hr => ?_
  obtain ⟨v_letters, rfl, h⟩ := sq1_inv h
  refine ⟨_, (pss_one (ps_if (pt_not (pt_val (pe_cl c_are_letters hr (pa_cons (pv 0) pa_nil)) (fun _ => rfl))) (pss_one ps_never) pss_nil)), ?_⟩
  obtain ⟨L, hL, rfl, hq⟩ := h
  exact ⟨_, rfl, L, hL, rfl, fun H' e => ⟨true, rfl, iteF (hq H' e)⟩⟩

def p_is_value (K : PySem.W.Frag) (a : Ad) (x y : V) (H : Hp) (Q : VK) : Prop := ∃ L v : Tx, x = .str (tx L) ∧ y = .str (tx v) ∧ v.length ≤ 100 ∧ ∀ H', Same H H' → Q (.bl (isValue L v)) H'
abbrev N_is_value : List Str := ["letters", "thing", "sign"]
theorem sc_is_value : FnScope N_is_value ["letters", "thing"] (defScope s_is_value) := ⟨rfl, rfl, rfl, by decide +kernel, rfl, by decide +kernel, by decide +kernel⟩
theorem ok_is_value {fa : Addr} {fd : FuncData} (T : Txt K mg a) (F : FnP K "is_value" "is_value" s_is_value fa fd) (g : mg "is_value" = some (.ref fa)) : Cl P w K mg base 1 "is_value" (sq2 (p_is_value K a)) := by
  refine cl_of F g (fun _ _ _ _ _ _ us hl => match us, hl with | [_, _], _ => rfl) sc_is_value (fun vs H Q h => sq2_len h) fun vs H Q h cdv A outer s hr => ?_
  obtain ⟨v_letters, v_thing, rfl, h⟩ := sq2_inv h
  refine ⟨_, (pss_one (ps_ret (pe_and (pe_callB call_isi (by rfl) T.fIsi (by decide +kernel) (pa_cons (pv 1) (pa_cons (pe_bltn (v := .ty "str") (by rfl) T.fStr (by decide +kernel) rfl) pa_nil))) (pe_one (pe_callB (cr_all rfl) (by rfl) T.fAll (by decide +kernel) (pa_cons (pe_lc (own := [("sign", 2)]) (g := gName 2) (tt := tYes) rfl sc_is_value.nd (pi_str (pv 1)) (blkOk_by (own := [("sign", 2)]) (N := N_is_value) (sc := defScope s_is_value) (by decide +kernel)) (fun _ _ _ _ _ => pg_name (i := 2) sc_is_value.nd rfl (Or.inl rfl)) (fun _ _ _ _ _ => pts_nil) (fun _ _ _ _ _ => (pe_cmpR op_in_sign (pv 2) (pv 0) rfl))) pa_nil)))))), ?_⟩
  obtain ⟨L, v, rfl, rfl, hv, hq⟩ := h
  refine ⟨_, rfl, _, _, _, _, _, rfl, .ty _, ty_str _, kit_ss, true, rfl, iteT ?_⟩
  refine ⟨_, rfl, _, rfl, fun D hD => lc_str K v (fun c => decide (c ∈ L)) (by omega) hD ?_ ?_⟩
  · intro c Hc Yes hc e hy
    refine ⟨_, rfl, _, rfl, _, _, rfl, rfl, ?_⟩
    rw [tx_mem]
    exact hy Hc (Same.refl Hc)
  · intro H' e hD'
    exact all_fin hD' (hq H' e) (all_map _ _)

def p_is_out (K : PySem.W.Frag) (a : Ad) (x y : V) (H : Hp) (Q : VK) : Prop := ∃ L t : Tx, x = .str (tx L) ∧ y = .str (tx t) ∧ (t = [] ∨ ∃ c ∈ L, t = [c]) ∧ Q (.bl true) H
abbrev N_is_out : List Str := ["letters", "thing"]
theorem sc_is_out : FnScope N_is_out ["letters", "thing"] (defScope s_is_out) := ⟨rfl, rfl, rfl, by decide +kernel, rfl, by decide +kernel, by decide +kernel⟩
theorem ok_is_out {fa : Addr} {fd : FuncData} (T : Txt K mg a) (F : FnP K "is_out" "is_out" s_is_out fa fd) (g : mg "is_out" = some (.ref fa)) : Cl P w K mg base 1 "is_out" (sq2 (p_is_out K a)) := by
  refine cl_of F g (fun _ _ _ _ _ _ us hl => match us, hl with | [_, _], _ => rfl) sc_is_out (fun vs H Q h => sq2_len h) fun vs H Q h cdv A outer s hr => ?_
  obtain ⟨v_letters, v_thing, rfl, h⟩ := sq2_inv h
  refine ⟨_, (pss_one (ps_ret (pe_and (pe_callB call_isi (by rfl) T.fIsi (by decide +kernel) (pa_cons (pv 1) (pa_cons (pe_bltn (v := .ty "str") (by rfl) T.fStr (by decide +kernel) rfl) pa_nil))) (pe_one (pe_or (pe_cmpR op_eq (pv 1) pe_str rfl) (pe_one (pe_and (pe_cmpR op_eq (pe_callB call_len_str (by rfl) T.fLen (by decide +kernel) (pa_cons (pv 1) pa_nil)) pe_int rfl) (pe_one (pe_cmpR op_in_sign (pv 1) (pv 0) rfl))))))))), ?_⟩
  obtain ⟨L, t, rfl, rfl, ht, hq⟩ := h
  refine ⟨_, rfl, _, _, _, _, _, rfl, .ty _, ty_str _, kit_ss, true, rfl, iteT ?_⟩
  refine ⟨_, rfl, rfl, _, rfl, ?_⟩
  rcases ht with rfl | ⟨c, hc, rfl⟩
  · exact iteT hq
  · refine iteF ⟨_, rfl, _, rfl, szS (by simp), rfl, _, rfl, iteT ⟨_, rfl, _, rfl, _, _, rfl, rfl, ?_⟩⟩
    rw [tx_mem, decide_eq_true hc]
    exact hq

def p_is_turn (K : PySem.W.Frag) (a : Ad) (x y z : V) (H : Hp) (Q : VK) : Prop := ∃ (L : Tx) (n : Nat) (t : Int × Tx), x = .str (tx L) ∧ y = .int n ∧ TurnAt K H z t ∧ okTurn L n t ∧ Q (.bl true) H
abbrev N_is_turn : List Str := ["letters", "many", "thing"]
theorem sc_is_turn : FnScope N_is_turn ["letters", "many", "thing"] (defScope s_is_turn) := ⟨rfl, rfl, rfl, by decide +kernel, rfl, by decide +kernel, by decide +kernel⟩
theorem ok_is_turn {fa : Addr} {fd : FuncData} (T : Txt K mg a) (F : FnP K "is_turn" "is_turn" s_is_turn fa fd) (g : mg "is_turn" = some (.ref fa)) (c_is_number : Cl P w K mg base 1 "is_number" (sq3 (p_is_number K a))) (c_is_out : Cl P w K mg base 1 "is_out" (sq2 (p_is_out K a))) : Cl P w K mg base 2 "is_turn" (sq3 (p_is_turn K a)) := by
  refine cl_of F g (fun _ _ _ _ _ _ us hl => match us, hl with | [_, _, _], _ => rfl) sc_is_turn (fun vs H Q h => sq3_len h) fun vs H Q h cdv A outer s hr => ?_
  obtain ⟨v_letters, v_many, v_thing, rfl, h⟩ := sq3_inv h
  refine ⟨_, (pss_cons (ps_if (PW.pt (pw_or (pt_not (pt_val (pe_callB call_isi (by rfl) T.fIsi (by decide +kernel) (pa_cons (pv 2) (pa_cons (pe_bltn (v := .ty "tuple") (by rfl) T.fTuple (by decide +kernel) rfl) pa_nil))) (fun _ => rfl))) (pw_or1 (pt_cmpR op_ne (pe_callB call_len_seq (by rfl) T.fLen (by decide +kernel) (pa_cons (pv 2) pa_nil)) pe_int rfl)))) (pss_one (ps_ret pe_bl)) pss_nil)
      (pss_one (ps_ret (pe_and (pe_cl c_is_number hr (pa_cons (pe_ix ix_tup (pv 2) pe_int (fun _ _ => rfl)) (pa_cons pe_int (pa_cons (pe_op op_sub (pv 1) pe_int) pa_nil)))) (pe_one (pe_cl c_is_out hr (pa_cons (pv 0) (pa_cons (pe_ix ix_tup (pv 2) pe_int (fun _ _ => rfl)) pa_nil)))))))), ?_⟩
  obtain ⟨L, n, t, rfl, rfl, ⟨b, rfl, hb⟩, ⟨⟨h1, h2⟩, h3⟩, hq⟩ := h
  refine ⟨_, rfl, _, _, _, _, _, rfl, .ty _, ty_tup hb, kit_tt, true, rfl, iteF ?_⟩
  refine ⟨_, rfl, _, _, rfl, .inr hb, rfl, _, rfl, iteF ?_⟩
  refine ⟨_, rfl, _, _, _, _, rfl, rfl, hb, rfl, _, rfl, _, _, rfl, rfl, _, _, _, rfl, rfl, rfl, _, rfl, ?_⟩
  rw [decide_eq_true h1, decide_eq_true (show t.1 ≤ (n : Int) - 1 by omega)]
  refine iteT ⟨_, rfl, _, rfl, _, _, _, _, rfl, rfl, hb, rfl, _, _, rfl, rfl, h3, hq⟩
end K5

set_option Elab.async false
set_option linter.all false
set_option maxRecDepth 100000
set_option maxHeartbeats 4000000
/-! machines.py: the machines. -/
namespace K5
open PySem PySem.Spec PyProof.Rows L2
variable {P : Program} {w : World} {K : PySem.W.Frag} {mg : Str → Option Value} {base : Heap} {a : Ad}

theorem atI_get {α : Type} {xs : List α} {k : Nat} {v : α} (h : xs[k]? = some v) : atI xs (k : Int) = some v := by
  have hk : k < xs.length := (List.getElem?_eq_some_iff.mp h).1
  unfold atI ixN
  rw [if_pos (by omega), if_pos (by omega)]
  simpa using h
theorem atI_int {α : Type} {xs : List α} {i : Int} {v : α} (h0 : 0 ≤ i) (h : xs[i.toNat]? = some v) : atI xs i = some v := by
  have := atI_get h
  rwa [Int.toNat_of_nonneg h0] at this
/-- all but what is just made stands -/
def SB (H H' : Hp) (x dx : Addr) : Prop := ∀ b u, b ≠ x → b ≠ dx → H b = some u → H' b = some u
theorem SB.same {H0 H' : Hp} {x dx : Addr} {o o' : HO} (h1 : H0 x = none) (h2 : H0 dx = none) (s : SB (upd (upd H0 dx o) x o') H' x dx) : Same H0 H' := fun b u h => by
  have n1 := ne_of_none h h1
  have n2 := ne_of_none h h2
  exact s b u n1 n2 (by rw [upd_ne n1, upd_ne n2]; exact h)
theorem noTup_ins {H : Hp} {p C dx : Addr} (h : H p = some (.ins C dx [])) : ∀ xs, ¬ Rd H p (.tup xs) := fun xs q => by
  rcases q with q | ⟨o, q⟩
  · rw [h] at q; cases q
  · rw [h] at q; cases q
theorem noTup_own {H : Hp} {p x : Addr} (h : H p = some (.own x)) : ∀ xs, ¬ Rd H p (.tup xs) := fun xs q => by
  rcases q with q | ⟨o, q⟩
  · rw [h] at q; cases q
  · rw [h] at q; cases q
theorem tsl {H : Hp} {x C dx : Addr} {vs : List (Option V)} (h1 : H x = some (.ins C dx [])) (h2 : H dx = some (.own x)) (h3 : dx ≠ x) : TS K H (SlX.slH H x C dx vs) :=
  (TS.put (noTup_own h2)).trans (TS.put (noTup_ins (C := C) (dx := dx) (by rw [upd_ne h3.symm]; exact h1)))
theorem sb_sl {H : Hp} {x C dx : Addr} {vs : List (Option V)} : SB H (SlX.slH H x C dx vs) x dx := fun b u h1 h2 h => by rw [SlX.slH_ne h1 h2]; exact h

def p_first_wrong (K : PySem.W.Frag) (a : Ad) (x y : V) (H : Hp) (Q : VK) : Prop := ∃ L R, x = .str (tx L) ∧ L.length ≤ 100 ∧ RowsAt K H y R ∧ okRows L R ∧ ∀ H', Same H H' → Q .non H'
abbrev N_first_wrong : List Str := ["letters", "rows", "state", "row", "turn"]
theorem sc_first_wrong : FnScope N_first_wrong ["letters", "rows"] (defScope s_first_wrong) := ⟨rfl, rfl, rfl, by decide +kernel, rfl, by decide +kernel, by decide +kernel⟩
theorem ok_first_wrong {fa : Addr} {fd : FuncData} (T : Txt K mg a) (F : FnP K "first_wrong" "first_wrong" s_first_wrong fa fd) (g : mg "first_wrong" = some (.ref fa)) (c_is_turn : Cl P w K mg base 2 "is_turn" (sq3 (p_is_turn K a))) : Cl P w K mg base 3 "first_wrong" (sq2 (p_first_wrong K a)) := by
  refine cl_of F g (fun _ _ _ _ _ _ us hl => match us, hl with | [_, _], _ => rfl) sc_first_wrong (fun vs H Q h => sq2_len h) fun vs H Q h cdv A outer s hr => ?_
  obtain ⟨v_letters, v_rows, rfl, h⟩ := sq2_inv h
  refine ⟨_, (pss_cons (ps_for PassesOwn.never rfl (pi_enumT T.fEnum (pa_cons (pv 1) pa_nil)) (pg_tup (by rfl) (pgs_cons (pg_name (i := 2) sc_first_wrong.nd rfl (Or.inl rfl)) (pgs_cons (pg_name (i := 3) sc_first_wrong.nd rfl (Or.inl rfl)) pgs_nil))) (pss_cons (ps_if (PW.pt (pw_or (pt_not (pt_val (pe_callB call_isi (by rfl) T.fIsi (by decide +kernel) (pa_cons (pv 3) (pa_cons (pe_bltn (v := .ty "tuple") (by rfl) T.fTuple (by decide +kernel) rfl) pa_nil))) (fun _ => rfl))) (pw_or1 (pt_cmpR op_ne (pe_callB call_len_seq (by rfl) T.fLen (by decide +kernel) (pa_cons (pv 3) pa_nil)) (pe_callB call_len_str (by rfl) T.fLen (by decide +kernel) (pa_cons (pv 0) pa_nil)) rfl)))) (pss_one (ps_ret (pv 2))) pss_nil)
      (pss_one (ps_if (pt_not (pt_val (pe_callB (cr_all rfl) (by rfl) T.fAll (by decide +kernel) (pa_cons (pe_lc (own := [("turn", 4)]) (g := gName 4) (tt := tYes) rfl sc_first_wrong.nd (pi_tup (pv 3)) (blkOk_by (own := [("turn", 4)]) (N := N_first_wrong) (sc := defScope s_first_wrong) (by decide +kernel)) (fun _ _ _ _ _ => pg_name (i := 4) sc_first_wrong.nd rfl (Or.inl rfl)) (fun _ _ _ _ _ => pts_nil) (fun _ _ _ _ _ => (pe_cl c_is_turn hr (pa_cons (pv 0) (pa_cons (pe_callB (show CallR _ _ (fun xs H Q => ∃ p ys, xs = [.ref p] ∧ (SqL K H p ys ∨ SqT K H p ys) ∧ Q (.int ys.length) H) from call_len_seq) (by rfl) T.fLen (by decide +kernel) (pa_cons (pv 1) pa_nil)) (pa_cons (pv 4) pa_nil)))))) pa_nil)) (fun _ => rfl))) (pss_one (ps_ret (pv 2))) pss_nil))))
      (pss_one (ps_ret pe_non))), ?_⟩
  obtain ⟨L, R, rfl, hL, ⟨b, rs, rfl, hb, hp⟩, ⟨hR1, hR2, hR3⟩, hq⟩ := h
  have hlen := paired_len hp
  refine ⟨_, rfl, _, _, rfl, hb, for_it walk_en (fun i σ H' => Same H H' ∧ ∃ y z, σ = [some (V.str (tx L)), some (.ref b), y, z, none]) ⟨Same.refl H, _, _, rfl⟩ (fun i σ H' _ p => SqT.same p.1 hb) ?_ (fun σ H' p => hq H' p.1)⟩
  rintro i x σ H1 H' hi ⟨e, y0, z0, rfl⟩ ⟨T0, y, z, rfl, hT, rfl, hy, hz⟩
  cases Option.some.inj hy
  refine ⟨_, _, rfl, .inl (.inl upd_same), rfl, _, _, rfl, _, _, rfl, rfl, ?_⟩
  obtain ⟨r, hr, hrow⟩ := paired_get' hp hz
  have e1 : Same H1 (upd H1 T0 (.tup [.int (i : Nat), z])) := Same.new hT
  obtain ⟨c, ts, rfl, hc, hts⟩ := hrow.mono (TS.of (e.trans e1))
  have ok := hR3 r (List.mem_of_getElem? hr)
  refine ⟨_, rfl, _, _, _, _, _, rfl, .ty _, ty_tup hc, kit_tt, true, rfl, iteF ?_⟩
  refine ⟨_, rfl, _, _, rfl, .inr hc, _, rfl, _, rfl, szS (by omega), rfl, _, rfl, ?_⟩
  have hl : ts.length = L.length := by rw [paired_len hts, ok.1]
  rw [tx_len, decide_eq_true (show V.int (ts.length : Int) = V.int (L.length : Int) by rw [hl])]
  refine iteF ?_
  refine ⟨_, rfl, _, rfl, ⟨_, hc⟩, fun D hD => lc_seq K walk_tup (TurnAt K) r (fun _ => true) (by have := ok.1; omega) hD (fun H h => SqT.same h hc) hts ?_ ?_⟩
  · intro v t Hc Yes ht hv e2 hy
    refine ⟨_, rfl, _, rfl, ⟨_, _, rfl, .inr (SqT.same ((e.trans e1).trans e2) hb), _, rfl, L, R.length, t, rfl, by rw [hlen], hv.mono (TS.of e2), ok.2 t ht, hy Hc (Same.refl _)⟩⟩
  · intro H2 e2 hD2
    refine ⟨D, r.map fun _ => true, rfl, .inl (.inl hD2), ?_⟩
    rw [show (r.map fun _ => true).all id = true by simp]
    exact ⟨true, rfl, iteF ⟨(e.trans e1).trans e2, _, _, rfl⟩⟩

def p_Machine_init (K : PySem.W.Frag) (a : Ad) (self x y : V) (H : Hp) (Q : VK) : Prop := ∃ o dx L R, self = .ref o ∧ x = .str (tx L) ∧ L ∈ menu ∧ RowsAt K H y R ∧ okRows L R ∧ H o = some (.ins a.cM dx []) ∧ H dx = some (.own o) ∧ dx ≠ o ∧
  ∀ H', SB H H' o dx → MachAt K a.cM H' (.ref o) L R → Q .non H'
abbrev N_Machine_init : List Str := ["self", "letters", "rows", "wrong"]
theorem sc_Machine_init : FnScope N_Machine_init ["self", "letters", "rows"] (defScope s_Machine_init) := ⟨rfl, rfl, rfl, by decide +kernel, rfl, by decide +kernel, by decide +kernel⟩
theorem ok_Machine_init {fa : Addr} {fd : FuncData} (T : Txt K mg a) (F : FnP K "__init__" "Machine.__init__" s_Machine_init fa fd) (c_check_letters : Cl P w K mg base 2 "check_letters" (sq1 (p_check_letters K a))) (c_first_wrong : Cl P w K mg base 3 "first_wrong" (sq2 (p_first_wrong K a))) : FnOk P w K mg base CX0 4 fa fd ["self", "letters", "rows"] (ofSq (sq3 (p_Machine_init K a))) := by
  refine fn_of_body F sc_Machine_init (fun vs H Q h => sq3_len h) fun vs H Q h cdv A outer s hr => ?_
  obtain ⟨v_self, v_letters, v_rows, rfl, h⟩ := sq3_inv h
  refine ⟨_, (pss_cons (ps_expr (pe_cl c_check_letters hr (pa_cons (pv 1) pa_nil)))
      (pss_cons (ps_if (PW.pt (pw_or (pt_not (pt_val (pe_callB call_isi (by rfl) T.fIsi (by decide +kernel) (pa_cons (pv 2) (pa_cons (pe_bltn (v := .ty "tuple") (by rfl) T.fTuple (by decide +kernel) rfl) pa_nil))) (fun _ => rfl))) (pw_or1 (pt_not (pt_chain op_le op_le pe_int (pe_callB call_len_seq (by rfl) T.fLen (by decide +kernel) (pa_cons (pv 2) pa_nil)) (pe_gc rfl T.g_MOST_STATES)))))) (pss_one ps_never) pss_nil)
      (pss_cons (ps_set (i := 3) sc_Machine_init.nd rfl (Or.inl rfl) (pe_cl c_first_wrong hr (pa_cons (pv 1) (pa_cons (pv 2) pa_nil))))
      (pss_cons (ps_if (pt_cmpR op_notN (pv 3) pe_non rfl) (pss_one ps_never) pss_nil)
      (pss_cons (ps_sf T.cl_Machine T.k_Machine_signs (pv 0) (pv 1))
      (pss_one (ps_sf T.cl_Machine T.k_Machine_table (pv 0) (pv 2)))))))), ?_⟩
  obtain ⟨o, dx, L, R, rfl, rfl, hL, hR, ok, ho, hd, hne, hq⟩ := h
  refine ⟨_, rfl, L, hL, rfl, fun H1 e1 => ?_⟩
  obtain ⟨b, rs, rfl, hb, hp⟩ := hR.mono (TS.of e1)
  have hlen := paired_len hp
  refine ⟨_, rfl, _, _, _, _, _, rfl, .ty _, ty_tup hb, kit_tt, true, rfl, iteF ?_⟩
  refine ⟨_, rfl, _, _, rfl, .inr hb, _, _, rfl, rfl, _, rfl, ?_⟩
  have h1 := ok.1
  have h2 := ok.2.1
  rw [hlen, decide_eq_true (show (1 : Int) ≤ R.length by omega)]
  refine iteT ⟨_, _, rfl, rfl, _, rfl, ?_⟩
  rw [decide_eq_true (show (R.length : Int) ≤ 6 by omega)]
  refine iteF ⟨_, rfl, _, rfl, L, R, rfl, by have := (menu_ok L hL).1; omega, ⟨b, rs, rfl, hb, hp⟩, ok, fun H2 e2 => ?_⟩
  refine ⟨_, rfl, rfl, _, rfl, iteF ?_⟩
  have ho2 := e2 _ _ (e1 _ _ ho)
  have hd2 := e2 _ _ (e1 _ _ hd)
  refine ⟨_, rfl, _, rfl, _, _, _, rfl, .inl ⟨ho2, rfl⟩, ?_⟩
  refine ⟨_, rfl, _, rfl, _, _, _, rfl, SlX.slH_slt hne, ?_⟩
  rw [SlX.slH_twice hne]
  refine hq _ (fun b u h1 h2 h => sb_sl b u h1 h2 (e2 _ _ (e1 _ _ h))) ⟨o, dx, _, rfl, SlX.slH_slt hne, ?_⟩
  exact RowsAt.mono (tsl ho2 hd2 hne) ⟨b, rs, rfl, SqT.same e2 hb, Paired.mapP hp fun _ _ z => z.mono (TS.of e2)⟩

def p_Machine_letters (K : PySem.W.Frag) (a : Ad) (self : V) (H : Hp) (Q : VK) : Prop := ∃ L R, MachAt K a.cM H self L R ∧ Q (.str (tx L)) H
abbrev N_Machine_letters : List Str := ["self"]
theorem sc_Machine_letters : FnScope N_Machine_letters ["self"] (defScope s_Machine_letters) := ⟨rfl, rfl, rfl, by decide +kernel, rfl, by decide +kernel, by decide +kernel⟩
theorem ok_Machine_letters {fa : Addr} {fd : FuncData} (T : Txt K mg a) (F : FnP K "letters" "Machine.letters" s_Machine_letters fa fd) : FnR P w K mg base CX0 1 fa (ofSq (sq1 (p_Machine_letters K a))) := by
  refine fnr_of F (fun _ _ _ _ _ _ us hl => match us, hl with | [_], _ => rfl) sc_Machine_letters (fun vs H Q h => sq1_len h) fun vs H Q h cdv A outer s hr => ?_
  obtain ⟨v_self, rfl, h⟩ := sq1_inv h
  refine ⟨_, (pss_one (ps_ret (pe_sf T.cl_Machine T.k_Machine_signs (pv 0)))), ?_⟩
  obtain ⟨L, R, ⟨o, dx, r, rfl, hs, hr⟩, hq⟩ := h
  exact ⟨_, rfl, _, _, _, _, rfl, hs, rfl, hq⟩

def p_Machine_len (K : PySem.W.Frag) (a : Ad) (self : V) (H : Hp) (Q : VK) : Prop := ∃ L R, MachAt K a.cM H self L R ∧ Q (.int R.length) H
abbrev N_Machine_len : List Str := ["self"]
theorem sc_Machine_len : FnScope N_Machine_len ["self"] (defScope s_Machine_len) := ⟨rfl, rfl, rfl, by decide +kernel, rfl, by decide +kernel, by decide +kernel⟩
theorem ok_Machine_len {fa : Addr} {fd : FuncData} (T : Txt K mg a) (F : FnP K "__len__" "Machine.__len__" s_Machine_len fa fd) : FnR P w K mg base CX0 1 fa (ofSq (sq1 (p_Machine_len K a))) := by
  refine fnr_of F (fun _ _ _ _ _ _ us hl => match us, hl with | [_], _ => rfl) sc_Machine_len (fun vs H Q h => sq1_len h) fun vs H Q h cdv A outer s hr => ?_
  obtain ⟨v_self, rfl, h⟩ := sq1_inv h
  refine ⟨_, (pss_one (ps_ret (pe_callB call_len_seq (by rfl) T.fLen (by decide +kernel) (pa_cons (pe_sf T.cl_Machine T.k_Machine_table (pv 0)) pa_nil)))), ?_⟩
  obtain ⟨L, R, ⟨o, dx, r, rfl, hs, ⟨b, rs, rfl, hb, hp⟩⟩, hq⟩ := h
  refine ⟨_, rfl, _, _, _, _, rfl, hs, rfl, _, _, rfl, .inr hb, ?_⟩
  rw [paired_len hp]
  exact hq

def p_Machine_turn (K : PySem.W.Frag) (a : Ad) (self x y : V) (H : Hp) (Q : VK) : Prop := ∃ L R s c, MachAt K a.cM H self L R ∧ L ∈ menu ∧ okRows L R ∧ x = .int s ∧ (0 ≤ s ∧ s < (R.length : Int)) ∧ y = .str (tx [c]) ∧ c ∈ L ∧
  ∀ v, TurnAt K H v (turn R L s c) → Q v H
abbrev N_Machine_turn : List Str := ["self", "state", "letter"]
theorem sc_Machine_turn : FnScope N_Machine_turn ["self", "state", "letter"] (defScope s_Machine_turn) := ⟨rfl, rfl, rfl, by decide +kernel, rfl, by decide +kernel, by decide +kernel⟩
theorem ok_Machine_turn {fa : Addr} {fd : FuncData} (T : Txt K mg a) (F : FnP K "turn" "Machine.turn" s_Machine_turn fa fd) : FnR P w K mg base CX0 1 fa (ofSq (sq3 (p_Machine_turn K a))) := by
  refine fnr_of F (fun _ _ _ _ _ _ us hl => match us, hl with | [_, _, _], _ => rfl) sc_Machine_turn (fun vs H Q h => sq3_len h) fun vs H Q h cdv A outer s hr => ?_
  obtain ⟨v_self, v_state, v_letter, rfl, h⟩ := sq3_inv h
  refine ⟨_, (pss_one (ps_ret (pe_ix ix_tup (pe_ix ix_tup (pe_sf T.cl_Machine T.k_Machine_table (pv 0)) (pv 1) (fun _ _ => rfl)) (pe_bm PySem.F.plainAttrs_str PySem.F.slot_str_index PySem.F.type_str_index mt_sindex (pe_sf T.cl_Machine T.k_Machine_signs (pv 0)) (pa_cons (pv 2) pa_nil)) (fun _ _ => rfl)))), ?_⟩
  obtain ⟨L, R, s, c, ⟨o, dx, r, rfl, hs, ⟨b, rs, rfl, hb, hp⟩⟩, hL, ok, rfl, ⟨h0, h1⟩, rfl, hc, hq⟩ := h
  obtain ⟨row, e1, e2, ok2⟩ := turn_at ok h0 h1 hc
  obtain ⟨v1, g1, ⟨b1, ts, rfl, hb1, hp1⟩⟩ := paired_get hp e1
  obtain ⟨v2, g2, q2⟩ := paired_get hp1 e2
  exact ⟨_, rfl, _, _, _, _, rfl, hs, rfl, _, rfl, _, _, _, _, rfl, rfl, hb, atI_int h0 g1, _, rfl, _, _, _, _, rfl, hs, rfl, rfl, _, rfl, _, _, _, _, rfl, rfl, menu_ix L hL c hc, _, _, _, _, rfl, rfl, hb1, atI_get g2, hq v2 q2⟩

def p_check_machine (K : PySem.W.Frag) (a : Ad) (x : V) (H : Hp) (Q : VK) : Prop := ∃ L R, MachAt K a.cM H x L R ∧ Q .non H
abbrev N_check_machine : List Str := ["machine"]
theorem sc_check_machine : FnScope N_check_machine ["machine"] (defScope s_check_machine) := ⟨rfl, rfl, rfl, by decide +kernel, rfl, by decide +kernel, by decide +kernel⟩
theorem ok_check_machine {fa : Addr} {fd : FuncData} (T : Txt K mg a) (F : FnP K "check_machine" "check_machine" s_check_machine fa fd) (g : mg "check_machine" = some (.ref fa)) : Cl P w K mg base 1 "check_machine" (sq1 (p_check_machine K a)) := by
  refine cl_of F g (fun _ _ _ _ _ _ us hl => match us, hl with | [_], _ => rfl) sc_check_machine (fun vs H Q h => sq1_len h) fun vs H Q h cdv A outer s hr => ?_
  obtain ⟨v_machine, rfl, h⟩ := sq1_inv h
  refine ⟨_, (pss_one (ps_if (pt_not (pt_val (pe_callB (SlX.call_isiSl (.ref a.cM)) (by rfl) T.fIsi (by decide +kernel) (pa_cons (pv 0) (pa_cons (pe_gc rfl T.g_Machine) pa_nil))) (fun _ => rfl))) (pss_one ps_never) pss_nil)), ?_⟩
  obtain ⟨L, R, ⟨o, dx, r, rfl, hs, hr⟩, hq⟩ := h
  exact ⟨_, rfl, _, _, _, _, _, _, rfl, rfl, fun w h => h, hs, T.cl_Machine, T.si_Machine, T.i_MM, true, rfl, iteF hq⟩

def p_check_two (K : PySem.W.Frag) (a : Ad) (x y : V) (H : Hp) (Q : VK) : Prop := ∃ L R R', MachAt K a.cM H x L R ∧ MachAt K a.cM H y L R' ∧ Q .non H
abbrev N_check_two : List Str := ["one", "other"]
theorem sc_check_two : FnScope N_check_two ["one", "other"] (defScope s_check_two) := ⟨rfl, rfl, rfl, by decide +kernel, rfl, by decide +kernel, by decide +kernel⟩
theorem ok_check_two {fa : Addr} {fd : FuncData} (T : Txt K mg a) (F : FnP K "check_two" "check_two" s_check_two fa fd) (g : mg "check_two" = some (.ref fa)) (c_check_machine : Cl P w K mg base 1 "check_machine" (sq1 (p_check_machine K a))) (c_Machine_letters : Pl P w K mg base 1 a.cM "letters" (sq1 (p_Machine_letters K a))) : Cl P w K mg base 3 "check_two" (sq2 (p_check_two K a)) := by
  refine cl_of F g (fun _ _ _ _ _ _ us hl => match us, hl with | [_, _], _ => rfl) sc_check_two (fun vs H Q h => sq2_len h) fun vs H Q h cdv A outer s hr => ?_
  obtain ⟨v_one, v_other, rfl, h⟩ := sq2_inv h
  refine ⟨_, (pss_cons (ps_expr (pe_cl c_check_machine hr (pa_cons (pv 0) pa_nil)))
      (pss_cons (ps_expr (pe_cl c_check_machine hr (pa_cons (pv 1) pa_nil)))
      (pss_one (ps_if (pt_cmpR op_ne (pe_pl c_Machine_letters hr (pv 0)) (pe_pl c_Machine_letters hr (pv 1)) rfl) (pss_one ps_never) pss_nil)))), ?_⟩
  obtain ⟨L, R, R', h1, h2, hq⟩ := h
  refine ⟨_, rfl, L, R, h1, ?_⟩
  refine ⟨_, rfl, L, R', h2, ?_⟩
  obtain ⟨o, dx, r, rfl, hs, hr⟩ := h1
  obtain ⟨o', dx', r', rfl, hs', hr'⟩ := h2
  refine ⟨_, rfl, _, _, _, rfl, hs, L, R, ⟨o, dx, r, rfl, hs, hr⟩, _, rfl, _, _, _, rfl, hs', L, R', ⟨o', dx', r', rfl, hs', hr'⟩, rfl, _, rfl, ?_⟩
  rw [decide_eq_true (rfl : V.str (tx L) = V.str (tx L))]
  exact iteF hq
end K5

set_option Elab.async false
set_option linter.all false
set_option maxRecDepth 100000
set_option maxHeartbeats 4000000
/-! The places to which stars lead, gathered in a dict: the plain part. -/
namespace K5
open PySem PySem.Spec PyProof.Rows L2
theorem nodup_len : ∀ (n : Nat) (ks : List Int), ks.Nodup → (∀ k ∈ ks, 0 ≤ k ∧ k < (n : Int)) → ks.length ≤ n
  | 0, [], _, _ => Nat.le_refl _
  | 0, k :: ks, _, h => by have := h k (by simp); omega
  | n + 1, ks, hn, h => by
    by_cases hm : (n : Int) ∈ ks
    · have h1 := nodup_len n (ks.erase (n : Int)) (hn.erase _) (fun k hk => by
        have a := h k (List.mem_of_mem_erase hk)
        have b : k ≠ (n : Int) := fun e => by subst e; exact (List.Nodup.not_mem_erase hn) hk
        omega)
      rw [List.length_erase_of_mem hm] at h1
      omega
    · have h1 := nodup_len n ks hn (fun k hk => by
        have a := h k hk
        have b : k ≠ (n : Int) := fun e => by subst e; exact hm hk
        omega)
      omega
def addK (ks : List Int) (k : Int) : List Int := if k ∈ ks then ks else ks ++ [k]
theorem addK_mem {ks : List Int} {k j : Int} : j ∈ addK ks k ↔ j ∈ ks ∨ j = k := by
  unfold addK
  split
  · constructor
    · exact .inl
    · rintro (h | rfl) <;> assumption
  · simp
theorem addK_nodup {ks : List Int} {k : Int} (h : ks.Nodup) : (addK ks k).Nodup := by
  unfold addK
  split
  · exact h
  · rename_i hk
    exact List.nodup_append.mpr ⟨h, by simp, fun a ha b hb => by simp at hb; subst hb; exact fun e => hk (e ▸ ha)⟩
theorem putK_keys {kvs : List (Key × V)} {ks : List Int} {k : Int} {v : V} (h : kvs.map (·.1) = ks.map Sum.inl) : (putK kvs (.inl k) v).map (·.1) = (addK ks k).map Sum.inl := by
  have hm : (kvs.any fun kv => decide (kv.1 = Sum.inl k)) = decide (k ∈ ks) := by
    have e : (kvs.any fun kv => decide (kv.1 = Sum.inl k)) = (kvs.map (·.1)).any fun z => decide (z = Sum.inl k) := by rw [List.any_map]; rfl
    rw [e, h, List.any_map]
    by_cases q : k ∈ ks
    · rw [decide_eq_true q]
      exact List.any_eq_true.mpr ⟨k, q, by simp⟩
    · rw [decide_eq_false q]
      refine List.any_eq_false.mpr fun z hz => ?_
      have : z ≠ k := fun e => q (e ▸ hz)
      simpa using this
  unfold putK addK
  rw [hm]
  by_cases q : k ∈ ks
  · rw [if_pos q, decide_eq_true q, if_pos rfl, List.map_map, ← h]
    refine List.map_congr_left fun x hx => ?_
    show (if x.1 = Sum.inl k then (x.1, v) else x).1 = x.1
    split <;> rfl
  · rw [if_neg q, decide_eq_false q, if_neg Bool.false_ne_true, List.map_append, h, List.map_append]
    rfl
/-- what is gathered: sound, closed but perhaps at e -/
structure Gat (p : Tx) (xs ks : List Int) (e : Int) : Prop where
  nd : ks.Nodup
  sd : ∀ k ∈ ks, k ∈ led p xs
  cv : ∀ k ∈ ks, k ≠ e → p[k.toNat]? = some 42 → k + 1 ∈ ks
theorem led_of_mem {p : Tx} {xs : List Int} {k : Int} (h : k ∈ xs) (h0 : 0 ≤ k) (h1 : k ≤ (p.length : Int)) : k ∈ led p xs :=
  mem_led.mpr ⟨k.toNat, by omega, by omega, cl_of_mem (by rwa [Int.toNat_of_nonneg h0])⟩
theorem led_star {p : Tx} {xs : List Int} {k : Int} (h : k ∈ led p xs) (hs : p[k.toNat]? = some 42) : k + 1 ∈ led p xs := by
  obtain ⟨j, rfl, h1, h2⟩ := mem_led.mp h
  have hs' : p[j]? = some 42 := by simpa using hs
  have hl : j < p.length := (List.getElem?_eq_some_iff.mp hs').1
  refine mem_led.mpr ⟨j + 1, by simp, hl, ?_⟩
  show (decide (((j + 1 : Nat) : Int) ∈ xs) || (decide (p[j]? = some 42) && cl p xs j)) = true
  rw [hs', h2]
  simp
theorem Gat.all {p : Tx} {xs ks : List Int} {e : Int} (g : Gat p xs ks e) (he : p[e.toNat]? ≠ some 42 ∨ e < 0) (hi : ∀ k ∈ xs, k ∈ ks) : ∀ j : Nat, cl p xs j = true → (j : Int) ∈ ks
  | 0, h => hi _ (by have : decide ((0 : Int) ∈ xs) = true := h; exact of_decide_eq_true this)
  | j + 1, h => by
    have h' : (decide (((j + 1 : Nat) : Int) ∈ xs) || (decide (p[j]? = some 42) && cl p xs j)) = true := h
    rcases Bool.or_eq_true_iff.mp h' with q | q
    · exact hi _ (of_decide_eq_true q)
    · have q1 := of_decide_eq_true (Bool.and_eq_true_iff.mp q).1
      have q2 := (Bool.and_eq_true_iff.mp q).2
      have ih := g.all he hi j q2
      have hn : (j : Int) ≠ e := fun z => by
        subst z
        rcases he with he | he
        · exact he (by simpa using q1)
        · omega
      have := g.cv _ ih hn (by simpa using q1)
      exact_mod_cast this
theorem Gat.done {p : Tx} {xs ks ys : List Int} {e : Int} (g : Gat p xs ks e) (he : p[e.toNat]? ≠ some 42 ∨ e < 0) (hi : ∀ k ∈ xs, k ∈ ks) (pm : ys.Perm ks) (so : ys.Pairwise (· ≤ ·)) : ys = led p xs := by
  refine asc_unique ?_ (led_sorted p xs) fun k => ?_
  · have hn : ys.Nodup := pm.nodup_iff.mpr g.nd
    exact (so.and hn).imp fun ⟨a, b⟩ => by
      have : _ ≠ _ := b
      omega
  · rw [pm.mem_iff]
    constructor
    · exact g.sd k
    · intro h
      obtain ⟨j, rfl, _, h2⟩ := mem_led.mp h
      exact g.all he hi j h2
theorem Gat.len {p : Tx} {xs ks : List Int} {e : Int} (g : Gat p xs ks e) : ks.length ≤ p.length + 1 :=
  nodup_len (p.length + 1) ks g.nd fun k hk => by have := led_range (g.sd k hk); omega
theorem Gat.nil {p : Tx} {xs : List Int} : Gat p xs [] (-1) := ⟨List.nodup_nil, fun _ h => (nomatch h), fun _ h => (nomatch h)⟩
/-- a place of the list is put in: all that was there was closed -/
theorem Gat.put {p : Tx} {xs ks : List Int} {e k : Int} (g : Gat p xs ks e) (he : p[e.toNat]? ≠ some 42 ∨ e < 0) (hk : k ∈ led p xs) : Gat p xs (addK ks k) k where
  nd := addK_nodup g.nd
  sd j hj := by
    rcases addK_mem.mp hj with h | h
    · exact g.sd j h
    · rw [h]; exact hk
  cv j hj hne hs := by
    rcases addK_mem.mp hj with h | h
    · by_cases q : j = e
      · subst q
        have h0 := led_range (g.sd j h)
        rcases he with he | he
        · exact absurd hs he
        · omega
      · exact addK_mem.mpr (.inl (g.cv j h q hs))
    · exact absurd h hne
/-- the next place behind a star -/
theorem Gat.step {p : Tx} {xs ks : List Int} {e : Int} (g : Gat p xs ks e) (hm : e ∈ ks) (hs : p[e.toNat]? = some 42) : Gat p xs (addK ks (e + 1)) (e + 1) where
  nd := addK_nodup g.nd
  sd j hj := by
    rcases addK_mem.mp hj with h | h
    · exact g.sd j h
    · rw [h]; exact led_star (g.sd e hm) hs
  cv j hj hne h2 := by
    rcases addK_mem.mp hj with h | h
    · by_cases q : j = e
      · subst q; exact addK_mem.mpr (.inr rfl)
      · exact addK_mem.mpr (.inl (g.cv j h q h2))
    · exact absurd h hne
end K5

set_option Elab.async false
set_option linter.all false
set_option maxRecDepth 100000
set_option maxHeartbeats 4000000
/-! conditions.py, part one. -/
namespace K5
open PySem PySem.Spec PyProof.Rows L2
variable {P : Program} {w : World} {K : PySem.W.Frag} {mg : Str → Option Value} {base : Heap} {a : Ad}

theorem q_star : (Str.ofString "*") = tx [42] := by decide +kernel
theorem q_mark : (Str.ofString "?") = tx [63] := by decide +kernel
theorem q_both : (Str.ofString "?*") = tx [63, 42] := by decide +kernel
theorem SqL.same {H H' : Hp} {a : Addr} {xs : List V} (e : Same H H') (h : SqL K H a xs) : SqL K H' a xs := h.elim (fun h => .inl (rd_same e h)) .inr

def p_led_onL (K : PySem.W.Frag) (a : Ad) (x y : V) (H : Hp) (Q : VK) : Prop := ∃ p l xs, x = .str (tx p) ∧ p.length ≤ 4 ∧ y = .ref l ∧ SqL K H l (xs.map V.int) ∧ xs.length ≤ 100 ∧ (∀ k ∈ xs, 0 ≤ k ∧ k ≤ (p.length : Int)) ∧ ∀ v H', Same H H' → StAt K H' v (.t (led p xs)) → Q v H'
abbrev N_led_on : List Str := ["pattern", "places", "found", "place"]
theorem sc_led_on : FnScope N_led_on ["pattern", "places"] (defScope s_led_on) := ⟨rfl, rfl, rfl, by decide +kernel, rfl, by decide +kernel, by decide +kernel⟩
theorem ok_led_onL {fa : Addr} {fd : FuncData} (T : Txt K mg a) (F : FnP K "led_on" "led_on" s_led_on fa fd) (g : mg "led_on" = some (.ref fa)) : Cl P w K mg base 1 "led_on" (sq2 (p_led_onL K a)) := by
  refine cl_of F g (fun _ _ _ _ _ _ us hl => match us, hl with | [_, _], _ => rfl) sc_led_on (fun vs H Q h => sq2_len h) fun vs H Q h cdv A outer s hr => ?_
  obtain ⟨v_pattern, v_places, rfl, h⟩ := sq2_inv h
  refine ⟨_, (pss_cons (ps_set (i := 2) sc_led_on.nd rfl (Or.inl rfl) pe_dnewK)
      (pss_cons (ps_for PassesOwn.never rfl (pi_list (pv 1)) (pg_name (i := 3) sc_led_on.nd rfl (Or.inl rfl)) (pss_cons (ps_dput (hu_of hr) (pv 2) (pv 3) pe_bl rfl)
      (pss_one (ps_while PassesOwn.never (PW.pt (pw_and (pt_cmpR op_lt (pv 3) (pe_callB call_len_str (by rfl) T.fLen (by decide +kernel) (pa_cons (pv 0) pa_nil)) rfl) (pw_and1 (pt_cmpR op_eq (pe_ix ix_str (pv 0) (pv 3) (fun _ _ => rfl)) pe_str rfl)))) (pss_cons (ps_aug (i := 3) sc_led_on.nd rfl (.inl rfl) pe_int ip_add)
      (pss_one (ps_dput (hu_of hr) (pv 2) (pv 3) pe_bl rfl)))))))
      (pss_one (ps_ret (pe_callTy call_tuple_of (by rfl) T.fTuple (by decide +kernel) (pa_cons (pe_callB (call_sortedDI rfl) (by rfl) T.fSorted (by decide +kernel) (pa_cons (pv 2) pa_nil)) pa_nil)))))), ?_⟩
  obtain ⟨p, l, xs, rfl, hp, rfl, hl, hxs, hr, hq⟩ := h
  intro d hd
  have e0 : Same H (upd H d (.dK [])) := Same.new hd
  have hlen : (xs.map V.int).length = xs.length := by simp
  refine ⟨_, rfl, _, rfl, ⟨_, SqL.same e0 hl⟩, for_it walk_list (fun i σ H' => Same H H' ∧ (∃ z, σ = [some (V.str (tx p)), some (.ref l), some (.ref d), z]) ∧ ∃ kvs ks e, H' d = some (.dK kvs) ∧ kvs.map (·.1) = ks.map Sum.inl ∧ Gat p xs ks e ∧ (p[e.toNat]? ≠ some 42 ∨ e < 0) ∧ ∀ k ∈ xs.take i, k ∈ ks) ?_ (fun i σ H' _ p => SqL.same p.1 hl) ?_ ?_⟩
  · exact ⟨e0, ⟨_, rfl⟩, [], [], -1, upd_same, rfl, Gat.nil, .inr (by decide), by simp⟩
  · rintro i x σ H1 H2 hi ⟨e, ⟨z, rfl⟩, kvs, ks, ex, hd1, hk, g, he, hin⟩ ⟨rfl, hx⟩
    have hi' : i < xs.length := by rwa [hlen] at hi
    have e1 : xs[i]? = some xs[i] := List.getElem?_eq_getElem hi'
    have ex1 : x = .int xs[i] := by rw [List.getElem?_map, e1] at hx; exact (Option.some.inj hx).symm
    subst ex1
    have hmem : xs[i] ∈ xs := List.getElem_mem hi'
    have hkl : kvs.length = ks.length := by have := congrArg List.length hk; simpa using this
    have hsmall : kvs.length < sizeLine := by have := g.len; exact sz_smallT (by omega)
    refine ⟨_, rfl, _, rfl, _, _, rfl, DPut.k (k := .inl xs[i]) hd1 hsmall, ?_⟩
    refine ⟨fun m σ H' => ∃ k kvs ks, m = p.length - k.toNat ∧ σ = [some (V.str (tx p)), some (.ref l), some (.ref d), some (.int k)] ∧ Same H H' ∧ H' d = some (.dK kvs) ∧ kvs.map (·.1) = ks.map Sum.inl ∧ Gat p xs ks k ∧ k ∈ ks ∧ ∀ j ∈ xs.take (i + 1), j ∈ ks, ⟨_, xs[i], _, _, rfl, rfl, Same.put e hd, upd_same, putK_keys hk, g.put he (led_of_mem hmem (hr _ hmem).1 (hr _ hmem).2), addK_mem.mpr (.inr rfl), ?_⟩, ?_⟩
    · intro j hj
      rw [List.take_succ, e1] at hj
      rcases List.mem_append.mp hj with h | h
      · exact addK_mem.mpr (.inl (hin j h))
      · simp at h; exact addK_mem.mpr (.inr h)
    · rintro m σ H1 ⟨k, kvs, ks, rfl, rfl, e, hd1, hk, g, hm, hin⟩
      have hr := led_range (g.sd k hm)
      have hkl : kvs.length = ks.length := by have := congrArg List.length hk; simpa using this
      have hsmall : kvs.length < sizeLine := by have := g.len; exact sz_smallT (by omega)
      refine ⟨_, rfl, _, rfl, _, rfl, szS (by omega), _, _, rfl, rfl, _, rfl, ?_⟩
      rw [tx_len]
      by_cases hlt : k < (p.length : Int)
      · rw [decide_eq_true hlt]
        have hn : k.toNat < p.length := by omega
        have ec : p[k.toNat]? = some p[k.toNat] := List.getElem?_eq_getElem hn
        refine iteT ⟨_, rfl, _, rfl, _, _, _, rfl, rfl, szS (by omega), atI_int hr.1 (by rw [tx_cps]; exact ec), rfl, _, rfl, ?_⟩
        rw [q_star, tx_one, dec_tx]
        by_cases hs : p[k.toNat] = 42
        · rw [decide_eq_true (by rw [hs] : [p[k.toNat]] = [42])]
          have hs' : p[k.toNat]? = some 42 := by rw [ec, hs]
          refine iteT ⟨fun σ' H' => ∃ kvs ks, σ' = [some (V.str (tx p)), some (.ref l), some (.ref d), some (.int (k + 1))] ∧ Same H H' ∧ H' d = some (.dK kvs) ∧ kvs.map (·.1) = ks.map Sum.inl ∧ Gat p xs ks (k + 1) ∧ k + 1 ∈ ks ∧ ∀ j ∈ xs.take (i + 1), j ∈ ks, ?_, ?_⟩
          · rintro σ' H' ⟨kvs, ks, rfl, e, h1, h2, h3, h4, h5⟩
            exact ⟨p.length - (k + 1).toNat, by omega, k + 1, kvs, ks, rfl, rfl, e, h1, h2, h3, h4, h5⟩
          · exact ⟨_, rfl, _, _, rfl, rfl, _, rfl, _, rfl, _, _, rfl, DPut.k (k := .inl (k + 1)) hd1 hsmall, _, _, rfl, Same.put e hd, upd_same, putK_keys hk, g.step hm hs', addK_mem.mpr (.inr rfl), fun j hj => addK_mem.mpr (.inl (hin j hj))⟩
        · rw [decide_eq_false (fun z => hs (by injection z))]
          exact iteF ⟨e, ⟨_, rfl⟩, kvs, ks, k, hd1, hk, g, .inl (by rw [ec]; exact fun z => hs (Option.some.inj z)), hin⟩
      · rw [decide_eq_false hlt]
        exact iteF ⟨e, ⟨_, rfl⟩, kvs, ks, k, hd1, hk, g, .inl (by rw [List.getElem?_eq_none (by omega)]; exact fun z => nomatch z), hin⟩
  · rintro σ H1 ⟨e, ⟨z, rfl⟩, kvs, ks, ex, hd1, hk, g, he, hin⟩
    have hkl := g.len
    refine ⟨_, rfl, _, _, _, rfl, .inl hd1, hk, by omega, fun ys q pm so hq0 => ⟨_, _, rfl, .inl ⟨.inl (.inl upd_same), fun l' hl' => ?_⟩⟩⟩
    have ey : ys = led p xs := g.done he (fun k hk => hin k (by rw [hlen, List.take_length]; exact hk)) pm so
    refine hq _ _ ((e.trans (Same.new hq0)).trans (Same.new hl')) ⟨l', rfl, .inl (.inl ?_)⟩
    rw [upd_same, ey]

def p_led_onT (K : PySem.W.Frag) (a : Ad) (x y : V) (H : Hp) (Q : VK) : Prop := ∃ p l xs, x = .str (tx p) ∧ p.length ≤ 4 ∧ y = .ref l ∧ SqT K H l (xs.map V.int) ∧ xs.length ≤ 100 ∧ (∀ k ∈ xs, 0 ≤ k ∧ k ≤ (p.length : Int)) ∧ ∀ v H', Same H H' → StAt K H' v (.t (led p xs)) → Q v H'
theorem ok_led_onT {fa : Addr} {fd : FuncData} (T : Txt K mg a) (F : FnP K "led_on" "led_on" s_led_on fa fd) (g : mg "led_on" = some (.ref fa)) : Cl P w K mg base 1 "led_on" (sq2 (p_led_onT K a)) := by
  refine cl_of F g (fun _ _ _ _ _ _ us hl => match us, hl with | [_, _], _ => rfl) sc_led_on (fun vs H Q h => sq2_len h) fun vs H Q h cdv A outer s hr => ?_
  obtain ⟨v_pattern, v_places, rfl, h⟩ := sq2_inv h
  refine ⟨_, (pss_cons (ps_set (i := 2) sc_led_on.nd rfl (Or.inl rfl) pe_dnewK)
      (pss_cons (ps_for PassesOwn.never rfl (pi_tup (pv 1)) (pg_name (i := 3) sc_led_on.nd rfl (Or.inl rfl)) (pss_cons (ps_dput (hu_of hr) (pv 2) (pv 3) pe_bl rfl)
      (pss_one (ps_while PassesOwn.never (PW.pt (pw_and (pt_cmpR op_lt (pv 3) (pe_callB call_len_str (by rfl) T.fLen (by decide +kernel) (pa_cons (pv 0) pa_nil)) rfl) (pw_and1 (pt_cmpR op_eq (pe_ix ix_str (pv 0) (pv 3) (fun _ _ => rfl)) pe_str rfl)))) (pss_cons (ps_aug (i := 3) sc_led_on.nd rfl (.inl rfl) pe_int ip_add)
      (pss_one (ps_dput (hu_of hr) (pv 2) (pv 3) pe_bl rfl)))))))
      (pss_one (ps_ret (pe_callTy call_tuple_of (by rfl) T.fTuple (by decide +kernel) (pa_cons (pe_callB (call_sortedDI rfl) (by rfl) T.fSorted (by decide +kernel) (pa_cons (pv 2) pa_nil)) pa_nil)))))), ?_⟩
  obtain ⟨p, l, xs, rfl, hp, rfl, hl, hxs, hr, hq⟩ := h
  intro d hd
  have e0 : Same H (upd H d (.dK [])) := Same.new hd
  have hlen : (xs.map V.int).length = xs.length := by simp
  refine ⟨_, rfl, _, rfl, ⟨_, SqT.same e0 hl⟩, for_it walk_tup (fun i σ H' => Same H H' ∧ (∃ z, σ = [some (V.str (tx p)), some (.ref l), some (.ref d), z]) ∧ ∃ kvs ks e, H' d = some (.dK kvs) ∧ kvs.map (·.1) = ks.map Sum.inl ∧ Gat p xs ks e ∧ (p[e.toNat]? ≠ some 42 ∨ e < 0) ∧ ∀ k ∈ xs.take i, k ∈ ks) ?_ (fun i σ H' _ p => SqT.same p.1 hl) ?_ ?_⟩
  · exact ⟨e0, ⟨_, rfl⟩, [], [], -1, upd_same, rfl, Gat.nil, .inr (by decide), by simp⟩
  · rintro i x σ H1 H2 hi ⟨e, ⟨z, rfl⟩, kvs, ks, ex, hd1, hk, g, he, hin⟩ ⟨rfl, hx⟩
    have hi' : i < xs.length := by rwa [hlen] at hi
    have e1 : xs[i]? = some xs[i] := List.getElem?_eq_getElem hi'
    have ex1 : x = .int xs[i] := by rw [List.getElem?_map, e1] at hx; exact (Option.some.inj hx).symm
    subst ex1
    have hmem : xs[i] ∈ xs := List.getElem_mem hi'
    have hkl : kvs.length = ks.length := by have := congrArg List.length hk; simpa using this
    have hsmall : kvs.length < sizeLine := by have := g.len; exact sz_smallT (by omega)
    refine ⟨_, rfl, _, rfl, _, _, rfl, DPut.k (k := .inl xs[i]) hd1 hsmall, ?_⟩
    refine ⟨fun m σ H' => ∃ k kvs ks, m = p.length - k.toNat ∧ σ = [some (V.str (tx p)), some (.ref l), some (.ref d), some (.int k)] ∧ Same H H' ∧ H' d = some (.dK kvs) ∧ kvs.map (·.1) = ks.map Sum.inl ∧ Gat p xs ks k ∧ k ∈ ks ∧ ∀ j ∈ xs.take (i + 1), j ∈ ks, ⟨_, xs[i], _, _, rfl, rfl, Same.put e hd, upd_same, putK_keys hk, g.put he (led_of_mem hmem (hr _ hmem).1 (hr _ hmem).2), addK_mem.mpr (.inr rfl), ?_⟩, ?_⟩
    · intro j hj
      rw [List.take_succ, e1] at hj
      rcases List.mem_append.mp hj with h | h
      · exact addK_mem.mpr (.inl (hin j h))
      · simp at h; exact addK_mem.mpr (.inr h)
    · rintro m σ H1 ⟨k, kvs, ks, rfl, rfl, e, hd1, hk, g, hm, hin⟩
      have hr := led_range (g.sd k hm)
      have hkl : kvs.length = ks.length := by have := congrArg List.length hk; simpa using this
      have hsmall : kvs.length < sizeLine := by have := g.len; exact sz_smallT (by omega)
      refine ⟨_, rfl, _, rfl, _, rfl, szS (by omega), _, _, rfl, rfl, _, rfl, ?_⟩
      rw [tx_len]
      by_cases hlt : k < (p.length : Int)
      · rw [decide_eq_true hlt]
        have hn : k.toNat < p.length := by omega
        have ec : p[k.toNat]? = some p[k.toNat] := List.getElem?_eq_getElem hn
        refine iteT ⟨_, rfl, _, rfl, _, _, _, rfl, rfl, szS (by omega), atI_int hr.1 (by rw [tx_cps]; exact ec), rfl, _, rfl, ?_⟩
        rw [q_star, tx_one, dec_tx]
        by_cases hs : p[k.toNat] = 42
        · rw [decide_eq_true (by rw [hs] : [p[k.toNat]] = [42])]
          have hs' : p[k.toNat]? = some 42 := by rw [ec, hs]
          refine iteT ⟨fun σ' H' => ∃ kvs ks, σ' = [some (V.str (tx p)), some (.ref l), some (.ref d), some (.int (k + 1))] ∧ Same H H' ∧ H' d = some (.dK kvs) ∧ kvs.map (·.1) = ks.map Sum.inl ∧ Gat p xs ks (k + 1) ∧ k + 1 ∈ ks ∧ ∀ j ∈ xs.take (i + 1), j ∈ ks, ?_, ?_⟩
          · rintro σ' H' ⟨kvs, ks, rfl, e, h1, h2, h3, h4, h5⟩
            exact ⟨p.length - (k + 1).toNat, by omega, k + 1, kvs, ks, rfl, rfl, e, h1, h2, h3, h4, h5⟩
          · exact ⟨_, rfl, _, _, rfl, rfl, _, rfl, _, rfl, _, _, rfl, DPut.k (k := .inl (k + 1)) hd1 hsmall, _, _, rfl, Same.put e hd, upd_same, putK_keys hk, g.step hm hs', addK_mem.mpr (.inr rfl), fun j hj => addK_mem.mpr (.inl (hin j hj))⟩
        · rw [decide_eq_false (fun z => hs (by injection z))]
          exact iteF ⟨e, ⟨_, rfl⟩, kvs, ks, k, hd1, hk, g, .inl (by rw [ec]; exact fun z => hs (Option.some.inj z)), hin⟩
      · rw [decide_eq_false hlt]
        exact iteF ⟨e, ⟨_, rfl⟩, kvs, ks, k, hd1, hk, g, .inl (by rw [List.getElem?_eq_none (by omega)]; exact fun z => nomatch z), hin⟩
  · rintro σ H1 ⟨e, ⟨z, rfl⟩, kvs, ks, ex, hd1, hk, g, he, hin⟩
    have hkl := g.len
    refine ⟨_, rfl, _, _, _, rfl, .inl hd1, hk, by omega, fun ys q pm so hq0 => ⟨_, _, rfl, .inl ⟨.inl (.inl upd_same), fun l' hl' => ?_⟩⟩⟩
    have ey : ys = led p xs := g.done he (fun k hk => hin k (by rw [hlen, List.take_length]; exact hk)) pm so
    refine hq _ _ ((e.trans (Same.new hq0)).trans (Same.new hl')) ⟨l', rfl, .inl (.inl ?_)⟩
    rw [upd_same, ey]

def p_is_pattern (K : PySem.W.Frag) (a : Ad) (x y : V) (H : Hp) (Q : VK) : Prop := ∃ L p : Tx, x = .str (tx L) ∧ L.length ≤ 100 ∧ y = .str (tx p) ∧ okCond L (.like p) ∧ ∀ H', Same H H' → Q (.bl true) H'
abbrev N_is_pattern : List Str := ["letters", "thing", "sign"]
theorem sc_is_pattern : FnScope N_is_pattern ["letters", "thing"] (defScope s_is_pattern) := ⟨rfl, rfl, rfl, by decide +kernel, rfl, by decide +kernel, by decide +kernel⟩
theorem ok_is_pattern {fa : Addr} {fd : FuncData} (T : Txt K mg a) (F : FnP K "is_pattern" "is_pattern" s_is_pattern fa fd) (g : mg "is_pattern" = some (.ref fa)) : Cl P w K mg base 1 "is_pattern" (sq2 (p_is_pattern K a)) := by
  refine cl_of F g (fun _ _ _ _ _ _ us hl => match us, hl with | [_, _], _ => rfl) sc_is_pattern (fun vs H Q h => sq2_len h) fun vs H Q h cdv A outer s hr => ?_
  obtain ⟨v_letters, v_thing, rfl, h⟩ := sq2_inv h
  refine ⟨_, (pss_one (ps_ret (pe_and (pe_callB call_isi (by rfl) T.fIsi (by decide +kernel) (pa_cons (pv 1) (pa_cons (pe_bltn (v := .ty "str") (by rfl) T.fStr (by decide +kernel) rfl) pa_nil))) (pe_and (pe_cmpR op_le (pe_callB call_len_str (by rfl) T.fLen (by decide +kernel) (pa_cons (pv 1) pa_nil)) (pe_gc rfl T.g_MOST_SIGNS) rfl) (pe_one (pe_callB (cr_all rfl) (by rfl) T.fAll (by decide +kernel) (pa_cons (pe_lc (own := [("sign", 2)]) (g := gName 2) (tt := tYes) rfl sc_is_pattern.nd (pi_str (pv 1)) (blkOk_by (own := [("sign", 2)]) (N := N_is_pattern) (sc := defScope s_is_pattern) (by decide +kernel)) (fun _ _ _ _ _ => pg_name (i := 2) sc_is_pattern.nd rfl (Or.inl rfl)) (fun _ _ _ _ _ => pts_nil) (fun _ _ _ _ _ => (pe_cmpR op_in_sign (pv 2) (pe_op op_add_str (pv 0) pe_str) rfl))) pa_nil))))))), ?_⟩
  obtain ⟨L, p, rfl, hL, rfl, ⟨hm, hp⟩, hq⟩ := h
  refine ⟨_, rfl, _, _, _, _, _, rfl, .ty _, ty_str _, kit_ss, true, rfl, iteT ?_⟩
  refine ⟨_, rfl, _, rfl, szS (by omega), _, _, rfl, rfl, _, rfl, ?_⟩
  rw [tx_len, decide_eq_true (show (p.length : Int) ≤ 4 by omega)]
  refine iteT ⟨_, rfl, _, rfl, fun D hD => lc_str K p (fun _ => true) (by omega) hD ?_ ?_⟩
  · intro c Hc Yes hc e hy
    refine ⟨_, rfl, _, rfl, _, _, rfl, rfl, ?_, ?_⟩
    · rw [q_both, tx_len, tx_len]; exact sz_small (by simp; omega)
    · rw [q_both, tx_app]
      refine ⟨_, _, rfl, rfl, ?_⟩
      rw [tx_mem, decide_eq_true (by rcases hm c hc with h | rfl | rfl <;> simp_all)]
      exact hy Hc (Same.refl Hc)
  · intro H' e hD'
    exact all_fin hD' (hq H' e) (by simp)

def p_is_short (K : PySem.W.Frag) (a : Ad) (x y : V) (H : Hp) (Q : VK) : Prop := ∃ L p : Tx, x = .str (tx L) ∧ y = .str (tx p) ∧ okCond L (.eq p) ∧ ∀ H', Same H H' → Q (.bl true) H'
abbrev N_is_short : List Str := ["letters", "thing"]
theorem sc_is_short : FnScope N_is_short ["letters", "thing"] (defScope s_is_short) := ⟨rfl, rfl, rfl, by decide +kernel, rfl, by decide +kernel, by decide +kernel⟩
theorem ok_is_short {fa : Addr} {fd : FuncData} (T : Txt K mg a) (F : FnP K "is_short" "is_short" s_is_short fa fd) (g : mg "is_short" = some (.ref fa)) (c_is_value : Cl P w K mg base 1 "is_value" (sq2 (p_is_value K a))) : Cl P w K mg base 2 "is_short" (sq2 (p_is_short K a)) := by
  refine cl_of F g (fun _ _ _ _ _ _ us hl => match us, hl with | [_, _], _ => rfl) sc_is_short (fun vs H Q h => sq2_len h) fun vs H Q h cdv A outer s hr => ?_
  obtain ⟨v_letters, v_thing, rfl, h⟩ := sq2_inv h
  refine ⟨_, (pss_one (ps_ret (pe_and (pe_cl c_is_value hr (pa_cons (pv 0) (pa_cons (pv 1) pa_nil))) (pe_one (pe_cmpR op_le (pe_callB call_len_str (by rfl) T.fLen (by decide +kernel) (pa_cons (pv 1) pa_nil)) (pe_gc rfl T.g_MOST_SIGNS) rfl))))), ?_⟩
  obtain ⟨L, p, rfl, rfl, ⟨hm, hp⟩, hq⟩ := h
  refine ⟨_, rfl, _, rfl, L, p, rfl, rfl, by omega, fun H' e => ⟨isValue L p, rfl, ?_⟩⟩
  rw [show isValue L p = true from List.all_eq_true.mpr fun c hc => decide_eq_true (hm c hc)]
  refine iteT ⟨_, rfl, _, rfl, szS (by omega), _, _, rfl, rfl, ?_⟩
  rw [tx_len]
  show Q (V.bl (decide ((p.length : Int) ≤ 4))) H'
  rw [decide_eq_true (show (p.length : Int) ≤ 4 by omega)]
  exact hq H' e
end K5

set_option Elab.async false
set_option linter.all false
set_option maxRecDepth 100000
set_option maxHeartbeats 4000000
/-! conditions.py, part two. -/
namespace K5
open PySem PySem.Spec PyProof.Rows L2
variable {P : Program} {w : World} {K : PySem.W.Frag} {mg : Str → Option Value} {base : Heap} {a : Ad}

theorem lc_ints (K : PySem.W.Frag) {J : It} {G : Hp → Prop} {tt : TT} {te : TE} {σ : L2.St} {H1 : Hp} {D : Addr} {Qd : Hp → Prop} {j : Nat} {xs : List Int} (w : Walk J (xs.map V.int).length G (YAt (xs.map V.int))) (f : Int → Bool) (g : Int → Int) (hn : xs.length ≤ 100000) (hD : H1 D = none) (hG : ∀ H, Same H1 H → G H)
    (hs : ∀ k Hc (Yes : V → Hp → Prop) (No : Hp → Prop), k ∈ xs → Same H1 Hc → (f k = true → ∀ H4, Same Hc H4 → Yes (.int (g k)) H4) → (f k = false → ∀ H3, Same Hc H3 → No H3) →
      tt ((σ.set j none).set j (some (.int k))) Hc fun b H3 => if b = true then te ((σ.set j none).set j (some (.int k))) H3 Yes else No H3)
    (hd : ∀ H, Same H1 H → H D = some (.lst (((xs.filter f).map g).map V.int)) → Qd H) : LcW J (gName j) tt te [j] σ H1 D Qd := by
  have hlen : (xs.map V.int).length = xs.length := by simp
  refine lc_go (K := K) w hD (fun i acc _ => acc = (((xs.take i).filter f).map g).map V.int) (by rw [hlen]; exact hn) (fun _ _ _ _ _ h => h) hG (by simp) ?_ (fun acc H e ha _ hr => hd H e (by rw [ha, hr, hlen, List.take_length]))
  rintro i acc x Hc H' Yes No hi e hr ⟨rfl, hx⟩ hyes hno
  have hi' : i < xs.length := by rwa [hlen] at hi
  have e1 : xs[i]? = some xs[i] := List.getElem?_eq_getElem hi'
  have ex1 : x = .int xs[i] := by rw [List.getElem?_map, e1] at hx; exact (Option.some.inj hx).symm
  subst ex1
  refine ⟨wipe_one _ _ _, hs xs[i] H' Yes No (List.getElem_mem hi') e (fun hf H4 e4 => hyes _ _ e4 ?_) (fun hf H3 e3 => hno _ e3 ?_)⟩
  · rw [hr, List.take_succ, e1, List.filter_append]
    simp [hf]
  · rw [hr, List.take_succ, e1, List.filter_append]
    simp [hf]

def p_is_condition_of (K : PySem.W.Frag) (a : Ad) (x y : V) (H : Hp) (Q : VK) : Prop := ∃ (L : Tx) (c : Cond), x = .str (tx L) ∧ L.length ≤ 100 ∧ CondAt K H y c ∧ okCond L c ∧ ∀ H', Same H H' → Q (.bl true) H'
abbrev N_is_condition_of : List Str := ["letters", "thing", "one"]
theorem sc_is_condition_of : FnScope N_is_condition_of ["letters", "thing"] (defScope s_is_condition_of) := ⟨rfl, rfl, rfl, by decide +kernel, rfl, by decide +kernel, by decide +kernel⟩
theorem ok_is_condition_of {fa : Addr} {fd : FuncData} (T : Txt K mg a) (F : FnP K "is_condition_of" "is_condition_of" s_is_condition_of fa fd) (g : mg "is_condition_of" = some (.ref fa)) (c_is_pattern : Cl P w K mg base 1 "is_pattern" (sq2 (p_is_pattern K a))) (c_is_short : Cl P w K mg base 2 "is_short" (sq2 (p_is_short K a))) : Cl P w K mg base 3 "is_condition_of" (sq2 (p_is_condition_of K a)) := by
  refine cl_of F g (fun _ _ _ _ _ _ us hl => match us, hl with | [_, _], _ => rfl) sc_is_condition_of (fun vs H Q h => sq2_len h) fun vs H Q h cdv A outer s hr => ?_
  obtain ⟨v_letters, v_thing, rfl, h⟩ := sq2_inv h
  refine ⟨_, (pss_cons (ps_if (PW.pt (pw_or (pt_not (pt_val (pe_callB call_isi (by rfl) T.fIsi (by decide +kernel) (pa_cons (pv 1) (pa_cons (pe_bltn (v := .ty "tuple") (by rfl) T.fTuple (by decide +kernel) rfl) pa_nil))) (fun _ => rfl))) (pw_or (pt_cmpR op_lt (pe_callB call_len_seq (by rfl) T.fLen (by decide +kernel) (pa_cons (pv 1) pa_nil)) pe_int rfl) (pw_or (pt_not (pt_val (pe_callB call_isi (by rfl) T.fIsi (by decide +kernel) (pa_cons (pe_ix ix_tup (pv 1) pe_int (fun _ _ => rfl)) (pa_cons (pe_bltn (v := .ty "str") (by rfl) T.fStr (by decide +kernel) rfl) pa_nil))) (fun _ => rfl))) (pw_or1 (pt_cmpR op_notIn_seq (pe_ix ix_tup (pv 1) pe_int (fun _ _ => rfl)) (pe_gc rfl T.g_KINDS) rfl)))))) (pss_one (ps_ret pe_bl)) pss_nil)
      (pss_cons (ps_if (pt_cmpR op_ne (pe_callB call_len_seq (by rfl) T.fLen (by decide +kernel) (pa_cons (pv 1) pa_nil)) (pe_ifExp (pt_cmpR op_eq (pe_ix ix_tup (pv 1) pe_int (fun _ _ => rfl)) pe_str rfl) pe_int pe_int) rfl) (pss_one (ps_ret pe_bl)) pss_nil)
      (pss_cons (ps_if (pt_cmpR op_eq (pe_ix ix_tup (pv 1) pe_int (fun _ _ => rfl)) pe_str rfl) (pss_one (ps_ret (pe_cl c_is_pattern hr (pa_cons (pv 0) (pa_cons (pe_ix ix_tup (pv 1) pe_int (fun _ _ => rfl)) pa_nil))))) pss_nil)
      (pss_one (ps_ret (pe_callB (cr_all rfl) (by rfl) T.fAll (by decide +kernel) (pa_cons (pe_lc (own := [("one", 2)]) (g := gName 2) (tt := tYes) rfl sc_is_condition_of.nd (pi_tup (pe_slice sl_tupA (pv 1) (po_some pe_int) po_none)) (blkOk_by (own := [("one", 2)]) (N := N_is_condition_of) (sc := defScope s_is_condition_of) (by decide +kernel)) (fun _ _ _ _ _ => pg_name (i := 2) sc_is_condition_of.nd rfl (Or.inl rfl)) (fun _ _ _ _ _ => pts_nil) (fun _ _ _ _ _ => (pe_cl c_is_short hr (pa_cons (pv 0) (pa_cons (pv 2) pa_nil))))) pa_nil))))))), ?_⟩
  obtain ⟨L, c, rfl, hL, hc, ok, hq⟩ := h
  have kin : ∀ s : Str, s ∈ [Str.ofString "equal", Str.ofString "begins", Str.ofString "between", Str.ofString "like"] → inV (.str s) [.str "equal", .str "begins", .str "between", .str "like"] = true := by decide +kernel
  cases c with
  | eq p =>
    obtain ⟨b, rfl, hb⟩ := hc
    refine ⟨_, rfl, _, _, _, _, _, rfl, .ty _, ty_tup hb, kit_tt, true, rfl, iteF ?_⟩
    refine ⟨_, rfl, _, _, rfl, .inr hb, _, _, rfl, rfl, _, rfl, iteF ?_⟩
    refine ⟨_, rfl, _, _, 0, _, rfl, rfl, hb, rfl, _, _, _, _, _, rfl, .ty _, ty_str _, kit_ss, true, rfl, iteF ?_⟩
    refine ⟨_, rfl, _, _, 0, _, rfl, rfl, hb, rfl, _, _, rfl, .inr (T.kinds H), rfl, rfl, _, rfl, ?_⟩
    rw [if_pos rfl, kin _ (by decide)]
    refine iteF ⟨_, rfl, _, _, rfl, .inr hb, _, rfl, _, _, 0, _, rfl, rfl, hb, rfl, rfl, _, rfl, iteF ⟨rfl, _, rfl, iteF ?_⟩⟩
    refine ⟨_, rfl, _, _, 0, _, rfl, rfl, hb, rfl, rfl, _, rfl, iteF ?_⟩
    refine ⟨_, rfl, 1, rfl, _, _, rfl, hb, fun z => absurd z.1 (show ¬ HT.sIx 2 0 (some 1) = 0 by decide), fun _ t0 ht0 => ⟨_, rfl, ⟨_, .inl (.inl upd_same)⟩, fun D hD => lc_seq K walk_tup (fun _ v (t : Tx) => v = .str (tx t)) [p] (fun _ => true) (by simp) hD (fun H h => SqT.same h (.inl (.inl upd_same))) (.cons rfl (.nil)) ?_ ?_⟩⟩
    · intro v t Hc Yes ht hv e hy
      refine ⟨_, rfl, _, rfl, L, t, rfl, hv, ?_, fun H4 e4 => hy H4 e4⟩
      rw [List.mem_singleton.mp ht]; exact ok
    · intro H' e hD'
      exact all_fin hD' (hq H' ((Same.new ht0).trans e)) (by simp)
  | beg p =>
    obtain ⟨b, rfl, hb⟩ := hc
    refine ⟨_, rfl, _, _, _, _, _, rfl, .ty _, ty_tup hb, kit_tt, true, rfl, iteF ?_⟩
    refine ⟨_, rfl, _, _, rfl, .inr hb, _, _, rfl, rfl, _, rfl, iteF ?_⟩
    refine ⟨_, rfl, _, _, 0, _, rfl, rfl, hb, rfl, _, _, _, _, _, rfl, .ty _, ty_str _, kit_ss, true, rfl, iteF ?_⟩
    refine ⟨_, rfl, _, _, 0, _, rfl, rfl, hb, rfl, _, _, rfl, .inr (T.kinds H), rfl, rfl, _, rfl, ?_⟩
    rw [if_pos rfl, kin _ (by decide)]
    refine iteF ⟨_, rfl, _, _, rfl, .inr hb, _, rfl, _, _, 0, _, rfl, rfl, hb, rfl, rfl, _, rfl, iteF ⟨rfl, _, rfl, iteF ?_⟩⟩
    refine ⟨_, rfl, _, _, 0, _, rfl, rfl, hb, rfl, rfl, _, rfl, iteF ?_⟩
    refine ⟨_, rfl, 1, rfl, _, _, rfl, hb, fun z => absurd z.1 (show ¬ HT.sIx 2 0 (some 1) = 0 by decide), fun _ t0 ht0 => ⟨_, rfl, ⟨_, .inl (.inl upd_same)⟩, fun D hD => lc_seq K walk_tup (fun _ v (t : Tx) => v = .str (tx t)) [p] (fun _ => true) (by simp) hD (fun H h => SqT.same h (.inl (.inl upd_same))) (.cons rfl (.nil)) ?_ ?_⟩⟩
    · intro v t Hc Yes ht hv e hy
      refine ⟨_, rfl, _, rfl, L, t, rfl, hv, ?_, fun H4 e4 => hy H4 e4⟩
      rw [List.mem_singleton.mp ht]; exact ok
    · intro H' e hD'
      exact all_fin hD' (hq H' ((Same.new ht0).trans e)) (by simp)
  | bet p q =>
    obtain ⟨b, rfl, hb⟩ := hc
    refine ⟨_, rfl, _, _, _, _, _, rfl, .ty _, ty_tup hb, kit_tt, true, rfl, iteF ?_⟩
    refine ⟨_, rfl, _, _, rfl, .inr hb, _, _, rfl, rfl, _, rfl, iteF ?_⟩
    refine ⟨_, rfl, _, _, 0, _, rfl, rfl, hb, rfl, _, _, _, _, _, rfl, .ty _, ty_str _, kit_ss, true, rfl, iteF ?_⟩
    refine ⟨_, rfl, _, _, 0, _, rfl, rfl, hb, rfl, _, _, rfl, .inr (T.kinds H), rfl, rfl, _, rfl, ?_⟩
    rw [if_pos rfl, kin _ (by decide)]
    refine iteF ⟨_, rfl, _, _, rfl, .inr hb, _, rfl, _, _, 0, _, rfl, rfl, hb, rfl, rfl, _, rfl, iteT ⟨rfl, _, rfl, iteF ?_⟩⟩
    refine ⟨_, rfl, _, _, 0, _, rfl, rfl, hb, rfl, rfl, _, rfl, iteF ?_⟩
    refine ⟨_, rfl, 1, rfl, _, _, rfl, hb, fun z => absurd z.1 (show ¬ HT.sIx 3 0 (some 1) = 0 by decide), fun _ t0 ht0 => ⟨_, rfl, ⟨_, .inl (.inl upd_same)⟩, fun D hD => lc_seq K walk_tup (fun _ v (t : Tx) => v = .str (tx t)) [p, q] (fun _ => true) (by simp) hD (fun H h => SqT.same h (.inl (.inl upd_same))) (.cons rfl (.cons rfl (.nil))) ?_ ?_⟩⟩
    · intro v t Hc Yes ht hv e hy
      refine ⟨_, rfl, _, rfl, L, t, rfl, hv, ?_, fun H4 e4 => hy H4 e4⟩
      rcases List.mem_cons.mp ht with rfl | ht
      · exact ok.1
      · rw [List.mem_singleton.mp ht]; exact ok.2
    · intro H' e hD'
      exact all_fin hD' (hq H' ((Same.new ht0).trans e)) (by simp)
  | like p =>
    obtain ⟨b, rfl, hb⟩ := hc
    refine ⟨_, rfl, _, _, _, _, _, rfl, .ty _, ty_tup hb, kit_tt, true, rfl, iteF ?_⟩
    refine ⟨_, rfl, _, _, rfl, .inr hb, _, _, rfl, rfl, _, rfl, iteF ?_⟩
    refine ⟨_, rfl, _, _, 0, _, rfl, rfl, hb, rfl, _, _, _, _, _, rfl, .ty _, ty_str _, kit_ss, true, rfl, iteF ?_⟩
    refine ⟨_, rfl, _, _, 0, _, rfl, rfl, hb, rfl, _, _, rfl, .inr (T.kinds H), rfl, rfl, _, rfl, ?_⟩
    rw [if_pos rfl, kin _ (by decide)]
    refine iteF ⟨_, rfl, _, _, rfl, .inr hb, _, rfl, _, _, 0, _, rfl, rfl, hb, rfl, rfl, _, rfl, iteF ⟨rfl, _, rfl, iteF ?_⟩⟩
    refine ⟨_, rfl, _, _, 0, _, rfl, rfl, hb, rfl, rfl, _, rfl, iteT ?_⟩
    exact ⟨_, rfl, _, rfl, _, _, 1, _, rfl, rfl, hb, rfl, L, p, rfl, hL, rfl, ok, hq⟩

def p_check_condition (K : PySem.W.Frag) (a : Ad) (x y : V) (H : Hp) (Q : VK) : Prop := ∃ (L : Tx) (c : Cond), x = .str (tx L) ∧ L.length ≤ 100 ∧ CondAt K H y c ∧ okCond L c ∧ ∀ H', Same H H' → Q .non H'
abbrev N_check_condition : List Str := ["letters", "condition"]
theorem sc_check_condition : FnScope N_check_condition ["letters", "condition"] (defScope s_check_condition) := ⟨rfl, rfl, rfl, by decide +kernel, rfl, by decide +kernel, by decide +kernel⟩
theorem ok_check_condition {fa : Addr} {fd : FuncData} (T : Txt K mg a) (F : FnP K "check_condition" "check_condition" s_check_condition fa fd) (g : mg "check_condition" = some (.ref fa)) (c_is_condition_of : Cl P w K mg base 3 "is_condition_of" (sq2 (p_is_condition_of K a))) : Cl P w K mg base 4 "check_condition" (sq2 (p_check_condition K a)) := by
  refine cl_of F g (fun _ _ _ _ _ _ us hl => match us, hl with | [_, _], _ => rfl) sc_check_condition (fun vs H Q h => sq2_len h) fun vs H Q h cdv A outer s hr => ?_
  obtain ⟨v_letters, v_condition, rfl, h⟩ := sq2_inv h
  refine ⟨_, (pss_one (ps_if (pt_not (pt_val (pe_cl c_is_condition_of hr (pa_cons (pv 0) (pa_cons (pv 1) pa_nil))) (fun _ => rfl))) (pss_one ps_never) pss_nil)), ?_⟩
  obtain ⟨L, c, rfl, hL, hc, ok, hq⟩ := h
  exact ⟨_, rfl, _, rfl, L, c, rfl, hL, hc, ok, fun H' e => ⟨true, rfl, iteF (hq H' e)⟩⟩

def p_first_stand (K : PySem.W.Frag) (a : Ad) (x : V) (H : Hp) (Q : VK) : Prop := ∃ (L : Tx) (c : Cond), CondAt K H x c ∧ okCond L c ∧ ∀ v H', Same H H' → StAt K H' v (firstStand c) → Q v H'
abbrev N_first_stand : List Str := ["condition"]
theorem sc_first_stand : FnScope N_first_stand ["condition"] (defScope s_first_stand) := ⟨rfl, rfl, rfl, by decide +kernel, rfl, by decide +kernel, by decide +kernel⟩
theorem ok_first_stand {fa : Addr} {fd : FuncData} (T : Txt K mg a) (F : FnP K "first_stand" "first_stand" s_first_stand fa fd) (g : mg "first_stand" = some (.ref fa)) (c_led_on : Cl P w K mg base 1 "led_on" (sq2 (p_led_onL K a))) : Cl P w K mg base 2 "first_stand" (sq1 (p_first_stand K a)) := by
  refine cl_of F g (fun _ _ _ _ _ _ us hl => match us, hl with | [_], _ => rfl) sc_first_stand (fun vs H Q h => sq1_len h) fun vs H Q h cdv A outer s hr => ?_
  obtain ⟨v_condition, rfl, h⟩ := sq1_inv h
  refine ⟨_, (pss_cons (ps_if (pt_cmpR op_eq (pe_ix ix_tup (pv 0) pe_int (fun _ _ => rfl)) pe_str rfl) (pss_one (ps_ret (pe_cl c_led_on hr (pa_cons (pe_ix ix_tup (pv 0) pe_int (fun _ _ => rfl)) (pa_cons (pe_lst (pa_cons pe_int pa_nil)) pa_nil))))) pss_nil)
      (pss_one (ps_ret (pe_ifExp (pt_cmpR op_eq (pe_ix ix_tup (pv 0) pe_int (fun _ _ => rfl)) pe_str rfl) (pe_tup (pa_cons pe_int (pa_cons pe_int pa_nil))) pe_int)))), ?_⟩
  obtain ⟨L, c, hc, ok, hq⟩ := h
  cases c with
  | eq p =>
    obtain ⟨b, rfl, hb⟩ := hc
    exact ⟨_, rfl, _, _, 0, _, rfl, rfl, hb, rfl, rfl, _, rfl, iteF ⟨_, rfl, _, _, 0, _, rfl, rfl, hb, rfl, rfl, _, rfl, iteF (hq _ _ (Same.refl _) rfl)⟩⟩
  | beg p =>
    obtain ⟨b, rfl, hb⟩ := hc
    exact ⟨_, rfl, _, _, 0, _, rfl, rfl, hb, rfl, rfl, _, rfl, iteF ⟨_, rfl, _, _, 0, _, rfl, rfl, hb, rfl, rfl, _, rfl, iteF (hq _ _ (Same.refl _) rfl)⟩⟩
  | bet p q =>
    obtain ⟨b, rfl, hb⟩ := hc
    exact ⟨_, rfl, _, _, 0, _, rfl, rfl, hb, rfl, rfl, _, rfl, iteF ⟨_, rfl, _, _, 0, _, rfl, rfl, hb, rfl, rfl, _, rfl, iteT ⟨sz_small (by decide), fun t ht => hq _ _ (Same.new ht) ⟨t, rfl, .inl (.inl upd_same)⟩⟩⟩⟩
  | like p =>
    obtain ⟨b, rfl, hb⟩ := hc
    exact ⟨_, rfl, _, _, 0, _, rfl, rfl, hb, rfl, rfl, _, rfl, iteT ⟨_, rfl, _, _, 1, _, rfl, rfl, hb, rfl, sz_small (by decide), fun l hl => ⟨p, l, [0], rfl, ok.2, rfl, .inl (.inl upd_same), by decide, by simp, fun v H' e st => hq v H' ((Same.new hl).trans e) st⟩⟩⟩

def p_beside (K : PySem.W.Frag) (a : Ad) (x y z u : V) (H : Hp) (Q : VK) : Prop := ∃ (L b : Tx) (s : Int) (c : Nat), x = .str (tx L) ∧ L ∈ menu ∧ y = .str (tx b) ∧ okCond L (.eq b) ∧ z = .int s ∧ s ≤ (b.length : Int) ∧ u = .str (tx [c]) ∧ c ∈ L ∧ Q (.int (beside L b s c)) H
abbrev N_beside : List Str := ["letters", "bound", "stand", "letter"]
theorem sc_beside : FnScope N_beside ["letters", "bound", "stand", "letter"] (defScope s_beside) := ⟨rfl, rfl, rfl, by decide +kernel, rfl, by decide +kernel, by decide +kernel⟩
theorem ok_beside {fa : Addr} {fd : FuncData} (T : Txt K mg a) (F : FnP K "beside" "beside" s_beside fa fd) (g : mg "beside" = some (.ref fa)) : Cl P w K mg base 1 "beside" (sq4 (p_beside K a)) := by
  refine cl_of F g (fun _ _ _ _ _ _ us hl => match us, hl with | [_, _, _, _], _ => rfl) sc_beside (fun vs H Q h => sq4_len h) fun vs H Q h cdv A outer s hr => ?_
  obtain ⟨v_letters, v_bound, v_stand, v_letter, rfl, h⟩ := sq4_inv h
  refine ⟨_, (pss_cons (ps_if (pt_cmpR op_lt (pv 2) pe_int rfl) (pss_one (ps_ret (pv 2))) pss_nil)
      (pss_cons (ps_if (pt_cmpR op_eq (pv 2) (pe_callB call_len_str (by rfl) T.fLen (by decide +kernel) (pa_cons (pv 1) pa_nil)) rfl) (pss_one (ps_ret (pe_gc rfl T.g_GREATER))) pss_nil)
      (pss_cons (ps_if (pt_cmpR op_eq (pv 3) (pe_ix ix_str (pv 1) (pv 2) (fun _ _ => rfl)) rfl) (pss_one (ps_ret (pe_op op_add (pv 2) pe_int))) pss_nil)
      (pss_one (ps_ret (pe_ifExp (pt_cmpR op_lt (pe_bm PySem.F.plainAttrs_str PySem.F.slot_str_index PySem.F.type_str_index mt_sindex (pv 0) (pa_cons (pv 3) pa_nil)) (pe_bm PySem.F.plainAttrs_str PySem.F.slot_str_index PySem.F.type_str_index mt_sindex (pv 0) (pa_cons (pe_ix ix_str (pv 1) (pv 2) (fun _ _ => rfl)) pa_nil)) rfl) (pe_gc rfl T.g_LESS) (pe_gc rfl T.g_GREATER))))))), ?_⟩
  obtain ⟨L, b, s0, c, rfl, hL, rfl, ⟨hm, hb⟩, rfl, hs, rfl, hc, hq⟩ := h
  unfold beside at hq
  refine ⟨_, rfl, _, _, rfl, rfl, _, rfl, ?_⟩
  by_cases h0 : s0 < 0
  · rw [if_pos h0] at hq
    rw [decide_eq_true h0]
    exact iteT ⟨_, rfl, hq⟩
  rw [if_neg h0] at hq
  rw [decide_eq_false h0]
  refine iteF ⟨_, rfl, _, rfl, _, rfl, szS (by omega), rfl, _, rfl, ?_⟩
  rw [tx_len]
  by_cases h1 : s0 = (b.length : Int)
  · rw [if_pos h1] at hq
    rw [decide_eq_true (show V.int s0 = V.int (b.length : Int) by rw [h1])]
    exact iteT hq
  rw [if_neg h1] at hq
  rw [decide_eq_false (fun z => h1 (V.int.inj z))]
  have hn : s0.toNat < b.length := by omega
  have ec : b[s0.toNat]? = some b[s0.toNat] := List.getElem?_eq_getElem hn
  have hbi : atI (tx b).cps.toList s0 = some b[s0.toNat] := atI_int (by omega) (by rw [tx_cps]; exact ec)
  refine iteF ⟨_, rfl, _, rfl, _, rfl, _, _, _, rfl, rfl, szS (by omega), hbi, rfl, _, rfl, ?_⟩
  rw [tx_one, dec_tx]
  rw [ec] at hq
  by_cases h2 : c = b[s0.toNat]
  · rw [if_pos (by rw [← h2])] at hq
    rw [decide_eq_true (by rw [← h2])]
    exact iteT ⟨_, rfl, _, _, rfl, rfl, hq⟩
  rw [if_neg (fun z => h2 (Option.some.inj z).symm)] at hq
  rw [decide_eq_false (fun z => h2 (by injection z))]
  have eg : b.getD s0.toNat 0 = b[s0.toNat] := by simp [List.getD, ec]
  rw [eg] at hq
  refine iteF ⟨_, rfl, rfl, _, rfl, _, _, _, _, rfl, rfl, menu_ix L hL c hc, _, rfl, rfl, _, rfl, _, rfl, _, _, _, rfl, rfl, szS (by omega), hbi, _, _, _, _, rfl, rfl, menu_ix L hL _ (hm _ (List.getElem_mem hn)), _, _, rfl, rfl, _, rfl, ?_⟩
  by_cases h3 : ix L c < ix L b[s0.toNat]
  · rw [if_pos h3] at hq
    rw [decide_eq_true (show (ix L c : Int) < (ix L b[s0.toNat] : Int) by omega)]
    exact iteT hq
  · rw [if_neg h3] at hq
    rw [decide_eq_false (show ¬ (ix L c : Int) < (ix L b[s0.toNat] : Int) by omega)]
    exact iteF hq

def p_is_place_of (K : PySem.W.Frag) (a : Ad) (x y : V) (H : Hp) (Q : VK) : Prop := ∃ (b : Tx) (i : Int), x = .str (tx b) ∧ b.length ≤ 4 ∧ y = .int i ∧ Q (.bl (decide (-2 ≤ i) && decide (i ≤ (b.length : Int)))) H
abbrev N_is_place_of : List Str := ["bound", "thing"]
theorem sc_is_place_of : FnScope N_is_place_of ["bound", "thing"] (defScope s_is_place_of) := ⟨rfl, rfl, rfl, by decide +kernel, rfl, by decide +kernel, by decide +kernel⟩
theorem ok_is_place_of {fa : Addr} {fd : FuncData} (T : Txt K mg a) (F : FnP K "is_place_of" "is_place_of" s_is_place_of fa fd) (g : mg "is_place_of" = some (.ref fa)) (c_is_number : Cl P w K mg base 1 "is_number" (sq3 (p_is_number K a))) : Cl P w K mg base 2 "is_place_of" (sq2 (p_is_place_of K a)) := by
  refine cl_of F g (fun _ _ _ _ _ _ us hl => match us, hl with | [_, _], _ => rfl) sc_is_place_of (fun vs H Q h => sq2_len h) fun vs H Q h cdv A outer s hr => ?_
  obtain ⟨v_bound, v_thing, rfl, h⟩ := sq2_inv h
  refine ⟨_, (pss_one (ps_ret (pe_cl c_is_number hr (pa_cons (pv 1) (pa_cons (pe_gc rfl T.g_GREATER) (pa_cons (pe_callB call_len_str (by rfl) T.fLen (by decide +kernel) (pa_cons (pv 0) pa_nil)) pa_nil)))))), ?_⟩
  obtain ⟨b, i, rfl, hb, rfl, hq⟩ := h
  refine ⟨_, rfl, _, rfl, _, rfl, szS (by omega), i, -2, _, rfl, rfl, rfl, ?_⟩
  rw [tx_len]
  exact hq
end K5

set_option Elab.async false
set_option linter.all false
set_option maxRecDepth 100000
set_option maxHeartbeats 4000000
/-! conditions.py, part three: stands. -/
namespace K5
open PySem PySem.Spec PyProof.Rows L2
variable {P : Program} {w : World} {K : PySem.W.Frag} {mg : Str → Option Value} {base : Heap} {a : Ad}

theorem sl2 : HT.sIx 2 0 none = 0 ∧ HT.sIx 2 2 (some 2) = 2 := by decide
theorem sl3 : ¬ (HT.sIx 3 0 none = 0 ∧ HT.sIx 3 3 (some 2) = 3) := by decide
theorem beq_tx (a b : Tx) : (tx a == tx b) = decide (a = b) := by
  by_cases h : a = b
  · subst h; simp
  · rw [decide_eq_false h]
    exact beq_eq_false_iff_ne.mpr fun z => h (tx_inj z)
theorem inV_two (c d e : Nat) : inV (.str (tx [c])) [.str (tx [d]), .str (tx [e])] = (decide (c = d) || decide (c = e)) := by
  show (tx [d] == tx [c] || (tx [e] == tx [c] || false)) = _
  rw [beq_tx, beq_tx, Bool.or_false]
  by_cases h1 : c = d <;> by_cases h2 : c = e <;> simp [h1, h2, eq_comm]
theorem inV_int (c : Int) : ∀ xs : List Int, inV (.int c) (xs.map V.int) = decide (c ∈ xs)
  | [] => by simp [inV]
  | x :: xs => by
    have ih := inV_int c xs
    show (x == c || inV (.int c) (xs.map V.int)) = _
    rw [ih]
    by_cases h : c = x
    · subst h; simp
    · have h' : ¬ x = c := fun z => h z.symm
      simp [h, h']
theorem paired_ints : ∀ xs : List Int, Paired (fun (v : V) (i : Int) => v = .int i) (xs.map V.int) xs
  | [] => .nil
  | x :: xs => .cons rfl (paired_ints xs)
theorem true_or_false {b : Bool} {A : Prop} (h1 : b = true → A) (h2 : b = false → A) : A := by cases b; exact h2 rfl; exact h1 rfl
theorem flat_ints : ∀ xs : List Int, (xs.map V.int).all flatV = true
  | [] => rfl
  | x :: xs => by rw [List.map_cons, List.all_cons, flat_ints xs]; rfl

def p_stand_after (K : PySem.W.Frag) (a : Ad) (x y z u : V) (H : Hp) (Q : VK) : Prop := ∃ (L : Tx) (c : Cond) (s : Stand) (k : Nat), x = .str (tx L) ∧ L ∈ menu ∧ CondAt K H y c ∧ okCond L c ∧ StAt K H z s ∧ okStand c s = true ∧ u = .str (tx [k]) ∧ k ∈ L ∧
  ∀ v H', Same H H' → StAt K H' v (nextStand L c s k) → Q v H'
abbrev N_stand_after : List Str := ["letters", "condition", "stand", "letter", "word", "text", "found", "place"]
theorem sc_stand_after : FnScope N_stand_after ["letters", "condition", "stand", "letter"] (defScope s_stand_after) := ⟨rfl, rfl, rfl, by decide +kernel, rfl, by decide +kernel, by decide +kernel⟩
theorem ok_stand_after {fa : Addr} {fd : FuncData} (T : Txt K mg a) (F : FnP K "stand_after" "stand_after" s_stand_after fa fd) (g : mg "stand_after" = some (.ref fa)) (c_beside : Cl P w K mg base 1 "beside" (sq4 (p_beside K a))) (c_led_on : Cl P w K mg base 1 "led_on" (sq2 (p_led_onL K a))) : Cl P w K mg base 2 "stand_after" (sq4 (p_stand_after K a)) := by
  refine cl_of F g (fun _ _ _ _ _ _ us hl => match us, hl with | [_, _, _, _], _ => rfl) sc_stand_after (fun vs H Q h => sq4_len h) fun vs H Q h cdv A outer s hr => ?_
  obtain ⟨v_letters, v_condition, v_stand, v_letter, rfl, h⟩ := sq4_inv h
  refine ⟨_, (pss_cons (ps_asg (pe_slice sl_tupA (pv 1) po_none (po_some pe_int)) (pg_tup (by rfl) (pgs_cons (pg_name (i := 4) sc_stand_after.nd rfl (Or.inl rfl)) (pgs_cons (pg_name (i := 5) sc_stand_after.nd rfl (Or.inr rfl)) pgs_nil))))
      (pss_cons (ps_if (pt_cmpR op_eq (pv 4) pe_str rfl) (pss_one (ps_ret (pe_tup (pa_cons (pe_cl c_beside hr (pa_cons (pv 0) (pa_cons (pv 5) (pa_cons (pe_ix ix_tup (pv 2) pe_int (fun _ _ => rfl)) (pa_cons (pv 3) pa_nil))))) (pa_cons (pe_cl c_beside hr (pa_cons (pv 0) (pa_cons (pe_ix ix_tup (pv 1) pe_int (fun _ _ => rfl)) (pa_cons (pe_ix ix_tup (pv 2) pe_int (fun _ _ => rfl)) (pa_cons (pv 3) pa_nil))))) pa_nil))))) pss_nil)
      (pss_cons (ps_if (pt_cmpR op_eq (pv 4) pe_str rfl) (pss_cons (ps_setLc (i := 6) (own := [("place", 7)]) (g := gName 7) rfl sc_stand_after.nd rfl rfl (sw_true rfl rfl rfl (by decide +kernel)) (pi_tup (pv 2)) (blkOk_by (own := [("place", 7)]) (N := N_stand_after) (sc := defScope s_stand_after) (by decide +kernel)) (fun _ _ _ _ _ => pg_name (i := 7) sc_stand_after.nd rfl (Or.inl rfl)) (fun _ _ _ _ _ => pts_one (PW.pt (pw_and (pt_cmpR op_lt (pv 7) (pe_callB call_len_str (by rfl) T.fLen (by decide +kernel) (pa_cons (pv 5) pa_nil)) rfl) (pw_and1 (pt_cmpR op_eq (pe_ix ix_str (pv 5) (pv 7) (fun _ _ => rfl)) pe_str rfl))))) (fun _ _ _ _ _ => (pv 7)))
      (pss_cons (ps_expr (pe_bm PySem.F.plainAttrs_list PySem.F.slot_list_extend PySem.F.type_list_extend mt_extend (pv 6) (pa_cons (pe_lc (own := [("place", 7)]) (g := gName 7) rfl sc_stand_after.nd (pi_tup (pv 2)) (blkOk_by (own := [("place", 7)]) (N := N_stand_after) (sc := defScope s_stand_after) (by decide +kernel)) (fun _ _ _ _ _ => pg_name (i := 7) sc_stand_after.nd rfl (Or.inl rfl)) (fun _ _ _ _ _ => pts_one (PW.pt (pw_and (pt_cmpR op_lt (pv 7) (pe_callB call_len_str (by rfl) T.fLen (by decide +kernel) (pa_cons (pv 5) pa_nil)) rfl) (pw_and1 (pt_cmpR (show OpR _ _ (rIn K false) from op_in_seq) (pe_ix ix_str (pv 5) (pv 7) (fun _ _ => rfl)) (pe_tup (pa_cons pe_str (pa_cons (pv 3) pa_nil))) rfl))))) (fun _ _ _ _ _ => (pe_op op_add (pv 7) pe_int))) pa_nil)))
      (pss_one (ps_ret (pe_cl c_led_on hr (pa_cons (pv 5) (pa_cons (pe_callB cr_sorted (by rfl) T.fSorted (by decide +kernel) (pa_cons (pv 6) pa_nil)) pa_nil))))))) pss_nil)
      (pss_cons (ps_if (PW.pt (pw_and (pt_cmpR op_eq (pv 2) (pe_callB call_len_str (by rfl) T.fLen (by decide +kernel) (pa_cons (pv 5) pa_nil)) rfl) (pw_and1 (pt_cmpR op_eq (pv 4) pe_str rfl)))) (pss_one (ps_ret (pv 2))) pss_nil)
      (pss_one (ps_ret (pe_ifExp (PW.pt (pw_and (pt_chain op_le op_lt pe_int (pv 2) (pe_callB call_len_str (by rfl) T.fLen (by decide +kernel) (pa_cons (pv 5) pa_nil))) (pw_and1 (pt_cmpR op_eq (pe_ix ix_str (pv 5) (pv 2) (fun _ _ => rfl)) (pv 3) rfl)))) (pe_op op_add (pv 2) pe_int) (pe_gc rfl T.g_LESS)))))))), ?_⟩
  obtain ⟨L, c, s0, k, rfl, hL, hc, ok, hst, oks, rfl, hk, hq⟩ := h
  cases c with
  | eq p =>
    obtain ⟨b, rfl, hb⟩ := hc
    cases s0 with
    | t xs => cases oks
    | n i =>
      cases (show v_stand = .int i from hst)
      refine ⟨_, rfl, 2, rfl, _, _, rfl, hb, fun _ => ?_, fun z => absurd sl2 z⟩
      refine ⟨_, _, rfl, hb, rfl, _, _, rfl, _, _, rfl, rfl, ?_⟩
      refine ⟨_, rfl, rfl, _, rfl, iteF ⟨_, rfl, rfl, _, rfl, iteF ?_⟩⟩
      refine ⟨_, rfl, _, rfl, _, rfl, szS (by have := ok.2; omega), rfl, _, rfl, ?_⟩
      rw [tx_len]
      have hq2 : Q (.int (step1 p i k)) H := hq _ _ (Same.refl _) rfl
      unfold step1 at hq2
      by_cases hi : i = (p.length : Int)
      · rw [decide_eq_true (show V.int i = V.int (p.length : Int) by rw [hi])]
        refine iteT ⟨_, rfl, rfl, _, rfl, iteF ?_⟩
        have hn : ∀ z : Int, z < (p.length : Int) → 0 ≤ z → z.toNat < p.length := fun z h1 h2 => by omega
        refine ⟨_, rfl, _, _, rfl, rfl, _, rfl, ?_⟩
        by_cases h0 : 0 ≤ i
        · rw [decide_eq_true h0]
          refine iteT ⟨_, rfl, _, rfl, szS (by have := ok.2; omega), _, _, rfl, rfl, _, rfl, ?_⟩
          rw [tx_len]
          by_cases h1 : i < (p.length : Int)
          · rw [decide_eq_true h1]
            have ec : p[i.toNat]? = some p[i.toNat] := List.getElem?_eq_getElem (hn i h1 h0)
            refine iteT ⟨_, rfl, _, rfl, _, _, _, rfl, rfl, szS (by have := ok.2; omega), atI_int h0 (by rw [tx_cps]; exact ec), _, rfl, rfl, _, rfl, ?_⟩
            rw [tx_one, dec_tx]
            by_cases h2 : p[i.toNat] = k
            · rw [if_pos ⟨h0, by rw [ec, h2]⟩] at hq2
              rw [decide_eq_true (by rw [h2])]
              exact iteT ⟨_, rfl, _, _, rfl, rfl, hq2⟩
            · rw [if_neg (fun z => h2 (Option.some.inj (ec.symm.trans z.2)))] at hq2
              rw [decide_eq_false (fun z => h2 (by injection z))]
              exact iteF hq2
          · rw [decide_eq_false h1]
            rw [if_neg (fun z => h1 (by have := (List.getElem?_eq_some_iff.mp z.2).1; omega))] at hq2
            exact iteF (iteF hq2)
        · rw [decide_eq_false h0]
          rw [if_neg (fun z => h0 z.1)] at hq2
          exact iteF ⟨_, rfl, iteF hq2⟩
      · rw [decide_eq_false (fun z => hi (V.int.inj z))]
        refine iteF (iteF ?_)
        have hn : ∀ z : Int, z < (p.length : Int) → 0 ≤ z → z.toNat < p.length := fun z h1 h2 => by omega
        refine ⟨_, rfl, _, _, rfl, rfl, _, rfl, ?_⟩
        by_cases h0 : 0 ≤ i
        · rw [decide_eq_true h0]
          refine iteT ⟨_, rfl, _, rfl, szS (by have := ok.2; omega), _, _, rfl, rfl, _, rfl, ?_⟩
          rw [tx_len]
          by_cases h1 : i < (p.length : Int)
          · rw [decide_eq_true h1]
            have ec : p[i.toNat]? = some p[i.toNat] := List.getElem?_eq_getElem (hn i h1 h0)
            refine iteT ⟨_, rfl, _, rfl, _, _, _, rfl, rfl, szS (by have := ok.2; omega), atI_int h0 (by rw [tx_cps]; exact ec), _, rfl, rfl, _, rfl, ?_⟩
            rw [tx_one, dec_tx]
            by_cases h2 : p[i.toNat] = k
            · rw [if_pos ⟨h0, by rw [ec, h2]⟩] at hq2
              rw [decide_eq_true (by rw [h2])]
              exact iteT ⟨_, rfl, _, _, rfl, rfl, hq2⟩
            · rw [if_neg (fun z => h2 (Option.some.inj (ec.symm.trans z.2)))] at hq2
              rw [decide_eq_false (fun z => h2 (by injection z))]
              exact iteF hq2
          · rw [decide_eq_false h1]
            rw [if_neg (fun z => h1 (by have := (List.getElem?_eq_some_iff.mp z.2).1; omega))] at hq2
            exact iteF (iteF hq2)
        · rw [decide_eq_false h0]
          rw [if_neg (fun z => h0 z.1)] at hq2
          exact iteF ⟨_, rfl, iteF hq2⟩
  | beg p =>
    obtain ⟨b, rfl, hb⟩ := hc
    cases s0 with
    | t xs => cases oks
    | n i =>
      cases (show v_stand = .int i from hst)
      refine ⟨_, rfl, 2, rfl, _, _, rfl, hb, fun _ => ?_, fun z => absurd sl2 z⟩
      refine ⟨_, _, rfl, hb, rfl, _, _, rfl, _, _, rfl, rfl, ?_⟩
      refine ⟨_, rfl, rfl, _, rfl, iteF ⟨_, rfl, rfl, _, rfl, iteF ?_⟩⟩
      refine ⟨_, rfl, _, rfl, _, rfl, szS (by have := ok.2; omega), rfl, _, rfl, ?_⟩
      rw [tx_len]
      by_cases hi : i = (p.length : Int)
      · rw [decide_eq_true (show V.int i = V.int (p.length : Int) by rw [hi])]
        refine iteT ⟨_, rfl, rfl, _, rfl, iteT ⟨_, rfl, hq _ _ (Same.refl _) ?_⟩⟩
        show V.int i = V.int (if i = (p.length : Int) then i else step1 p i k)
        rw [if_pos hi]
      · rw [decide_eq_false (fun z => hi (V.int.inj z))]
        refine iteF (iteF ?_)
        have hq2 : Q (.int (step1 p i k)) H := hq _ _ (Same.refl _) (by show V.int (step1 p i k) = V.int (if i = (p.length : Int) then i else step1 p i k); rw [if_neg hi])
        unfold step1 at hq2
        have hn : ∀ z : Int, z < (p.length : Int) → 0 ≤ z → z.toNat < p.length := fun z h1 h2 => by omega
        refine ⟨_, rfl, _, _, rfl, rfl, _, rfl, ?_⟩
        by_cases h0 : 0 ≤ i
        · rw [decide_eq_true h0]
          refine iteT ⟨_, rfl, _, rfl, szS (by have := ok.2; omega), _, _, rfl, rfl, _, rfl, ?_⟩
          rw [tx_len]
          by_cases h1 : i < (p.length : Int)
          · rw [decide_eq_true h1]
            have ec : p[i.toNat]? = some p[i.toNat] := List.getElem?_eq_getElem (hn i h1 h0)
            refine iteT ⟨_, rfl, _, rfl, _, _, _, rfl, rfl, szS (by have := ok.2; omega), atI_int h0 (by rw [tx_cps]; exact ec), _, rfl, rfl, _, rfl, ?_⟩
            rw [tx_one, dec_tx]
            by_cases h2 : p[i.toNat] = k
            · rw [if_pos ⟨h0, by rw [ec, h2]⟩] at hq2
              rw [decide_eq_true (by rw [h2])]
              exact iteT ⟨_, rfl, _, _, rfl, rfl, hq2⟩
            · rw [if_neg (fun z => h2 (Option.some.inj (ec.symm.trans z.2)))] at hq2
              rw [decide_eq_false (fun z => h2 (by injection z))]
              exact iteF hq2
          · rw [decide_eq_false h1]
            rw [if_neg (fun z => h1 (by have := (List.getElem?_eq_some_iff.mp z.2).1; omega))] at hq2
            exact iteF (iteF hq2)
        · rw [decide_eq_false h0]
          rw [if_neg (fun z => h0 z.1)] at hq2
          exact iteF ⟨_, rfl, iteF hq2⟩
  | bet p q =>
    obtain ⟨b, rfl, hb⟩ := hc
    match s0, oks, hst with
    | .t [i, j], oks, hst =>
    obtain ⟨c0, rfl, hs2⟩ := hst
    have ho := Bool.and_eq_true_iff.mp oks
    have ho1 := of_decide_eq_true (Bool.and_eq_true_iff.mp ho.1).2
    have ho2 := of_decide_eq_true (Bool.and_eq_true_iff.mp ho.2).2
    refine ⟨_, rfl, 2, rfl, _, _, rfl, hb, fun z => absurd z sl3, fun _ t0 ht0 => ?_⟩
    refine ⟨_, _, rfl, .inl (.inl upd_same), rfl, _, _, rfl, _, _, rfl, rfl, ?_⟩
    have e0 := Same.new (o := .tup (cutV [V.str "between", .str (tx p), .str (tx q)] none (some 2))) ht0
    refine ⟨_, rfl, rfl, _, rfl, iteT ?_⟩
    refine ⟨_, rfl, _, rfl, _, rfl, _, _, 0, _, rfl, rfl, SqT.same e0 hs2, rfl, _, rfl, L, p, i, k, rfl, hL, rfl, ok.1, rfl, ho1, rfl, hk, ?_⟩
    refine ⟨_, rfl, _, rfl, _, _, 2, _, rfl, rfl, SqT.same e0 hb, rfl, _, rfl, _, _, 1, _, rfl, rfl, SqT.same e0 hs2, rfl, _, rfl, L, q, j, k, rfl, hL, rfl, ok.2, rfl, ho2, rfl, hk, ?_⟩
    exact ⟨sz_small (by simp), fun t1 ht1 => hq _ _ (e0.trans (Same.new ht1)) ⟨t1, rfl, .inl (.inl upd_same)⟩⟩
  | like p =>
    obtain ⟨b, rfl, hb⟩ := hc
    match s0, oks, hst with
    | .t xs, oks, hst =>
    obtain ⟨c0, rfl, hs2⟩ := hst
    have ho := Bool.and_eq_true_iff.mp oks
    have hp4 := ok.2
    have hrg : ∀ j ∈ xs, 0 ≤ j ∧ j ≤ (p.length : Int) := fun j hj => by
      have := List.all_eq_true.mp ho.1 j hj
      simpa using this
    have hxl : xs.length ≤ 5 := by
      have e : led p xs = xs := of_decide_eq_true ho.2
      have := led_length p xs
      rw [e] at this
      omega
    refine ⟨_, rfl, 2, rfl, _, _, rfl, hb, fun _ => ?_, fun z => absurd sl2 z⟩
    refine ⟨_, _, rfl, hb, rfl, _, _, rfl, _, _, rfl, rfl, ?_⟩
    refine ⟨_, rfl, rfl, _, rfl, iteF ⟨_, rfl, rfl, _, rfl, iteT ?_⟩⟩
    refine ⟨_, rfl, _, rfl, ⟨_, hs2⟩, fun D hD => lc_ints K walk_tup (fun j => decide (p[j.toNat]? = some 42)) id (by omega) hD (fun H h => SqT.same h hs2) ?_ ?_⟩
    · intro j Hc Yes No hj e hy hn
      have hj2 := hrg j hj
      refine ⟨_, rfl, _, rfl, _, rfl, szS (by omega), _, _, rfl, rfl, _, rfl, ?_⟩
      rw [tx_len]
      by_cases h : j < (p.length : Int)
      · rw [decide_eq_true h]
        have ec : p[j.toNat]? = some p[j.toNat] := List.getElem?_eq_getElem (by omega)
        refine iteT ⟨_, rfl, _, rfl, _, _, _, rfl, rfl, szS (by omega), atI_int hj2.1 (by rw [tx_cps]; exact ec), rfl, _, rfl, ?_⟩
        rw [q_star, tx_one, dec_tx]
        by_cases h2 : p[j.toNat] = 42
        · rw [decide_eq_true (by rw [h2])]
          exact iteT ⟨_, rfl, hy (decide_eq_true (by rw [ec, h2])) _ (Same.refl _)⟩
        · rw [decide_eq_false (fun z => h2 (by injection z))]
          exact iteF (hn (decide_eq_false (fun z => h2 (Option.some.inj (ec.symm.trans z)))) _ (Same.refl _))
      · rw [decide_eq_false h]
        exact iteF (iteF (hn (decide_eq_false (fun z => h (by have := (List.getElem?_eq_some_iff.mp z).1; omega))) _ (Same.refl _)))
    intro H2 e2 hD2
    refine ⟨_, rfl, .inl ⟨rfl, _, .inl (.inl hD2)⟩, _, rfl, _, rfl, ⟨_, SqT.same e2 hs2⟩, fun D2 hD2' => lc_ints K walk_tup (fun j => decide (p[j.toNat]? = some 63) || decide (p[j.toNat]? = some k)) (· + 1) (by omega) hD2' (fun H h => SqT.same (e2.trans h) hs2) ?_ ?_⟩
    · intro j Hc Yes No hj e hy hn
      have hj2 := hrg j hj
      refine ⟨_, rfl, _, rfl, _, rfl, szS (by omega), _, _, rfl, rfl, _, rfl, ?_⟩
      rw [tx_len]
      by_cases h : j < (p.length : Int)
      · rw [decide_eq_true h]
        have ec : p[j.toNat]? = some p[j.toNat] := List.getElem?_eq_getElem (by omega)
        refine iteT ⟨_, rfl, _, rfl, _, _, _, rfl, rfl, szS (by omega), atI_int hj2.1 (by rw [tx_cps]; exact ec), _, rfl, sz_small (by simp), fun t1 ht1 => ⟨_, _, rfl, .inr (.inl (.inl upd_same)), rfl, rfl, _, rfl, ?_⟩⟩
        rw [if_neg Bool.false_ne_true, tx_one, q_mark, inV_two]
        have ef : (decide (p[j.toNat]? = some 63) || decide (p[j.toNat]? = some k)) = (decide (p[j.toNat] = 63) || decide (p[j.toNat] = k)) := by rw [ec]; simp
        cases hb2 : (decide (p[j.toNat] = 63) || decide (p[j.toNat] = k)) with
        | true => exact iteT ⟨_, rfl, _, _, rfl, rfl, hy (ef.trans hb2) _ (Same.new ht1)⟩
        | false => exact iteF (hn (ef.trans hb2) _ (Same.new ht1))
      · rw [decide_eq_false h]
        have en : p[j.toNat]? = none := List.getElem?_eq_none (by omega)
        exact iteF (iteF (hn (by rw [en]; rfl) _ (Same.refl _)))
    intro H3 e3 hD3
    have hl1 : (stars p xs).length ≤ xs.length := List.length_filter_le _ _
    have hl2 : (steps p k xs).length ≤ xs.length := by unfold steps; rw [List.length_map]; exact List.length_filter_le _ _
    have es1 : ((xs.filter fun j => decide (p[j.toNat]? = some 42)).map id).map V.int = (stars p xs).map V.int := by rw [List.map_id]; rfl
    rw [es1] at hD2
    refine ⟨_, _, (stars p xs).map V.int, (steps p k xs).map V.int, rfl, rfl, e3 _ _ hD2, hD3, sz_small (by rw [List.length_map, List.length_map]; omega), ?_⟩
    refine ⟨_, rfl, _, rfl, _, stars p xs ++ steps p k xs, rfl, .inl (.inl (by rw [upd_same, List.map_append])), by rw [List.length_append]; omega, fun ns t pm so ht => ?_⟩
    have hml : ns.length ≤ 100 := by rw [pm.length_eq, List.length_append]; omega
    refine ⟨p, t, ns, rfl, hp4, rfl, .inl (.inl upd_same), hml, fun j hj => ?_, fun v H' e st => hq v H' (((Same.put (e2.trans e3) hD).trans (Same.new ht)).trans e) ?_⟩
    · rcases List.mem_append.mp (pm.mem_iff.mp hj) with h | h
      · exact hrg j (List.mem_filter.mp h).1
      · obtain ⟨j2, h2, rfl⟩ := List.mem_map.mp h
        have h3 := hrg j2 (List.mem_filter.mp h2).1
        have h4 : j2.toNat < p.length := by
          rcases Bool.or_eq_true_iff.mp (List.mem_filter.mp h2).2 with q | q
          · exact (List.getElem?_eq_some_iff.mp (of_decide_eq_true q)).1
          · exact (List.getElem?_eq_some_iff.mp (of_decide_eq_true q)).1
        show 0 ≤ j2 + 1 ∧ j2 + 1 ≤ _
        omega
    · rw [show nextStand L (.like p) (.t xs) k = .t (led p (stars p xs ++ steps p k xs)) from rfl, ← led_congr (fun j => pm.mem_iff)]
      exact st

def p_is_met (K : PySem.W.Frag) (a : Ad) (x y : V) (H : Hp) (Q : VK) : Prop := ∃ (L : Tx) (c : Cond) (s : Stand), CondAt K H x c ∧ okCond L c ∧ StAt K H y s ∧ fits c s ∧ ∀ H', Same H H' → Q (.bl (met c s)) H'
abbrev N_is_met : List Str := ["condition", "stand", "word", "text"]
theorem sc_is_met : FnScope N_is_met ["condition", "stand"] (defScope s_is_met) := ⟨rfl, rfl, rfl, by decide +kernel, rfl, by decide +kernel, by decide +kernel⟩
theorem ok_is_met {fa : Addr} {fd : FuncData} (T : Txt K mg a) (F : FnP K "is_met" "is_met" s_is_met fa fd) (g : mg "is_met" = some (.ref fa)) : Cl P w K mg base 1 "is_met" (sq2 (p_is_met K a)) := by
  refine cl_of F g (fun _ _ _ _ _ _ us hl => match us, hl with | [_, _], _ => rfl) sc_is_met (fun vs H Q h => sq2_len h) fun vs H Q h cdv A outer s hr => ?_
  obtain ⟨v_condition, v_stand, rfl, h⟩ := sq2_inv h
  refine ⟨_, (pss_cons (ps_asg (pe_slice sl_tupA (pv 0) po_none (po_some pe_int)) (pg_tup (by rfl) (pgs_cons (pg_name (i := 2) sc_is_met.nd rfl (Or.inl rfl)) (pgs_cons (pg_name (i := 3) sc_is_met.nd rfl (Or.inl rfl)) pgs_nil))))
      (pss_cons (ps_if (pt_cmpR op_eq (pv 2) pe_str rfl) (pss_one (ps_ret (pe_and (pe_cmpR op_in_seq (pe_ix ix_tup (pv 1) pe_int (fun _ _ => rfl)) (pe_tup (pa_cons (pe_gc rfl T.g_GREATER) (pa_cons (pe_callB call_len_str (by rfl) T.fLen (by decide +kernel) (pa_cons (pv 3) pa_nil)) pa_nil))) rfl) (pe_one (pe_cmpR op_ne (pe_ix ix_tup (pv 1) pe_int (fun _ _ => rfl)) (pe_gc rfl T.g_GREATER) rfl))))) pss_nil)
      (pss_one (ps_ret (pe_ifExp (pt_cmpR op_eq (pv 2) pe_str rfl) (pe_cmpR op_in_seq (pe_callB call_len_str (by rfl) T.fLen (by decide +kernel) (pa_cons (pv 3) pa_nil)) (pv 1) rfl) (pe_cmpR op_eq (pv 1) (pe_callB call_len_str (by rfl) T.fLen (by decide +kernel) (pa_cons (pv 3) pa_nil)) rfl)))))), ?_⟩
  obtain ⟨L, c, s0, hc, ok, hst, hf, hq⟩ := h
  cases c with
  | eq p =>
    obtain ⟨b, rfl, hb⟩ := hc
    match s0, hf, hst with
    | .n i, hf, hst =>
    cases (show v_stand = .int i from hst)
    refine ⟨_, rfl, 2, rfl, _, _, rfl, hb, fun _ => ?_, fun z => absurd sl2 z⟩
    refine ⟨_, _, rfl, hb, rfl, _, _, rfl, _, _, rfl, rfl, ?_⟩
    refine ⟨_, rfl, rfl, _, rfl, iteF ⟨_, rfl, rfl, _, rfl, iteF ⟨_, rfl, _, rfl, _, rfl, szS (by have := ok.2; omega), rfl, ?_⟩⟩⟩
    have hq2 := hq H (Same.refl _)
    rw [tx_len]
    by_cases hi : i = (p.length : Int)
    · rw [decide_eq_true (show V.int i = V.int (p.length : Int) by rw [hi])]
      rwa [show met (.eq p) (.n i) = true from decide_eq_true hi] at hq2
    · rw [decide_eq_false (fun z => hi (V.int.inj z))]
      rwa [show met (.eq p) (.n i) = false from decide_eq_false hi] at hq2
  | beg p =>
    obtain ⟨b, rfl, hb⟩ := hc
    match s0, hf, hst with
    | .n i, hf, hst =>
    cases (show v_stand = .int i from hst)
    refine ⟨_, rfl, 2, rfl, _, _, rfl, hb, fun _ => ?_, fun z => absurd sl2 z⟩
    refine ⟨_, _, rfl, hb, rfl, _, _, rfl, _, _, rfl, rfl, ?_⟩
    refine ⟨_, rfl, rfl, _, rfl, iteF ⟨_, rfl, rfl, _, rfl, iteF ⟨_, rfl, _, rfl, _, rfl, szS (by have := ok.2; omega), rfl, ?_⟩⟩⟩
    have hq2 := hq H (Same.refl _)
    rw [tx_len]
    by_cases hi : i = (p.length : Int)
    · rw [decide_eq_true (show V.int i = V.int (p.length : Int) by rw [hi])]
      rwa [show met (.beg p) (.n i) = true from decide_eq_true hi] at hq2
    · rw [decide_eq_false (fun z => hi (V.int.inj z))]
      rwa [show met (.beg p) (.n i) = false from decide_eq_false hi] at hq2
  | bet p q =>
    obtain ⟨b, rfl, hb⟩ := hc
    match s0, hf, hst with
    | .t [i, j], hf, hst =>
    obtain ⟨c0, rfl, hs2⟩ := hst
    refine ⟨_, rfl, 2, rfl, _, _, rfl, hb, fun z => absurd z sl3, fun _ t0 ht0 => ?_⟩
    refine ⟨_, _, rfl, .inl (.inl upd_same), rfl, _, _, rfl, _, _, rfl, rfl, ?_⟩
    have e0 := Same.new (o := .tup (cutV [V.str "between", .str (tx p), .str (tx q)] none (some 2))) ht0
    refine ⟨_, rfl, rfl, _, rfl, iteT ?_⟩
    refine ⟨_, rfl, _, _, 0, _, rfl, rfl, SqT.same e0 hs2, rfl, _, rfl, _, rfl, szS (by have := ok.1.2; omega), sz_small (by simp), fun t1 ht1 => ⟨_, _, rfl, .inr (.inl (.inl upd_same)), rfl, rfl, _, rfl, ?_⟩⟩
    have e1 := e0.trans (Same.new (o := .tup [V.int (-2), .int ((tx p).length : Nat)]) ht1)
    have hq2 := hq _ e1
    rw [if_neg Bool.false_ne_true, tx_len]
    rw [tx_len] at hq2
    rw [show inV (.int i) [.int (-2), .int (p.length : Int)] = (decide (i = -2) || decide (i = (p.length : Int))) by
      have := inV_int i [-2, (p.length : Int)]
      rw [show [V.int (-2), V.int (p.length : Int)] = [-2, (p.length : Int)].map V.int from rfl, this]
      by_cases h1 : i = -2 <;> by_cases h2 : i = (p.length : Int) <;> simp [h1, h2]]
    have hm : met (.bet p q) (.t [i, j]) = ((decide (i = -2) || decide (i = (p.length : Int))) && !decide (j = -2)) := rfl
    rw [hm] at hq2
    cases hb2 : (decide (i = -2) || decide (i = (p.length : Int))) with
    | true =>
      rw [hb2] at hq2
      rw [tx_len] at e1
      refine iteT ⟨_, rfl, _, _, 1, _, rfl, rfl, SqT.same e1 hs2, rfl, rfl, ?_⟩
      rw [show decide (V.int j = V.int (-2)) = decide (j = -2) by
        by_cases h : j = -2
        · subst h; rfl
        · rw [decide_eq_false h]; exact decide_eq_false fun z => h (V.int.inj z)]
      exact hq2
    | false =>
      rw [hb2] at hq2
      exact iteF hq2
  | like p =>
    obtain ⟨b, rfl, hb⟩ := hc
    match s0, hf, hst with
    | .t xs, hf, hst =>
    obtain ⟨c0, rfl, hs2⟩ := hst
    refine ⟨_, rfl, 2, rfl, _, _, rfl, hb, fun _ => ?_, fun z => absurd sl2 z⟩
    refine ⟨_, _, rfl, hb, rfl, _, _, rfl, _, _, rfl, rfl, ?_⟩
    refine ⟨_, rfl, rfl, _, rfl, iteF ⟨_, rfl, rfl, _, rfl, iteT ⟨_, rfl, _, rfl, szS (by have := ok.2; omega), _, rfl, _, _, rfl, .inr hs2, rfl, flat_ints xs, ?_⟩⟩⟩
    rw [if_neg Bool.false_ne_true, tx_len, inV_int]
    exact hq H (Same.refl _)

def p_is_stand_of (K : PySem.W.Frag) (a : Ad) (x y : V) (H : Hp) (Q : VK) : Prop := ∃ (L : Tx) (c : Cond) (s : Stand), CondAt K H x c ∧ okCond L c ∧ StAt K H y s ∧ fits c s ∧ ∀ H', Same H H' → Q (.bl (okStand c s)) H'
abbrev N_is_stand_of : List Str := ["condition", "thing", "word", "text", "place"]
theorem sc_is_stand_of : FnScope N_is_stand_of ["condition", "thing"] (defScope s_is_stand_of) := ⟨rfl, rfl, rfl, by decide +kernel, rfl, by decide +kernel, by decide +kernel⟩
theorem ok_is_stand_of {fa : Addr} {fd : FuncData} (T : Txt K mg a) (F : FnP K "is_stand_of" "is_stand_of" s_is_stand_of fa fd) (g : mg "is_stand_of" = some (.ref fa)) (c_is_place_of : Cl P w K mg base 2 "is_place_of" (sq2 (p_is_place_of K a))) (c_is_number : Cl P w K mg base 1 "is_number" (sq3 (p_is_number K a))) (c_led_on : Cl P w K mg base 1 "led_on" (sq2 (p_led_onT K a))) : Cl P w K mg base 3 "is_stand_of" (sq2 (p_is_stand_of K a)) := by
  refine cl_of F g (fun _ _ _ _ _ _ us hl => match us, hl with | [_, _], _ => rfl) sc_is_stand_of (fun vs H Q h => sq2_len h) fun vs H Q h cdv A outer s hr => ?_
  obtain ⟨v_condition, v_thing, rfl, h⟩ := sq2_inv h
  refine ⟨_, (pss_cons (ps_asg (pe_slice sl_tupA (pv 0) po_none (po_some pe_int)) (pg_tup (by rfl) (pgs_cons (pg_name (i := 2) sc_is_stand_of.nd rfl (Or.inl rfl)) (pgs_cons (pg_name (i := 3) sc_is_stand_of.nd rfl (Or.inr rfl)) pgs_nil))))
      (pss_cons (ps_if (pt_cmpR op_eq (pv 2) pe_str rfl) (pss_cons (ps_if (PW.pt (pw_or (pt_not (pt_val (pe_callB call_isi (by rfl) T.fIsi (by decide +kernel) (pa_cons (pv 1) (pa_cons (pe_bltn (v := .ty "tuple") (by rfl) T.fTuple (by decide +kernel) rfl) pa_nil))) (fun _ => rfl))) (pw_or1 (pt_cmpR op_ne (pe_callB call_len_seq (by rfl) T.fLen (by decide +kernel) (pa_cons (pv 1) pa_nil)) pe_int rfl)))) (pss_one (ps_ret pe_bl)) pss_nil)
      (pss_one (ps_ret (pe_and (pe_cl c_is_place_of hr (pa_cons (pv 3) (pa_cons (pe_ix ix_tup (pv 1) pe_int (fun _ _ => rfl)) pa_nil))) (pe_one (pe_cl c_is_place_of hr (pa_cons (pe_ix ix_tup (pv 0) pe_int (fun _ _ => rfl)) (pa_cons (pe_ix ix_tup (pv 1) pe_int (fun _ _ => rfl)) pa_nil)))))))) pss_nil)
      (pss_cons (ps_if (pt_cmpR op_eq (pv 2) pe_str rfl) (pss_cons (ps_if (PW.pt (pw_or (pt_not (pt_val (pe_callB call_isi (by rfl) T.fIsi (by decide +kernel) (pa_cons (pv 1) (pa_cons (pe_bltn (v := .ty "tuple") (by rfl) T.fTuple (by decide +kernel) rfl) pa_nil))) (fun _ => rfl))) (pw_or1 (pt_not (pt_val (pe_callB (cr_all rfl) (by rfl) T.fAll (by decide +kernel) (pa_cons (pe_lc (own := [("place", 4)]) (g := gName 4) (tt := tYes) rfl sc_is_stand_of.nd (pi_tup (pv 1)) (blkOk_by (own := [("place", 4)]) (N := N_is_stand_of) (sc := defScope s_is_stand_of) (by decide +kernel)) (fun _ _ _ _ _ => pg_name (i := 4) sc_is_stand_of.nd rfl (Or.inl rfl)) (fun _ _ _ _ _ => pts_nil) (fun _ _ _ _ _ => (pe_cl c_is_number hr (pa_cons (pv 4) (pa_cons pe_int (pa_cons (pe_callB call_len_str (by rfl) T.fLen (by decide +kernel) (pa_cons (pv 3) pa_nil)) pa_nil)))))) pa_nil)) (fun _ => rfl)))))) (pss_one (ps_ret pe_bl)) pss_nil)
      (pss_one (ps_ret (pe_cmpR (op_eqD hr.units) (pe_cl c_led_on hr (pa_cons (pv 3) (pa_cons (pv 1) pa_nil))) (pv 1) rfl)))) pss_nil)
      (pss_one (ps_ret (pe_cl c_is_number hr (pa_cons (pv 1) (pa_cons (pe_gc rfl T.g_LESS) (pa_cons (pe_callB call_len_str (by rfl) T.fLen (by decide +kernel) (pa_cons (pv 3) pa_nil)) pa_nil))))))))), ?_⟩
  obtain ⟨L, c, s0, hc, ok, hst, hf, hq⟩ := h
  cases c with
  | eq p =>
    obtain ⟨b, rfl, hb⟩ := hc
    match s0, hf, hst with
    | .n i, hf, hst =>
    cases (show v_thing = .int i from hst)
    refine ⟨_, rfl, 2, rfl, _, _, rfl, hb, fun _ => ?_, fun z => absurd sl2 z⟩
    refine ⟨_, _, rfl, hb, rfl, _, _, rfl, _, _, rfl, rfl, ?_⟩
    refine ⟨_, rfl, rfl, _, rfl, iteF ⟨_, rfl, rfl, _, rfl, iteF ⟨_, rfl, _, rfl, _, rfl, szS (by have := ok.2; omega), i, -1, _, rfl, rfl, rfl, ?_⟩⟩⟩
    rw [tx_len]
    exact hq H (Same.refl _)
  | beg p =>
    obtain ⟨b, rfl, hb⟩ := hc
    match s0, hf, hst with
    | .n i, hf, hst =>
    cases (show v_thing = .int i from hst)
    refine ⟨_, rfl, 2, rfl, _, _, rfl, hb, fun _ => ?_, fun z => absurd sl2 z⟩
    refine ⟨_, _, rfl, hb, rfl, _, _, rfl, _, _, rfl, rfl, ?_⟩
    refine ⟨_, rfl, rfl, _, rfl, iteF ⟨_, rfl, rfl, _, rfl, iteF ⟨_, rfl, _, rfl, _, rfl, szS (by have := ok.2; omega), i, -1, _, rfl, rfl, rfl, ?_⟩⟩⟩
    rw [tx_len]
    exact hq H (Same.refl _)
  | bet p q =>
    obtain ⟨b, rfl, hb⟩ := hc
    match s0, hf, hst with
    | .t [i, j], hf, hst =>
    obtain ⟨c0, rfl, hs2⟩ := hst
    refine ⟨_, rfl, 2, rfl, _, _, rfl, hb, fun z => absurd z sl3, fun _ t0 ht0 => ?_⟩
    refine ⟨_, _, rfl, .inl (.inl upd_same), rfl, _, _, rfl, _, _, rfl, rfl, ?_⟩
    have e0 := Same.new (o := .tup (cutV [V.str "between", .str (tx p), .str (tx q)] none (some 2))) ht0
    refine ⟨_, rfl, rfl, _, rfl, iteT ?_⟩
    refine ⟨_, rfl, _, _, _, _, _, rfl, .ty _, ty_tup (SqT.same e0 hs2), kit_tt, true, rfl, iteF ?_⟩
    refine ⟨_, rfl, _, _, rfl, .inr (SqT.same e0 hs2), rfl, _, rfl, iteF ?_⟩
    have hq2 := hq _ e0
    have hm : okStand (.bet p q) (.t [i, j]) = ((decide (-2 ≤ i) && decide (i ≤ (p.length : Int))) && (decide (-2 ≤ j) && decide (j ≤ (q.length : Int)))) := rfl
    rw [hm] at hq2
    refine ⟨_, rfl, _, rfl, _, _, 0, _, rfl, rfl, SqT.same e0 hs2, rfl, p, i, rfl, ok.1.2, rfl, _, rfl, ?_⟩
    cases hb2 : (decide (-2 ≤ i) && decide (i ≤ (p.length : Int))) with
    | true =>
      rw [hb2] at hq2
      exact iteT ⟨_, rfl, _, _, 2, _, rfl, rfl, SqT.same e0 hb, rfl, _, rfl, _, _, 1, _, rfl, rfl, SqT.same e0 hs2, rfl, q, j, rfl, ok.2.2, rfl, hq2⟩
    | false =>
      rw [hb2] at hq2
      exact iteF hq2
  | like p =>
    obtain ⟨b, rfl, hb⟩ := hc
    match s0, hf, hst with
    | .t xs, hf, hst =>
    obtain ⟨c0, rfl, hs2⟩ := hst
    refine ⟨_, rfl, 2, rfl, _, _, rfl, hb, fun _ => ?_, fun z => absurd sl2 z⟩
    refine ⟨_, _, rfl, hb, rfl, _, _, rfl, _, _, rfl, rfl, ?_⟩
    refine ⟨_, rfl, rfl, _, rfl, iteF ⟨_, rfl, rfl, _, rfl, iteT ?_⟩⟩
    have hxl : xs.length ≤ 30 := hf
    have hp4 := ok.2
    have hp : Paired ((fun (_ : Hp) (v : V) (i : Int) => v = .int i) H) (xs.map V.int) xs := paired_ints xs
    have hm : okStand (.like p) (.t xs) = (xs.all (fun k => decide (0 ≤ k) && decide (k ≤ (p.length : Int))) && decide (led p xs = xs)) := rfl
    rw [hm] at hq
    refine ⟨_, rfl, _, _, _, _, _, rfl, .ty _, ty_tup hs2, kit_tt, true, rfl, iteF ?_⟩
    refine ⟨_, rfl, _, rfl, ⟨_, hs2⟩, fun D hD => lc_seq K walk_tup (fun _ v i => v = .int i) xs (fun k => decide (0 ≤ k) && decide (k ≤ (p.length : Int))) (by omega) hD (fun H h => SqT.same h hs2) hp ?_ ?_⟩
    · intro v j Hc Yes hj hv e hy
      subst hv
      refine ⟨_, rfl, _, rfl, _, rfl, szS (by omega), j, 0, _, rfl, rfl, rfl, ?_⟩
      rw [tx_len]
      exact hy _ (Same.refl _)
    · intro H2 e2 hD2
      refine ⟨D, _, rfl, .inl (.inl hD2), true_or_false (b := (xs.map fun k => decide (0 ≤ k) && decide (k ≤ (p.length : Int))).all id) ?_ ?_⟩
      · intro hall
        rw [all_map] at hall
        rw [all_map, hall]
        refine ⟨true, rfl, iteF ⟨_, rfl, _, rfl, p, c0, xs, rfl, hp4, rfl, SqT.same e2 hs2, by omega, fun k hk => ?_, fun v H' e st => ?_⟩⟩
        · have := List.all_eq_true.mp hall k hk
          simpa using this
        · refine ⟨_, rfl, _, _, st.dp, StAt.dp (s := .t xs) ⟨c0, rfl, SqT.same (e2.trans e) hs2⟩, shaped_sdS _, shaped_sdS _, ?_⟩
          have := hq H' (e2.trans e)
          rw [hall, Bool.true_and] at this
          rw [eqv_sdS]
          rw [show decide (Stand.t (led p xs) = Stand.t xs) = decide (led p xs = xs) by
            by_cases h : led p xs = xs
            · rw [h]; simp
            · rw [decide_eq_false h]; exact decide_eq_false fun z => h (Stand.t.inj z)]
          exact this
      · intro hall
        rw [all_map] at hall
        rw [all_map, hall]
        have := hq H2 e2
        rw [hall, Bool.false_and] at this
        exact ⟨false, rfl, iteT this⟩
end K5

set_option Elab.async false
set_option linter.all false
set_option maxRecDepth 100000
set_option maxHeartbeats 4000000
/-! looks.py, part one: pairings, and one step of theirs. -/
namespace K5
open PySem PySem.Spec PyProof.Rows L2
variable {P : Program} {w : World} {K : PySem.W.Frag} {mg : Str → Option Value} {base : Heap} {a : Ad}

def PairAt (K : PySem.W.Frag) (a : Ad) (H : Hp) (v : V) (S : Plan) : Prop := ∃ x dx k q m c, v = .ref x ∧ SlX.Slt H x a.cP dx [some c, some k, some m, some q] ∧ MachAt K a.cM H k S.L S.R1 ∧ CondAt K H q S.q ∧ MachAt K a.cM H m S.L S.R2 ∧ CondAt K H c S.c
theorem PairAt.same {H H' : Hp} {v : V} {S : Plan} (e : Same H H') (h : PairAt K a H v S) : PairAt K a H' v S :=
  let ⟨x, dx, k, q, m, c, ev, hs, h1, h2, h3, h4⟩ := h
  ⟨x, dx, k, q, m, c, ev, Slt.same e hs, h1.same e, h2.mono (TS.of e), h3.same e, h4.mono (TS.of e)⟩
theorem CondAt.same {H H' : Hp} {v : V} {c : Cond} (e : Same H H') (h : CondAt K H v c) : CondAt K H' v c := h.mono (TS.of e)
theorem StAt.same {H H' : Hp} {v : V} {c : Stand} (e : Same H H') (h : StAt K H v c) : StAt K H' v c := h.mono (TS.of e)
theorem SpotAt.same {H H' : Hp} {v : V} {c : Spot} (e : Same H H') (h : SpotAt K H v c) : SpotAt K H' v c := h.mono (TS.of e)
/-- what is just made, at its addresses -/
theorem made_at {H : Hp} {x dx C : Addr} (h : dx ≠ x) : (upd (upd H dx (.own x)) x (.ins C dx [])) x = some (.ins C dx []) ∧ (upd (upd H dx (.own x)) x (.ins C dx [])) dx = some (.own x) :=
  ⟨upd_same, by rw [upd_ne h, upd_same]⟩
theorem made_same {H : Hp} {x dx C : Addr} (h1 : H x = none) (h2 : H dx = none) : Same H (upd (upd H dx (.own x)) x (.ins C dx [])) := fun b u h => by
  rw [upd_ne (ne_of_none h h1), upd_ne (ne_of_none h h2)]; exact h
theorem MachAt.sb {C C' o dx : Addr} {H H' : Hp} {v : V} {L : Tx} {R : Rows} (h : MachAt K C H v L R) (ho : H o = some (.ins C' dx [])) (hd : H dx = some (.own o)) (s : SB H H' o dx) (t : TS K H H') : MachAt K C H' v L R := by
  obtain ⟨x, dx2, r, ev, hs, hr⟩ := h
  refine ⟨x, dx2, r, ev, ?_, hr.mono t⟩
  rcases hs with ⟨_, h⟩ | ⟨h1, h2⟩
  · cases h
  · have n1 : x ≠ o := fun z => by subst z; rw [ho] at h1; unfold SlX.SlO at h1; cases h1
    have n2 : x ≠ dx := fun z => by subst z; rw [hd] at h1; unfold SlX.SlO at h1; cases h1
    have n3 : dx2 ≠ o := fun z => by subst z; rw [ho] at h2; cases h2
    have n4 : dx2 ≠ dx := fun z => by subst z; rw [hd] at h2; cases h2
    exact .inr ⟨s _ _ n1 n2 h1, s _ _ n3 n4 h2⟩
theorem menu_len {L : Tx} (h : L ∈ menu) : L.length ≤ 4 := (menu_ok L h).1.2

def p_Pairing_init (K : PySem.W.Frag) (a : Ad) (self i q m c : V) (H : Hp) (Q : VK) : Prop := ∃ o dx S, self = .ref o ∧ MachAt K a.cM H i S.L S.R1 ∧ CondAt K H q S.q ∧ MachAt K a.cM H m S.L S.R2 ∧ CondAt K H c S.c ∧ OkPlan S ∧
  H o = some (.ins a.cP dx []) ∧ H dx = some (.own o) ∧ dx ≠ o ∧ ∀ H', SB H H' o dx → PairAt K a H' (.ref o) S → Q .non H'
abbrev N_Pairing_init : List Str := ["self", "index", "question", "machine", "condition"]
theorem sc_Pairing_init : FnScope N_Pairing_init ["self", "index", "question", "machine", "condition"] (defScope s_Pairing_init) := ⟨rfl, rfl, rfl, by decide +kernel, rfl, by decide +kernel, by decide +kernel⟩
theorem ok_Pairing_init {fa : Addr} {fd : FuncData} (T : Txt K mg a) (F : FnP K "__init__" "Pairing.__init__" s_Pairing_init fa fd) (c_check_two : Cl P w K mg base 3 "check_two" (sq2 (p_check_two K a))) (c_check_condition : Cl P w K mg base 4 "check_condition" (sq2 (p_check_condition K a))) (c_Machine_letters : Pl P w K mg base 1 a.cM "letters" (sq1 (p_Machine_letters K a))) : FnOk P w K mg base CX0 5 fa fd ["self", "index", "question", "machine", "condition"] (ofSq (sq5 (p_Pairing_init K a))) := by
  refine fn_of_body F sc_Pairing_init (fun vs H Q h => sq5_len h) fun vs H Q h cdv A outer s hr => ?_
  obtain ⟨v_self, v_index, v_question, v_machine, v_condition, rfl, h⟩ := sq5_inv h
  refine ⟨_, (pss_cons (ps_expr (pe_cl c_check_two hr (pa_cons (pv 1) (pa_cons (pv 3) pa_nil))))
      (pss_cons (ps_expr (pe_cl c_check_condition hr (pa_cons (pe_pl c_Machine_letters hr (pv 1)) (pa_cons (pv 2) pa_nil))))
      (pss_cons (ps_expr (pe_cl c_check_condition hr (pa_cons (pe_pl c_Machine_letters hr (pv 3)) (pa_cons (pv 4) pa_nil))))
      (pss_cons (ps_sf T.cl_Pairing T.k_Pairing_keeper (pv 0) (pv 1))
      (pss_cons (ps_sf T.cl_Pairing T.k_Pairing_question (pv 0) (pv 2))
      (pss_cons (ps_sf T.cl_Pairing T.k_Pairing_machine (pv 0) (pv 3))
      (pss_one (ps_sf T.cl_Pairing T.k_Pairing_condition (pv 0) (pv 4))))))))), ?_⟩
  obtain ⟨o, dx, S, rfl, hi, hq1, hm, hc, ok, ho, hd, hne, hq⟩ := h
  have hL := menu_len ok.L
  refine ⟨_, rfl, _, rfl, S.L, S.R1, S.R2, hi, hm, ?_⟩
  obtain ⟨xi, dxi, ri, rfl, hsi, hri⟩ := hi
  refine ⟨_, rfl, _, _, _, rfl, hsi, S.L, S.R1, ⟨xi, dxi, ri, rfl, hsi, hri⟩, _, rfl, S.L, S.q, rfl, by omega, hq1, ok.q, fun H1 e1 => ?_⟩
  have hm1 := hm.same e1
  obtain ⟨xm, dxm, rm, rfl, hsm, hrm⟩ := hm
  refine ⟨_, rfl, _, _, _, rfl, Slt.same e1 hsm, S.L, S.R2, hm1, _, rfl, S.L, S.c, rfl, by omega, hc.same e1, ok.c, fun H2 e2 => ?_⟩
  have e12 := e1.trans e2
  have ho2 := e12 _ _ ho
  have hd2 := e12 _ _ hd
  refine ⟨_, rfl, _, rfl, _, _, _, rfl, .inl ⟨ho2, rfl⟩, ?_⟩
  refine ⟨_, rfl, _, rfl, _, _, _, rfl, SlX.slH_slt hne, ?_⟩
  rw [SlX.slH_twice hne]
  refine ⟨_, rfl, _, rfl, _, _, _, rfl, SlX.slH_slt hne, ?_⟩
  rw [SlX.slH_twice hne]
  refine ⟨_, rfl, _, rfl, _, _, _, rfl, SlX.slH_slt hne, ?_⟩
  rw [SlX.slH_twice hne]
  have t2 := fun vs => tsl (K := K) (C := a.cP) (vs := vs) ho2 hd2 hne
  exact hq _ (fun b u h1 h2 h => sb_sl b u h1 h2 (e12 _ _ h)) ⟨o, dx, _, _, _, _, rfl, SlX.slH_slt hne,
    MachAt.sb (MachAt.same e12 ⟨xi, dxi, ri, rfl, hsi, hri⟩) ho2 hd2 sb_sl (t2 _), (hq1.same e12).mono (t2 _), MachAt.sb (MachAt.same e12 ⟨xm, dxm, rm, rfl, hsm, hrm⟩) ho2 hd2 sb_sl (t2 _), (hc.same e12).mono (t2 _)⟩

def p_Pairing_first (K : PySem.W.Frag) (a : Ad) (self : V) (H : Hp) (Q : VK) : Prop := ∃ S, PairAt K a H self S ∧ OkPlan S ∧ ∀ v H', Same H H' → SpotAt K H' v (first S) → Q v H'
abbrev N_Pairing_first : List Str := ["self"]
theorem sc_Pairing_first : FnScope N_Pairing_first ["self"] (defScope s_Pairing_first) := ⟨rfl, rfl, rfl, by decide +kernel, rfl, by decide +kernel, by decide +kernel⟩
theorem ok_Pairing_first {fa : Addr} {fd : FuncData} (T : Txt K mg a) (F : FnP K "first" "Pairing.first" s_Pairing_first fa fd) (c_first_stand : Cl P w K mg base 2 "first_stand" (sq1 (p_first_stand K a))) : FnR P w K mg base CX0 3 fa (ofSq (sq1 (p_Pairing_first K a))) := by
  refine fnr_of F (fun _ _ _ _ _ _ us hl => match us, hl with | [_], _ => rfl) sc_Pairing_first (fun vs H Q h => sq1_len h) fun vs H Q h cdv A outer s hr => ?_
  obtain ⟨v_self, rfl, h⟩ := sq1_inv h
  refine ⟨_, (pss_one (ps_ret (pe_tup (pa_cons pe_int (pa_cons (pe_cl c_first_stand hr (pa_cons (pe_sf T.cl_Pairing T.k_Pairing_question (pv 0)) pa_nil)) (pa_cons pe_int (pa_cons (pe_cl c_first_stand hr (pa_cons (pe_sf T.cl_Pairing T.k_Pairing_condition (pv 0)) pa_nil)) pa_nil))))))), ?_⟩
  obtain ⟨S, ⟨x, dx, k, q, m, c, rfl, hs, hk, hq1, hm, hc⟩, ok, hq⟩ := h
  refine ⟨_, rfl, _, _, _, _, rfl, hs, rfl, S.L, S.q, hq1, ok.q, fun v1 H1 e1 s1 => ?_⟩
  refine ⟨_, rfl, _, _, _, _, rfl, Slt.same e1 hs, rfl, S.L, S.c, hc.same e1, ok.c, fun v2 H2 e2 s2 => ?_⟩
  refine ⟨sz_small (by simp), fun t ht => hq _ _ ((e1.trans e2).trans (Same.new ht)) ⟨t, v1, v2, rfl, .inl (.inl upd_same), s1.same (e2.trans (Same.new ht)), s2.same (Same.new ht)⟩⟩

def p_Pairing_after (K : PySem.W.Frag) (a : Ad) (self x y : V) (H : Hp) (Q : VK) : Prop := ∃ S s c, PairAt K a H self S ∧ OkPlan S ∧ SpotAt K H x s ∧ isSpot S s = true ∧ y = .str (tx [c]) ∧ c ∈ S.L ∧ ∀ v H', Same H H' → SpotAt K H' v (next S s c) → Q v H'
abbrev N_Pairing_after : List Str := ["self", "spot", "letter", "state", "asked", "place", "wished", "late", "key", "last", "made"]
theorem sc_Pairing_after : FnScope N_Pairing_after ["self", "spot", "letter"] (defScope s_Pairing_after) := ⟨rfl, rfl, rfl, by decide +kernel, rfl, by decide +kernel, by decide +kernel⟩
theorem ok_Pairing_after {fa : Addr} {fd : FuncData} (T : Txt K mg a) (F : FnP K "after" "Pairing.after" s_Pairing_after fa fd) (c_Machine_turn : Ml P w K mg base 1 a.cM "turn" (sq3 (p_Machine_turn K a))) (c_stand_after : Cl P w K mg base 2 "stand_after" (sq4 (p_stand_after K a))) (c_Machine_letters : Pl P w K mg base 1 a.cM "letters" (sq1 (p_Machine_letters K a))) : FnR P w K mg base CX0 3 fa (ofSq (sq3 (p_Pairing_after K a))) := by
  refine fnr_of F (fun _ _ _ _ _ _ us hl => match us, hl with | [_, _, _], _ => rfl) sc_Pairing_after (fun vs H Q h => sq3_len h) fun vs H Q h cdv A outer s hr => ?_
  obtain ⟨v_self, v_spot, v_letter, rfl, h⟩ := sq3_inv h
  refine ⟨_, (pss_cons (ps_asg (pv 1) (pg_tup (by rfl) (pgs_cons (pg_name (i := 3) sc_Pairing_after.nd rfl (Or.inl rfl)) (pgs_cons (pg_name (i := 4) sc_Pairing_after.nd rfl (Or.inl rfl)) (pgs_cons (pg_name (i := 5) sc_Pairing_after.nd rfl (Or.inl rfl)) (pgs_cons (pg_name (i := 6) sc_Pairing_after.nd rfl (Or.inl rfl)) pgs_nil))))))
      (pss_cons (ps_asg (pe_ml c_Machine_turn hr (pe_sf T.cl_Pairing T.k_Pairing_keeper (pv 0)) (pa_cons (pv 3) (pa_cons (pv 2) pa_nil))) (pg_tup (by rfl) (pgs_cons (pg_name (i := 7) sc_Pairing_after.nd rfl (Or.inl rfl)) (pgs_cons (pg_name (i := 8) sc_Pairing_after.nd rfl (Or.inl rfl)) pgs_nil))))
      (pss_cons (ps_asg (pe_ml c_Machine_turn hr (pe_sf T.cl_Pairing T.k_Pairing_machine (pv 0)) (pa_cons (pv 5) (pa_cons (pv 2) pa_nil))) (pg_tup (by rfl) (pgs_cons (pg_name (i := 9) sc_Pairing_after.nd rfl (Or.inl rfl)) (pgs_cons (pg_name (i := 10) sc_Pairing_after.nd rfl (Or.inl rfl)) pgs_nil))))
      (pss_cons (ps_if (pt_cmpR op_ne (pv 8) pe_str rfl) (pss_one (ps_set (i := 4) sc_Pairing_after.nd rfl (Or.inl rfl) (pe_cl c_stand_after hr (pa_cons (pe_pl c_Machine_letters hr (pe_sf T.cl_Pairing T.k_Pairing_keeper (pv 0))) (pa_cons (pe_sf T.cl_Pairing T.k_Pairing_question (pv 0)) (pa_cons (pv 4) (pa_cons (pv 8) pa_nil))))))) pss_nil)
      (pss_cons (ps_if (pt_cmpR op_ne (pv 10) pe_str rfl) (pss_one (ps_set (i := 6) sc_Pairing_after.nd rfl (Or.inl rfl) (pe_cl c_stand_after hr (pa_cons (pe_pl c_Machine_letters hr (pe_sf T.cl_Pairing T.k_Pairing_keeper (pv 0))) (pa_cons (pe_sf T.cl_Pairing T.k_Pairing_condition (pv 0)) (pa_cons (pv 6) (pa_cons (pv 10) pa_nil))))))) pss_nil)
      (pss_one (ps_ret (pe_tup (pa_cons (pv 7) (pa_cons (pv 4) (pa_cons (pv 9) (pa_cons (pv 6) pa_nil)))))))))))), ?_⟩
  obtain ⟨S, s0, ch, ⟨x, dx, k, q, m, c, rfl, hs, hk, hq1, hm, hc⟩, ok, ⟨t0, v1, v3, rfl, ht0, hv1, hv3⟩, hsp, rfl, hch, hq⟩ := h
  obtain ⟨⟨ha, hb⟩, hx, hy⟩ := isSpot_iff.mp hsp
  obtain ⟨_, _, _, ok1⟩ := turn_at ok.R1 ha.1 ha.2 hch
  obtain ⟨_, _, _, ok2⟩ := turn_at ok.R2 hb.1 hb.2 hch
  have hk0 := hk
  have hm0 := hm
  obtain ⟨xk, dxk, rk, rfl, hsk, hrk⟩ := hk
  obtain ⟨xm, dxm, rm, rfl, hsm, hrm⟩ := hm
  refine ⟨_, rfl, _, _, rfl, ht0, rfl, _, _, rfl, _, _, rfl, _, _, rfl, _, _, rfl, rfl, ?_⟩
  refine ⟨_, rfl, _, _, _, _, rfl, hs, rfl, _, _, _, rfl, hsk, _, rfl, _, rfl, S.L, S.R1, s0.a, ch, hk0, ok.L, ok.R1, rfl, ha, rfl, hch, ?_⟩
  rintro _ ⟨t1, rfl, hq1t⟩
  refine ⟨_, _, rfl, hq1t, rfl, _, _, rfl, _, _, rfl, rfl, ?_⟩
  refine ⟨_, rfl, _, _, _, _, rfl, hs, rfl, _, _, _, rfl, hsm, _, rfl, _, rfl, S.L, S.R2, s0.b, ch, hm0, ok.L, ok.R2, rfl, hb, rfl, hch, ?_⟩
  rintro _ ⟨t2, rfl, hq2t⟩
  refine ⟨_, _, rfl, hq2t, rfl, _, _, rfl, _, _, rfl, rfl, ?_⟩
  have en : next S s0 ch = ⟨(turn S.R1 S.L s0.a ch).1, after1 S.L S.q s0.x (turn S.R1 S.L s0.a ch).2, (turn S.R2 S.L s0.b ch).1, after1 S.L S.c s0.y (turn S.R2 S.L s0.b ch).2⟩ := rfl
  rw [en] at hq
  generalize turn S.R1 S.L s0.a ch = T1 at *
  generalize turn S.R2 S.L s0.b ch = T2 at *
  obtain ⟨n1, o1⟩ := T1
  obtain ⟨n2, o2⟩ := T2
  have nil_eq : ∀ c : Nat, decide (V.str (tx [c]) = V.str (Str.ofString "")) = false := fun c => decide_eq_false fun z => by injection z with z; injection z with z; cases z
  rcases ok1.2 with ho1 | ⟨k1, hk1, ho1⟩
  · have ho1 : o1 = [] := ho1
    subst ho1
    refine ⟨_, rfl, rfl, _, rfl, iteF ?_⟩
    rcases ok2.2 with ho2 | ⟨k2, hk2, ho2⟩
    · have ho2 : o2 = [] := ho2
      subst ho2
      refine ⟨_, rfl, rfl, _, rfl, iteF ?_⟩
      exact ⟨_, rfl, _, rfl, _, rfl, _, rfl, sz_small (by simp), fun t ht => hq _ _ (Same.new ht) ⟨t, _, _, rfl, .inl (.inl upd_same), hv1.same (Same.new ht), hv3.same (Same.new ht)⟩⟩
    · have ho2 : o2 = [k2] := ho2
      subst ho2
      refine ⟨_, rfl, rfl, _, rfl, ?_⟩
      rw [nil_eq k2]
      refine iteT ⟨_, rfl, _, _, _, _, rfl, hs, rfl, _, _, _, rfl, hsk, S.L, S.R1, hk0, _, rfl, _, _, _, _, rfl, hs, rfl, _, rfl, _, rfl, S.L, S.c, s0.y, k2, rfl, ok.L, hc, ok.c, hv3, hy, rfl, hk2, fun v2 H2 e2 s2 => ?_⟩
      exact ⟨_, rfl, _, rfl, _, rfl, _, rfl, sz_small (by simp), fun t ht => hq _ _ (e2.trans (Same.new ht)) ⟨t, _, _, rfl, .inl (.inl upd_same), hv1.same (e2.trans (Same.new ht)), s2.same (Same.new ht)⟩⟩
  · have ho1 : o1 = [k1] := ho1
    subst ho1
    refine ⟨_, rfl, rfl, _, rfl, ?_⟩
    rw [nil_eq k1]
    refine iteT ⟨_, rfl, _, _, _, _, rfl, hs, rfl, _, _, _, rfl, hsk, S.L, S.R1, hk0, _, rfl, _, _, _, _, rfl, hs, rfl, _, rfl, _, rfl, S.L, S.q, s0.x, k1, rfl, ok.L, hq1, ok.q, hv1, hx, rfl, hk1, fun v1 H1 e1 s1 => ?_⟩
    rcases ok2.2 with ho2 | ⟨k2, hk2, ho2⟩
    · have ho2 : o2 = [] := ho2
      subst ho2
      refine ⟨_, rfl, rfl, _, rfl, iteF ?_⟩
      exact ⟨_, rfl, _, rfl, _, rfl, _, rfl, sz_small (by simp), fun t ht => hq _ _ (e1.trans (Same.new ht)) ⟨t, _, _, rfl, .inl (.inl upd_same), s1.same (Same.new ht), hv3.same (e1.trans (Same.new ht))⟩⟩
    · have ho2 : o2 = [k2] := ho2
      subst ho2
      refine ⟨_, rfl, rfl, _, rfl, ?_⟩
      rw [nil_eq k2]
      refine iteT ⟨_, rfl, _, _, _, _, rfl, Slt.same e1 hs, rfl, _, _, _, rfl, Slt.same e1 hsk, S.L, S.R1, hk0.same e1, _, rfl, _, _, _, _, rfl, Slt.same e1 hs, rfl, _, rfl, _, rfl, S.L, S.c, s0.y, k2, rfl, ok.L, hc.same e1, ok.c, hv3.same e1, hy, rfl, hk2, fun v2 H2 e2 s2 => ?_⟩
      exact ⟨_, rfl, _, rfl, _, rfl, _, rfl, sz_small (by simp), fun t ht => hq _ _ ((e1.trans e2).trans (Same.new ht)) ⟨t, _, _, rfl, .inl (.inl upd_same), s1.same (e2.trans (Same.new ht)), s2.same (Same.new ht)⟩⟩

def p_Pairing_is_found (K : PySem.W.Frag) (a : Ad) (self x : V) (H : Hp) (Q : VK) : Prop := ∃ S s, PairAt K a H self S ∧ OkPlan S ∧ SpotAt K H x s ∧ fits S.q s.x ∧ ∀ H', Same H H' → Q (.bl (found S s)) H'
abbrev N_Pairing_is_found : List Str := ["self", "spot"]
theorem sc_Pairing_is_found : FnScope N_Pairing_is_found ["self", "spot"] (defScope s_Pairing_is_found) := ⟨rfl, rfl, rfl, by decide +kernel, rfl, by decide +kernel, by decide +kernel⟩
theorem ok_Pairing_is_found {fa : Addr} {fd : FuncData} (T : Txt K mg a) (F : FnP K "is_found" "Pairing.is_found" s_Pairing_is_found fa fd) (c_is_met : Cl P w K mg base 1 "is_met" (sq2 (p_is_met K a))) : FnR P w K mg base CX0 2 fa (ofSq (sq2 (p_Pairing_is_found K a))) := by
  refine fnr_of F (fun _ _ _ _ _ _ us hl => match us, hl with | [_, _], _ => rfl) sc_Pairing_is_found (fun vs H Q h => sq2_len h) fun vs H Q h cdv A outer s hr => ?_
  obtain ⟨v_self, v_spot, rfl, h⟩ := sq2_inv h
  refine ⟨_, (pss_one (ps_ret (pe_cl c_is_met hr (pa_cons (pe_sf T.cl_Pairing T.k_Pairing_question (pv 0)) (pa_cons (pe_ix ix_tup (pv 1) pe_int (fun _ _ => rfl)) pa_nil))))), ?_⟩
  obtain ⟨S, s0, ⟨x, dx, k, q, m, c, rfl, hs, hk, hq1, hm, hc⟩, ok, ⟨t0, v1, v3, rfl, ht0, hv1, hv3⟩, hf, hq⟩ := h
  exact ⟨_, rfl, _, _, _, _, rfl, hs, rfl, _, rfl, _, _, 1, _, rfl, rfl, ht0, rfl, S.L, S.q, s0.x, hq1, ok.q, hv1, hf, hq⟩

def p_Pairing_is_wished (K : PySem.W.Frag) (a : Ad) (self x : V) (H : Hp) (Q : VK) : Prop := ∃ S s, PairAt K a H self S ∧ OkPlan S ∧ SpotAt K H x s ∧ fits S.c s.y ∧ ∀ H', Same H H' → Q (.bl (wished S s)) H'
abbrev N_Pairing_is_wished : List Str := ["self", "spot"]
theorem sc_Pairing_is_wished : FnScope N_Pairing_is_wished ["self", "spot"] (defScope s_Pairing_is_wished) := ⟨rfl, rfl, rfl, by decide +kernel, rfl, by decide +kernel, by decide +kernel⟩
theorem ok_Pairing_is_wished {fa : Addr} {fd : FuncData} (T : Txt K mg a) (F : FnP K "is_wished" "Pairing.is_wished" s_Pairing_is_wished fa fd) (c_is_met : Cl P w K mg base 1 "is_met" (sq2 (p_is_met K a))) : FnR P w K mg base CX0 2 fa (ofSq (sq2 (p_Pairing_is_wished K a))) := by
  refine fnr_of F (fun _ _ _ _ _ _ us hl => match us, hl with | [_, _], _ => rfl) sc_Pairing_is_wished (fun vs H Q h => sq2_len h) fun vs H Q h cdv A outer s hr => ?_
  obtain ⟨v_self, v_spot, rfl, h⟩ := sq2_inv h
  refine ⟨_, (pss_one (ps_ret (pe_cl c_is_met hr (pa_cons (pe_sf T.cl_Pairing T.k_Pairing_condition (pv 0)) (pa_cons (pe_ix ix_tup (pv 1) pe_int (fun _ _ => rfl)) pa_nil))))), ?_⟩
  obtain ⟨S, s0, ⟨x, dx, k, q, m, c, rfl, hs, hk, hq1, hm, hc⟩, ok, ⟨t0, v1, v3, rfl, ht0, hv1, hv3⟩, hf, hq⟩ := h
  exact ⟨_, rfl, _, _, _, _, rfl, hs, rfl, _, rfl, _, _, 3, _, rfl, rfl, ht0, rfl, S.L, S.c, s0.y, hc, ok.c, hv3, hf, hq⟩

def p_Pairing_is_spot (K : PySem.W.Frag) (a : Ad) (self x : V) (H : Hp) (Q : VK) : Prop := ∃ S s, PairAt K a H self S ∧ OkPlan S ∧ SpotAt K H x s ∧ fitsSpot S s ∧ ∀ H', Same H H' → Q (.bl (isSpot S s)) H'
abbrev N_Pairing_is_spot : List Str := ["self", "thing"]
theorem sc_Pairing_is_spot : FnScope N_Pairing_is_spot ["self", "thing"] (defScope s_Pairing_is_spot) := ⟨rfl, rfl, rfl, by decide +kernel, rfl, by decide +kernel, by decide +kernel⟩
theorem ok_Pairing_is_spot {fa : Addr} {fd : FuncData} (T : Txt K mg a) (F : FnP K "is_spot" "Pairing.is_spot" s_Pairing_is_spot fa fd) (c_is_number : Cl P w K mg base 1 "is_number" (sq3 (p_is_number K a))) (c_Machine_len : Ml P w K mg base 1 a.cM "__len__" (sq1 (p_Machine_len K a))) (c_is_stand_of : Cl P w K mg base 3 "is_stand_of" (sq2 (p_is_stand_of K a))) : FnR P w K mg base CX0 4 fa (ofSq (sq2 (p_Pairing_is_spot K a))) := by
  refine fnr_of F (fun _ _ _ _ _ _ us hl => match us, hl with | [_, _], _ => rfl) sc_Pairing_is_spot (fun vs H Q h => sq2_len h) fun vs H Q h cdv A outer s hr => ?_
  obtain ⟨v_self, v_thing, rfl, h⟩ := sq2_inv h
  refine ⟨_, (pss_cons (ps_if (PW.pt (pw_or (pt_not (pt_val (pe_callB call_isi (by rfl) T.fIsi (by decide +kernel) (pa_cons (pv 1) (pa_cons (pe_bltn (v := .ty "tuple") (by rfl) T.fTuple (by decide +kernel) rfl) pa_nil))) (fun _ => rfl))) (pw_or1 (pt_cmpR op_ne (pe_callB call_len_seq (by rfl) T.fLen (by decide +kernel) (pa_cons (pv 1) pa_nil)) pe_int rfl)))) (pss_one (ps_ret pe_bl)) pss_nil)
      (pss_cons (ps_if (PW.pt (pw_or (pt_not (pt_val (pe_cl c_is_number hr (pa_cons (pe_ix ix_tup (pv 1) pe_int (fun _ _ => rfl)) (pa_cons pe_int (pa_cons (pe_op op_sub (pe_callB (call_lenO c_Machine_len hr) (by rfl) T.fLen (by decide +kernel) (pa_cons (pe_sf T.cl_Pairing T.k_Pairing_keeper (pv 0)) pa_nil)) pe_int) pa_nil)))) (fun _ => rfl))) (pw_or1 (pt_not (pt_val (pe_cl c_is_number hr (pa_cons (pe_ix ix_tup (pv 1) pe_int (fun _ _ => rfl)) (pa_cons pe_int (pa_cons (pe_op op_sub (pe_callB (call_lenO c_Machine_len hr) (by rfl) T.fLen (by decide +kernel) (pa_cons (pe_sf T.cl_Pairing T.k_Pairing_machine (pv 0)) pa_nil)) pe_int) pa_nil)))) (fun _ => rfl)))))) (pss_one (ps_ret pe_bl)) pss_nil)
      (pss_one (ps_ret (pe_and (pe_cl c_is_stand_of hr (pa_cons (pe_sf T.cl_Pairing T.k_Pairing_question (pv 0)) (pa_cons (pe_ix ix_tup (pv 1) pe_int (fun _ _ => rfl)) pa_nil))) (pe_one (pe_cl c_is_stand_of hr (pa_cons (pe_sf T.cl_Pairing T.k_Pairing_condition (pv 0)) (pa_cons (pe_ix ix_tup (pv 1) pe_int (fun _ _ => rfl)) pa_nil))))))))), ?_⟩
  obtain ⟨S, s0, ⟨x, dx, k, q, m, c, rfl, hs, hk, hq1, hm, hc⟩, ok, ⟨t0, v1, v3, rfl, ht0, hv1, hv3⟩, ⟨hf1, hf2⟩, hq⟩ := h
  have hk0 := hk
  have hm0 := hm
  obtain ⟨xk, dxk, rk, rfl, hsk, hrk⟩ := hk
  obtain ⟨xm, dxm, rm, rfl, hsm, hrm⟩ := hm
  have b1 := ok.R1.2.1
  have b2 := ok.R2.2.1
  have hd : isSpot S s0 = (((decide (0 ≤ s0.a) && decide (s0.a ≤ (S.R1.length : Int) - 1)) && (decide (0 ≤ s0.b) && decide (s0.b ≤ (S.R2.length : Int) - 1))) && (okStand S.q s0.x && okStand S.c s0.y)) := by
    unfold isSpot
    rw [show decide (s0.a < (S.R1.length : Int)) = decide (s0.a ≤ (S.R1.length : Int) - 1) from decide_eq_decide.mpr (by omega), show decide (s0.b < (S.R2.length : Int)) = decide (s0.b ≤ (S.R2.length : Int) - 1) from decide_eq_decide.mpr (by omega)]
  rw [hd] at hq
  refine ⟨_, rfl, _, _, _, _, _, rfl, .ty _, ty_tup ht0, kit_tt, true, rfl, iteF ?_⟩
  refine ⟨_, rfl, _, _, rfl, .inr ht0, rfl, _, rfl, iteF ?_⟩
  refine ⟨_, rfl, _, _, 0, _, rfl, rfl, ht0, rfl, _, rfl, _, _, _, _, rfl, hs, rfl, _, _, _, rfl, hsk, S.L, S.R1, hk0, (S.R1.length : Int), rfl, by omega, _, _, rfl, rfl, s0.a, 0, _, rfl, rfl, rfl, ?_⟩
  cases ha : (decide (0 ≤ s0.a) && decide (s0.a ≤ (S.R1.length : Int) - 1)) with
  | false =>
    rw [ha] at hq
    exact ⟨_, rfl, iteT (hq H (Same.refl _))⟩
  | true =>
    rw [ha] at hq
    refine ⟨_, rfl, iteF ?_⟩
    refine ⟨_, rfl, _, _, 2, _, rfl, rfl, ht0, rfl, _, rfl, _, _, _, _, rfl, hs, rfl, _, _, _, rfl, hsm, S.L, S.R2, hm0, (S.R2.length : Int), rfl, by omega, _, _, rfl, rfl, s0.b, 0, _, rfl, rfl, rfl, ?_⟩
    cases hb : (decide (0 ≤ s0.b) && decide (s0.b ≤ (S.R2.length : Int) - 1)) with
    | false =>
      rw [hb] at hq
      exact ⟨_, rfl, iteT (hq H (Same.refl _))⟩
    | true =>
      rw [hb] at hq
      refine ⟨_, rfl, iteF ?_⟩
      refine ⟨_, rfl, _, _, _, _, rfl, hs, rfl, _, rfl, _, _, 1, _, rfl, rfl, ht0, rfl, S.L, S.q, s0.x, hq1, ok.q, hv1, hf1, fun H1 e1 => ?_⟩
      cases hx : okStand S.q s0.x with
      | false =>
        rw [hx] at hq
        exact ⟨_, rfl, iteF (hq H1 e1)⟩
      | true =>
        rw [hx] at hq
        exact ⟨_, rfl, iteT ⟨_, rfl, _, _, _, _, rfl, Slt.same e1 hs, rfl, _, rfl, _, _, 3, _, rfl, rfl, SqT.same e1 ht0, rfl, S.L, S.c, s0.y, hc.same e1, ok.c, hv3.same e1, hf2, fun H2 e2 => hq H2 (e1.trans e2)⟩⟩
end K5

set_option Elab.async false
set_option linter.all false
set_option maxRecDepth 100000
set_option maxHeartbeats 4000000
/-! looks.py, part two: are_closed, spot_of. -/
namespace K5
open PySem PySem.Spec PyProof.Rows L2
variable {P : Program} {w : World} {K : PySem.W.Frag} {mg : Str → Option Value} {base : Heap} {a : Ad}

theorem lc2_bl {α : Type} {J : It} {n : Nat} {G : Hp → Prop} {Im : Nat → V → Prop} (w : Walk J n G (fun i H x H' => H' = H ∧ Im i x)) {k k1 : Nat} {wi1 : TI} {te : TE} {σ : L2.St} {H1 : Hp} {D : Addr} {Qd : Hp → Prop} (ys : List α) (l : Tx) (F : α → Nat → Bool) (hl : ys.length = n) (hs1 : n ≤ 1000) (hs2 : l.length ≤ 10) (hD : H1 D = none) (hG : ∀ H, Same H1 H → G H)
    (hwp : ∀ x, wipe ((wipe σ [k, k1]).set k (some x)) [k, k1] = wipe σ [k, k1])
    (hw : ∀ x Hc (R : It → Hp → Prop), Same H1 Hc → R (Its (tx l)) Hc → wi1 ((wipe σ [k, k1]).set k (some x)) Hc R)
    (hs : ∀ i y x c Hc (Yes : V → Hp → Prop), ys[i]? = some y → Im i x → c ∈ l → Same H1 Hc → (∀ H4, Same Hc H4 → Yes (.bl (F y c)) H4) → te ((wipe ((wipe σ [k, k1]).set k (some x)) [k1]).set k1 (some (.str (tx [c])))) Hc Yes)
    (hd : ∀ H, Same H1 H → H D = some (.lst ((ys.flatMap fun y => l.map (F y)).map V.bl)) → Qd H) :
    ∃ W : Nat → Nat → Hp → Prop, (∃ m, W 0 m (upd H1 D (.lst []))) ∧ ∀ i m H, W i m H →
      (J.stop i H ∧ Qd H) ∨ (J.go i H ∧ ∃ Nx : Hp → Prop, (∀ H', Nx H' → ∃ m', m' < m ∧ W (i + 1) m' H') ∧ ∀ x H', J.yld i H x H' → gName k x (wipe σ [k, k1]) H' fun σ2 H2 => wipe σ2 [k, k1] = wipe σ [k, k1] ∧ tYes σ2 H2 fun b H3 =>
        if b = true then wi1 σ2 H3 fun J1 H4 => ∃ W1 : Nat → Nat → Hp → Prop, (∃ m, W1 0 m H4) ∧ ∀ j k H, W1 j k H →
          (J1.stop j H ∧ Nx H) ∨ (J1.go j H ∧ ∃ Nx1 : Hp → Prop, (∀ H', Nx1 H' → ∃ k', k' < k ∧ W1 (j + 1) k' H') ∧ ∀ x H', J1.yld j H x H' → gName k1 x (wipe σ2 [k1]) H' fun σ3 H5 => wipe σ3 [k1] = wipe σ2 [k1] ∧ tYes σ3 H5 fun b H6 =>
            if b = true then te σ3 H6 fun y H7 => ∃ acc, H7 D = some (.lst acc) ∧ acc.length < sizeLine ∧ Nx1 (upd H7 D (.lst (acc ++ [y]))) else Nx1 H6)
        else Nx H3) := by
  have hfl : ∀ zs : List α, (zs.flatMap fun y => l.map (F y)).length = zs.length * l.length := by
    intro zs
    induction zs with
    | nil => simp
    | cons z zs ih => rw [List.flatMap_cons, List.length_append, ih, List.length_map, List.length_cons, Nat.succ_mul, Nat.add_comm]
  refine ⟨fun i m H => m = n - i ∧ i ≤ n ∧ Same H1 H ∧ H D = some (.lst (((ys.take i).flatMap fun y => l.map (F y)).map V.bl)), ⟨n, by simp, Nat.zero_le _, Same.new hD, by rw [upd_same]; simp⟩, ?_⟩
  rintro i m H ⟨rfl, hi, e, hDi⟩
  by_cases hlt : i < n
  · have ey : ys[i]? = some (ys[i]'(by omega)) := List.getElem?_eq_getElem (by omega)
    generalize ys[i]'(by omega) = y at ey
    refine .inr ⟨w.goes i H hlt (hG H e), fun H' => Same H1 H' ∧ H' D = some (.lst (((ys.take (i + 1)).flatMap fun y => l.map (F y)).map V.bl)), fun H' h' => ⟨n - (i + 1), by omega, rfl, hlt, h'.1, h'.2⟩, fun x H' yl => ?_⟩
    obtain ⟨rfl, hx⟩ := w.yields i H x H' hlt (hG H e) yl
    refine ⟨hwp x, ?_⟩
    simp only [tYes, ↓reduceIte]
    refine hw x H' _ e ?_
    refine ⟨fun j k' H => k' = l.length - j ∧ j ≤ l.length ∧ Same H1 H ∧ H D = some (.lst ((((ys.take i).flatMap fun y => l.map (F y)) ++ (l.take j).map (F y)).map V.bl)), ⟨l.length, by simp, Nat.zero_le _, e, by simpa using hDi⟩, ?_⟩
    rintro j k' H2 ⟨rfl, hj, e2, hD2⟩
    by_cases hjl : j < l.length
    · refine .inr ⟨by show j < (tx l).cps.size; simpa [tx] using hjl, fun H' => Same H1 H' ∧ H' D = some (.lst ((((ys.take i).flatMap fun y => l.map (F y)) ++ (l.take (j + 1)).map (F y)).map V.bl)), fun H' h' => ⟨l.length - (j + 1), by omega, rfl, hjl, h'.1, h'.2⟩, fun x2 H3 yl2 => ?_⟩
      obtain ⟨rfl, c, hc, rfl⟩ := yl2
      have hc2 : l[j]? = some c := by simpa [tx] using hc
      refine ⟨wipe_one _ _ _, ?_⟩
      refine hs i y x c H3 _ ey hx (List.mem_of_getElem? hc2) e2 fun H4 e4 => ⟨_, e4 _ _ hD2, ?_, Same.put (e2.trans e4) hD, ?_⟩
      · rw [List.length_map, List.length_append, hfl, List.length_map]
        have h1 : (ys.take i).length ≤ 1000 := by rw [List.length_take]; omega
        have h2 : (l.take j).length ≤ 10 := by rw [List.length_take]; omega
        have h3 := Nat.mul_le_mul h1 hs2
        exact sz_smallT (by omega)
      · rw [upd_same, List.take_succ, hc2, List.map_append, List.map_append, List.map_append, List.map_append, List.append_assoc]
        rfl
    · have ej : j = l.length := by omega
      refine .inl ⟨by show (tx l).cps.size ≤ j; simp [tx]; omega, e2, ?_⟩
      rw [hD2, ej, List.take_length, List.take_succ, ey, List.flatMap_append]
      simp
  · have ei : i = n := by omega
    subst ei
    refine .inl ⟨w.stops H (hG H e), hd H e ?_⟩
    rw [hDi, ← hl, List.take_length]

theorem items_of {H : Hp} : ∀ {vs : List V} {ss : List Spot}, Spots K H vs ss → ∃ xs : List NIt, Paired (fun v (x : NIt) => v = .ref x.2.1 ∧ x.2.2 = .bl true ∧ SpotAt K H v x.1) vs xs ∧ xs.map (·.1) = ss
  | _, _, .nil => ⟨[], .nil, rfl⟩
  | _, _, .cons (a := v) (b := s) h t => by
    obtain ⟨xs, h1, h2⟩ := items_of t
    have h0 := h
    obtain ⟨p, _, _, e, _⟩ := h0
    exact ⟨(s, p, .bl true) :: xs, .cons ⟨e, rfl, h⟩ h1, by rw [List.map_cons, h2]⟩
theorem paired_mem {α : Type} {R : V → α → Prop} {vs : List V} {xs : List α} (h : Paired R vs xs) {x : α} (hx : x ∈ xs) : ∃ v, R v x := by
  obtain ⟨i, hi⟩ := List.mem_iff_getElem?.mp hx
  obtain ⟨v, _, r⟩ := paired_get h hi
  exact ⟨v, r⟩
theorem all_flat {α : Type} (ys : List α) (l : Tx) (F : α → Nat → Bool) : (ys.flatMap fun y => l.map (F y)).all id = ys.all fun y => l.all (F y) := by
  induction ys with
  | nil => rfl
  | cons y ys ih => rw [List.flatMap_cons, List.all_append, ih, all_map, List.all_cons]
theorem all_keys {S : Plan} {ss : List Spot} {xs ys : List NIt} (d : Dedup xs ys) (h : xs.map (·.1) = ss) :
    (ys.all fun y => S.L.all fun c => decide (next S y.1 c ∈ ys.map (·.1))) = ss.all fun s => S.L.all fun c => decide (next S s c ∈ ss) := by
  have hk : ∀ k, k ∈ ys.map (·.1) ↔ k ∈ ss := fun k => by rw [d.keys, h]
  rw [Bool.eq_iff_iff]
  simp only [List.all_eq_true, decide_eq_true_eq]
  constructor
  · intro q s hs c hc
    obtain ⟨y, hy, rfl⟩ := List.mem_map.mp ((hk s).mpr hs)
    exact (hk _).mp (q y hy c hc)
  · intro q y hy c hc
    exact (hk _).mpr (q y.1 ((hk _).mp (List.mem_map.mpr ⟨y, hy, rfl⟩)) c hc)

def p_Pairing_are_closed (K : PySem.W.Frag) (a : Ad) (self x : V) (H : Hp) (Q : VK) : Prop := ∃ S ss l vs, PairAt K a H self S ∧ OkPlan S ∧ x = .ref l ∧ SqL K H l vs ∧ Spots K H vs ss ∧ ss.length ≤ 300 ∧ (∀ s ∈ ss, fitsSpot S s) ∧ ∀ H', Same H H' → Q (.bl (closed S ss)) H'
abbrev N_Pairing_are_closed : List Str := ["self", "spots", "known", "spot", "letter"]
theorem sc_Pairing_are_closed : FnScope N_Pairing_are_closed ["self", "spots"] (defScope s_Pairing_are_closed) := ⟨rfl, rfl, rfl, by decide +kernel, rfl, by decide +kernel, by decide +kernel⟩
theorem ok_Pairing_are_closed {fa : Addr} {fd : FuncData} (T : Txt K mg a) (F : FnP K "are_closed" "Pairing.are_closed" s_Pairing_are_closed fa fd) (c_Pairing_is_spot : Ml P w K mg base 4 a.cP "is_spot" (sq2 (p_Pairing_is_spot K a))) (c_Pairing_first : Ml P w K mg base 3 a.cP "first" (sq1 (p_Pairing_first K a))) (c_Machine_letters : Pl P w K mg base 1 a.cM "letters" (sq1 (p_Machine_letters K a))) (c_Pairing_after : Ml P w K mg base 3 a.cP "after" (sq3 (p_Pairing_after K a))) : FnR P w K mg base CX0 5 fa (ofSq (sq2 (p_Pairing_are_closed K a))) := by
  refine fnr_of F (fun _ _ _ _ _ _ us hl => match us, hl with | [_, _], _ => rfl) sc_Pairing_are_closed (fun vs H Q h => sq2_len h) fun vs H Q h cdv A outer s hr => ?_
  obtain ⟨v_self, v_spots, rfl, h⟩ := sq2_inv h
  refine ⟨_, (pss_cons (ps_if (PW.pt (pw_or (pt_not (pt_val (pe_callB (cr_all rfl) (by rfl) T.fAll (by decide +kernel) (pa_cons (pe_lc (own := [("spot", 3)]) (g := gName 3) (tt := tYes) rfl sc_Pairing_are_closed.nd (pi_list (pv 1)) (blkOk_by (own := [("spot", 3)]) (N := N_Pairing_are_closed) (sc := defScope s_Pairing_are_closed) (by decide +kernel)) (fun _ _ _ _ _ => pg_name (i := 3) sc_Pairing_are_closed.nd rfl (Or.inl rfl)) (fun _ _ _ _ _ => pts_nil) (fun _ _ _ _ _ => (pe_ml c_Pairing_is_spot hr (pv 0) (pa_cons (pv 3) pa_nil)))) pa_nil)) (fun _ => rfl))) (pw_or1 (pt_cmpR (op_notInD (hu65 hr)) (pe_ml0 c_Pairing_first hr (pv 0)) (pv 1) rfl)))) (pss_one (ps_ret pe_bl)) pss_nil)
      (pss_cons (ps_set (i := 2) sc_Pairing_are_closed.nd rfl (Or.inr rfl) (pe_dcN hr rfl (pv 1) rfl rfl))
      (pss_one (ps_ret (pe_callB (cr_all rfl) (by rfl) T.fAll (by decide +kernel) (pa_cons (pe_lock (pe_lc2 (own := [("spot", 3), ("letter", 4)]) (vs1 := [4]) (g := gName 3) (g1 := gName 4) (tt := tYes) (tt1 := tYes) rfl sc_Pairing_are_closed.nd (pi_keysN (pv 2)) (blkOk_by (N := N_Pairing_are_closed) (sc := defScope s_Pairing_are_closed) (by decide +kernel)) (by decide) (fun _ _ _ _ _ => pg_name (i := 3) sc_Pairing_are_closed.nd rfl (Or.inl rfl)) (fun _ _ _ _ _ => pts_nil) (fun _ _ _ _ _ => (pi_str (pe_pl c_Machine_letters hr (pe_sf T.cl_Pairing T.k_Pairing_keeper (pv 0))))) (fun _ _ _ _ _ => pg_name (i := 4) sc_Pairing_are_closed.nd rfl (Or.inl rfl)) (fun _ _ _ _ _ => pts_nil) (fun _ _ _ _ _ => (pe_cmpR (show OpR _ _ (rInN P w K false) from (op_inN hr)) (pe_ml c_Pairing_after hr (pv 0) (pa_cons (pv 3) (pa_cons (pv 4) pa_nil))) (pv 2) rfl)))) pa_nil)))))), ?_⟩
  obtain ⟨S, ss, l, vs, hp, ok, rfl, hl, hss, hn, hf, hq⟩ := h
  have hp0 := hp
  obtain ⟨x, dx, k, q, m, c, rfl, hs, hk, hq1, hm, hc⟩ := hp
  have hcl : closed S ss = ((ss.all (isSpot S) && decide (first S ∈ ss)) && ss.all fun s => S.L.all fun c => decide (next S s c ∈ ss)) := rfl
  rw [hcl] at hq
  refine ⟨_, rfl, _, rfl, ⟨_, hl⟩, fun D hD => lc_seq K walk_list (SpotAt K) ss (isSpot S) (by omega) hD (fun H h => SqL.same h hl) hss ?_ ?_⟩
  · intro v s0 Hc Yes hs0 hv e hy
    exact ⟨_, rfl, _, _, _, rfl, Slt.same e hs, _, rfl, S, s0, hp0.same e, ok, hv.same e, hf s0 hs0, hy⟩
  intro H1 e1 hD1
  refine ⟨D, _, rfl, .inl (.inl hD1), ?_⟩
  rw [all_map]
  cases ha : ss.all (isSpot S) with
  | false =>
    rw [ha] at hq
    exact ⟨_, rfl, iteT (hq H1 e1)⟩
  | true =>
    rw [ha] at hq
    refine ⟨_, rfl, iteF ⟨_, rfl, _, _, _, rfl, Slt.same e1 hs, S, hp0.same e1, ok, fun v H2 e2 sp => ?_⟩⟩
    have e12 := e1.trans e2
    refine ⟨_, rfl, sd (first S), dds ss false, sp.dp, .lst (SqL.same e12 hl) (Spots.dp (Spots.mono (TS.of e12) hss)), shaped_sd _, shaped_dds _ _, _, rfl, ?_⟩
    rw [any_sd]
    by_cases hfi : first S ∈ ss
    · rw [decide_eq_true hfi] at hq ⊢
      refine iteF ?_
      obtain ⟨xs, hx1, hx2⟩ := items_of (Spots.mono (TS.of e12) hss)
      have hxl : xs.length = ss.length := by rw [← hx2, List.length_map]
      refine ⟨_, rfl, l, vs, xs, rfl, SqL.same e12 hl, hx1, by omega, fun d ys hd ded => ?_⟩
      refine ⟨d, _, upd_same, trivial, fun od => ⟨_, rfl, d, od, ys, rfl, upd_same, fun D2 hD2 => ?_⟩⟩
      have eL : Same H2 (upd (upd H2 d (DNO P w d ys)) d (.frz od (DNO P w d ys))) := Same.put (Same.new hd) hd
      have hyl := ded.len
      have hko : KeysOk K H2 ys := ded.ok fun z hz => by
        obtain ⟨v, ev, _, sp⟩ := paired_mem hx1 hz
        rw [← ev]; exact sp
      refine lc2_bl walk_n ys S.L (fun y c => decide (next S y.1 c ∈ ys.map (·.1))) rfl (by omega) (by have := menu_len ok.L; omega) hD2 (fun H h => h _ _ upd_same) (fun _ => rfl) ?_ ?_ ?_
      · intro v Hc R e hR
        have e3 := (e12.trans eL).trans e
        have hk3 := hk.same e3
        obtain ⟨xk, dxk, rk, rfl, hsk, hrk⟩ := hk
        exact ⟨_, rfl, _, _, _, _, rfl, Slt.same e3 hs, rfl, _, _, _, rfl, Slt.same e3 hsk, S.L, S.R1, hk3, _, rfl, hR⟩
      · intro i y v c Hc Yes hy hv hc e hyes
        obtain ⟨t, ht, rfl⟩ := hv
        rw [hy] at ht
        cases Option.some.inj ht
        have e3 := (e12.trans eL).trans e
        have hym := List.mem_of_getElem? hy
        have hys : y.1 ∈ ss := by rw [← hx2]; exact (ded.keys y.1).mp (List.mem_map.mpr ⟨y, hym, rfl⟩)
        refine ⟨_, rfl, _, _, _, rfl, Slt.same e3 hs, _, rfl, _, rfl, S, y.1, c, hp0.same e3, ok, (hko.1 y hym).same (eL.trans e), List.all_eq_true.mp ha _ hys, rfl, hc, fun v2 H4 e4 sp4 => ?_⟩
        obtain ⟨a4, ea4⟩ : ∃ a4, v2 = .ref a4 := let ⟨a4, _, _, ea, _⟩ := sp4; ⟨a4, ea⟩
        subst ea4
        exact ⟨_, rfl, a4, d, next S y.1 c, ys, rfl, rfl, sp4, ⟨.inr ⟨od, e4 _ _ (e _ _ upd_same)⟩, hko.mono (TS.of ((eL.trans e).trans e4))⟩, hyes H4 e4⟩
      · intro H4 e4 hD4
        have ne : D2 ≠ d := fun z => by subst z; rw [upd_same] at hD2; cases hD2
        refine ⟨e4 _ _ upd_same, D2, _, rfl, .inl (.inl (by rw [upd_ne ne]; exact hD4)), ?_⟩
        rw [all_flat, all_keys ded hx2]
        have := hq _ (e12.trans (Same.put (o := DNO P w d ys) (eL.trans e4) hd))
        simp only [Bool.and_self, Bool.true_and] at this
        exact this
    · rw [decide_eq_false hfi] at hq ⊢
      exact iteT (hq H2 e12)

theorem spotOf_take {S : Plan} {v : Tx} {i : Nat} {c : Nat} (h : v[i]? = some c) : (v.take (i + 1)).foldl (next S) (first S) = next S ((v.take i).foldl (next S) (first S)) c := by
  rw [List.take_succ, h, List.foldl_append]
  rfl
theorem isSpot_fold {S : Plan} (ok : OkPlan S) : ∀ (v : Tx) (s : Spot), isSpot S s = true → (∀ c ∈ v, c ∈ S.L) → isSpot S (v.foldl (next S) s) = true
  | [], s, h, _ => h
  | c :: v, s, h, hv => isSpot_fold ok v (next S s c) (isSpot_next ok h (hv c (by simp))) fun d hd => hv d (List.mem_cons_of_mem _ hd)

def p_Pairing_spot_of (K : PySem.W.Frag) (a : Ad) (self x : V) (H : Hp) (Q : VK) : Prop := ∃ S v, PairAt K a H self S ∧ OkPlan S ∧ x = .str (tx v) ∧ (∀ c ∈ v, c ∈ S.L) ∧ ∀ z H', Same H H' → SpotAt K H' z (spotOf S v) → isSpot S (spotOf S v) = true → Q z H'
abbrev N_Pairing_spot_of : List Str := ["self", "value", "spot", "letter"]
theorem sc_Pairing_spot_of : FnScope N_Pairing_spot_of ["self", "value"] (defScope s_Pairing_spot_of) := ⟨rfl, rfl, rfl, by decide +kernel, rfl, by decide +kernel, by decide +kernel⟩
theorem ok_Pairing_spot_of {fa : Addr} {fd : FuncData} (T : Txt K mg a) (F : FnP K "spot_of" "Pairing.spot_of" s_Pairing_spot_of fa fd) (c_Pairing_first : Ml P w K mg base 3 a.cP "first" (sq1 (p_Pairing_first K a))) (c_Pairing_after : Ml P w K mg base 3 a.cP "after" (sq3 (p_Pairing_after K a))) : FnR P w K mg base CX0 4 fa (ofSq (sq2 (p_Pairing_spot_of K a))) := by
  refine fnr_of F (fun _ _ _ _ _ _ us hl => match us, hl with | [_, _], _ => rfl) sc_Pairing_spot_of (fun vs H Q h => sq2_len h) fun vs H Q h cdv A outer s hr => ?_
  obtain ⟨v_self, v_value, rfl, h⟩ := sq2_inv h
  refine ⟨_, (pss_cons (ps_set (i := 2) sc_Pairing_spot_of.nd rfl (Or.inl rfl) (pe_ml0 c_Pairing_first hr (pv 0)))
      (pss_cons (ps_for PassesOwn.never rfl (pi_str (pv 1)) (pg_name (i := 3) sc_Pairing_spot_of.nd rfl (Or.inl rfl)) (pss_one (ps_set (i := 2) sc_Pairing_spot_of.nd rfl (Or.inl rfl) (pe_ml c_Pairing_after hr (pv 0) (pa_cons (pv 2) (pa_cons (pv 3) pa_nil))))))
      (pss_one (ps_ret (pv 2))))), ?_⟩
  obtain ⟨S, v, hp, ok, rfl, hv, hq⟩ := h
  have hp0 := hp
  obtain ⟨x, dx, k, q, m, c, rfl, hs, hk, hq1, hm, hc⟩ := hp
  refine ⟨_, rfl, _, _, _, rfl, hs, S, hp0, ok, fun v1 H1 e1 sp1 => ?_⟩
  refine ⟨_, rfl, _, rfl, for_it (walk_str (z := tx v)) (fun i σ H' => Same H H' ∧ ∃ z y, σ = [some (V.ref x), some (.str (tx v)), some z, y] ∧ SpotAt K H' z ((v.take i).foldl (next S) (first S))) ⟨e1, _, _, rfl, by simpa using sp1⟩ (fun _ _ _ _ _ => trivial) ?_ ?_⟩
  · rintro i y σ H2 H' hi ⟨e, z, y0, rfl, sp⟩ ⟨rfl, c2, hc2, rfl⟩
    have hc3 : v[i]? = some c2 := by simpa [tx] using hc2
    have hsp : isSpot S ((v.take i).foldl (next S) (first S)) = true := isSpot_fold ok _ _ (isSpot_first ok) fun c hc => hv c (List.mem_of_mem_take hc)
    refine ⟨_, rfl, _, _, _, rfl, Slt.same e hs, _, rfl, _, rfl, S, _, c2, hp0.same e, ok, sp, hsp, rfl, hv c2 (List.mem_of_getElem? hc3), fun z2 H3 e3 sp3 => ⟨e.trans e3, z2, _, rfl, ?_⟩⟩
    rw [spotOf_take hc3]
    exact sp3
  · rintro σ H2 ⟨e, z, y0, rfl, sp⟩
    have hz : v.take (tx v).cps.size = v := by simp [tx]
    rw [hz] at sp
    exact ⟨_, rfl, hq z H2 e sp (isSpot_fold ok _ _ (isSpot_first ok) hv)⟩
end K5

set_option Elab.async false
set_option linter.all false
set_option maxRecDepth 100000
set_option maxHeartbeats 4000000
/-! looks.py, part three: the answers. -/
namespace K5
open PySem PySem.Spec PyProof.Rows L2
variable {P : Program} {w : World} {K : PySem.W.Frag} {mg : Str → Option Value} {base : Heap} {a : Ad}

def ExRaw (K : PySem.W.Frag) (a : Ad) (H : Hp) (v : V) (vs : List V) : Prop := ∃ o dx l, v = .ref o ∧ SlX.Slt H o a.cE dx [some (.ref l)] ∧ SqL K H l vs
/-- .. whose list is newer than H0 -/
def ExRawB (K : PySem.W.Frag) (a : Ad) (H0 H : Hp) (v : V) (vs : List V) : Prop := ∃ o dx l, v = .ref o ∧ SlX.Slt H o a.cE dx [some (.ref l)] ∧ H l = some (.lst vs) ∧ H0 l = none
def MoRawB (K : PySem.W.Frag) (a : Ad) (H0 H : Hp) (v : V) (vs : List V) (u : V) : Prop := ∃ o dx l, v = .ref o ∧ SlX.Slt H o a.cO dx [some (.ref l), some u] ∧ H l = some (.lst vs) ∧ H0 l = none
def MoRaw (K : PySem.W.Frag) (a : Ad) (H : Hp) (v : V) (vs : List V) (u : V) : Prop := ∃ o dx l, v = .ref o ∧ SlX.Slt H o a.cO dx [some (.ref l), some u] ∧ SqL K H l vs
def MiRaw (K : PySem.W.Frag) (a : Ad) (H : Hp) (v : V) (u : V) : Prop := ∃ o dx, v = .ref o ∧ SlX.Slt H o a.cS dx [some u]
theorem ExRaw.same {H H' : Hp} {v : V} {vs : List V} (e : Same H H') (h : ExRaw K a H v vs) : ExRaw K a H' v vs := let ⟨o, dx, l, ev, hs, hl⟩ := h; ⟨o, dx, l, ev, Slt.same e hs, SqL.same e hl⟩
theorem MoRaw.same {H H' : Hp} {v u : V} {vs : List V} (e : Same H H') (h : MoRaw K a H v vs u) : MoRaw K a H' v vs u := let ⟨o, dx, l, ev, hs, hl⟩ := h; ⟨o, dx, l, ev, Slt.same e hs, SqL.same e hl⟩
theorem ExRawB.same {H0 H H' : Hp} {v : V} {vs : List V} (e : Same H H') (h : ExRawB K a H0 H v vs) : ExRawB K a H0 H' v vs := let ⟨o, dx, l, ev, hs, hl, h0⟩ := h; ⟨o, dx, l, ev, Slt.same e hs, e _ _ hl, h0⟩
theorem MoRawB.same {H0 H H' : Hp} {v u : V} {vs : List V} (e : Same H H') (h : MoRawB K a H0 H v vs u) : MoRawB K a H0 H' v vs u := let ⟨o, dx, l, ev, hs, hl, h0⟩ := h; ⟨o, dx, l, ev, Slt.same e hs, e _ _ hl, h0⟩
theorem Slt.put {H : Hp} {o C dx lg : Addr} {x : Option V} {vs : List (Option V)} {gs gs' : List V} (h : SlX.Slt H o C dx (x :: vs)) (hg : H lg = some (.lst gs)) : SlX.Slt (upd H lg (.lst gs')) o C dx (x :: vs) := by
  rcases h with ⟨_, h⟩ | ⟨h1, h2⟩
  · cases h
  · have n1 : o ≠ lg := fun z => by subst z; rw [hg] at h1; unfold SlX.SlO at h1; cases h1
    have n2 : dx ≠ lg := fun z => by subst z; rw [hg] at h2; cases h2
    exact .inr ⟨by rw [upd_ne n1]; exact h1, by rw [upd_ne n2]; exact h2⟩
/-- an elder list is changed -/
theorem ExRawB.put {H0 H : Hp} {v : V} {vs gs gs' : List V} {lg : Addr} (h : ExRawB K a H0 H v vs) (h0 : H0 lg = some (.lst gs)) (hg : H lg = some (.lst gs)) : ExRaw K a (upd H lg (.lst gs')) v vs := by
  obtain ⟨o, dx, l, ev, hs, hl, hn⟩ := h
  have n : l ≠ lg := fun z => by subst z; rw [h0] at hn; cases hn
  exact ⟨o, dx, l, ev, Slt.put hs hg, .inl (.inl (by rw [upd_ne n]; exact hl))⟩
theorem MoRawB.put {H0 H : Hp} {v u : V} {vs gs gs' : List V} {lg : Addr} (h : MoRawB K a H0 H v vs u) (h0 : H0 lg = some (.lst gs)) (hg : H lg = some (.lst gs)) : MoRaw K a (upd H lg (.lst gs')) v vs u := by
  obtain ⟨o, dx, l, ev, hs, hl, hn⟩ := h
  have n : l ≠ lg := fun z => by subst z; rw [h0] at hn; cases hn
  exact ⟨o, dx, l, ev, Slt.put hs hg, .inl (.inl (by rw [upd_ne n]; exact hl))⟩
theorem ExRawB.raw {H0 H : Hp} {v : V} {vs : List V} (h : ExRawB K a H0 H v vs) : ExRaw K a H v vs := let ⟨o, dx, l, ev, hs, hl, _⟩ := h; ⟨o, dx, l, ev, hs, .inl (.inl hl)⟩
theorem MoRawB.raw {H0 H : Hp} {v u : V} {vs : List V} (h : MoRawB K a H0 H v vs u) : MoRaw K a H v vs u := let ⟨o, dx, l, ev, hs, hl, _⟩ := h; ⟨o, dx, l, ev, hs, .inl (.inl hl)⟩
theorem MiRaw.same {H H' : Hp} {v u : V} (e : Same H H') (h : MiRaw K a H v u) : MiRaw K a H' v u := let ⟨o, dx, ev, hs⟩ := h; ⟨o, dx, ev, Slt.same e hs⟩
theorem MiRaw.put {H : Hp} {v u : V} {gs gs' : List V} {lg : Addr} (h : MiRaw K a H v u) (hg : H lg = some (.lst gs)) : MiRaw K a (upd H lg (.lst gs')) v u := let ⟨o, dx, ev, hs⟩ := h; ⟨o, dx, ev, Slt.put hs hg⟩

def p_Exact_init (K : PySem.W.Frag) (a : Ad) (self x : V) (H : Hp) (Q : VK) : Prop := ∃ o dx l vs, self = .ref o ∧ H o = some (.ins a.cE dx []) ∧ H dx = some (.own o) ∧ dx ≠ o ∧ x = .ref l ∧ SqL K H l vs ∧ ∀ H', SB H H' o dx → ExRawB K a H H' (.ref o) vs → Q .non H'
abbrev N_Exact_init : List Str := ["self", "spots"]
theorem sc_Exact_init : FnScope N_Exact_init ["self", "spots"] (defScope s_Exact_init) := ⟨rfl, rfl, rfl, by decide +kernel, rfl, by decide +kernel, by decide +kernel⟩
theorem ok_Exact_init {fa : Addr} {fd : FuncData} (T : Txt K mg a) (F : FnP K "__init__" "Exact.__init__" s_Exact_init fa fd) : FnOk P w K mg base CX0 1 fa fd ["self", "spots"] (ofSq (sq2 (p_Exact_init K a))) := by
  refine fn_of_body F sc_Exact_init (fun vs H Q h => sq2_len h) fun vs H Q h cdv A outer s hr => ?_
  obtain ⟨v_self, v_spots, rfl, h⟩ := sq2_inv h
  refine ⟨_, (pss_one (ps_sf T.cl_Exact T.k_Exact_spots (pv 0) (pe_callTy call_list_of (by rfl) T.fList (by decide +kernel) (pa_cons (pv 1) pa_nil)))), ?_⟩
  obtain ⟨o, dx, l, vs, rfl, ho, hd, hne, rfl, hl, hq⟩ := h
  refine ⟨_, rfl, l, vs, rfl, .inl hl, fun l' hl' => ?_⟩
  have e1 : Same H (upd H l' (.lst vs)) := Same.new hl'
  have n1 : l' ≠ o := fun z => by subst z; rw [ho] at hl'; cases hl'
  have n2 : l' ≠ dx := fun z => by subst z; rw [hd] at hl'; cases hl'
  refine ⟨_, rfl, o, dx, _, rfl, .inl ⟨e1 _ _ ho, rfl⟩, ?_⟩
  exact hq _ (fun b u h1 h2 h => sb_sl b u h1 h2 (e1 _ _ h)) ⟨o, dx, l', rfl, SlX.slH_slt hne, by rw [SlX.slH_ne n1 n2, upd_same], hl'⟩

def p_More_init (K : PySem.W.Frag) (a : Ad) (self x y : V) (H : Hp) (Q : VK) : Prop := ∃ o dx l vs, self = .ref o ∧ H o = some (.ins a.cO dx []) ∧ H dx = some (.own o) ∧ dx ≠ o ∧ x = .ref l ∧ SqL K H l vs ∧ ∀ H', SB H H' o dx → MoRawB K a H H' (.ref o) vs y → Q .non H'
abbrev N_More_init : List Str := ["self", "spots", "value"]
theorem sc_More_init : FnScope N_More_init ["self", "spots", "value"] (defScope s_More_init) := ⟨rfl, rfl, rfl, by decide +kernel, rfl, by decide +kernel, by decide +kernel⟩
theorem ok_More_init {fa : Addr} {fd : FuncData} (T : Txt K mg a) (F : FnP K "__init__" "More.__init__" s_More_init fa fd) : FnOk P w K mg base CX0 1 fa fd ["self", "spots", "value"] (ofSq (sq3 (p_More_init K a))) := by
  refine fn_of_body F sc_More_init (fun vs H Q h => sq3_len h) fun vs H Q h cdv A outer s hr => ?_
  obtain ⟨v_self, v_spots, v_value, rfl, h⟩ := sq3_inv h
  refine ⟨_, (pss_cons (ps_sf T.cl_More T.k_More_spots (pv 0) (pe_callTy call_list_of (by rfl) T.fList (by decide +kernel) (pa_cons (pv 1) pa_nil)))
      (pss_one (ps_sf T.cl_More T.k_More_value (pv 0) (pv 2)))), ?_⟩
  obtain ⟨o, dx, l, vs, rfl, ho, hd, hne, rfl, hl, hq⟩ := h
  refine ⟨_, rfl, l, vs, rfl, .inl hl, fun l' hl' => ?_⟩
  have e1 : Same H (upd H l' (.lst vs)) := Same.new hl'
  have n1 : l' ≠ o := fun z => by subst z; rw [ho] at hl'; cases hl'
  have n2 : l' ≠ dx := fun z => by subst z; rw [hd] at hl'; cases hl'
  refine ⟨_, rfl, o, dx, _, rfl, .inl ⟨e1 _ _ ho, rfl⟩, ?_⟩
  refine ⟨_, rfl, _, rfl, o, dx, _, rfl, SlX.slH_slt hne, ?_⟩
  rw [SlX.slH_twice hne]
  exact hq _ (fun b u h1 h2 h => sb_sl b u h1 h2 (e1 _ _ h)) ⟨o, dx, l', rfl, SlX.slH_slt hne, by rw [SlX.slH_ne n1 n2, upd_same], hl'⟩

def p_Misses_init (K : PySem.W.Frag) (a : Ad) (self x : V) (H : Hp) (Q : VK) : Prop := ∃ o dx, self = .ref o ∧ H o = some (.ins a.cS dx []) ∧ H dx = some (.own o) ∧ dx ≠ o ∧ ∀ H', SB H H' o dx → MiRaw K a H' (.ref o) x → Q .non H'
abbrev N_Misses_init : List Str := ["self", "value"]
theorem sc_Misses_init : FnScope N_Misses_init ["self", "value"] (defScope s_Misses_init) := ⟨rfl, rfl, rfl, by decide +kernel, rfl, by decide +kernel, by decide +kernel⟩
theorem ok_Misses_init {fa : Addr} {fd : FuncData} (T : Txt K mg a) (F : FnP K "__init__" "Misses.__init__" s_Misses_init fa fd) : FnOk P w K mg base CX0 1 fa fd ["self", "value"] (ofSq (sq2 (p_Misses_init K a))) := by
  refine fn_of_body F sc_Misses_init (fun vs H Q h => sq2_len h) fun vs H Q h cdv A outer s hr => ?_
  obtain ⟨v_self, v_value, rfl, h⟩ := sq2_inv h
  refine ⟨_, (pss_one (ps_sf T.cl_Misses T.k_Misses_value (pv 0) (pv 1))), ?_⟩
  obtain ⟨o, dx, rfl, ho, hd, hne, hq⟩ := h
  refine ⟨_, rfl, _, rfl, o, dx, _, rfl, .inl ⟨ho, rfl⟩, ?_⟩
  exact hq _ sb_sl ⟨o, dx, rfl, SlX.slH_slt hne⟩

def p_Exact_eq (K : PySem.W.Frag) (a : Ad) (self x : V) (H : Hp) (Q : VK) : Prop := ∃ vs ds, ExRaw K a H self vs ∧ DpAll K H vs ds ∧ SeqAt.shaped (.list ds) = true ∧
  ((∃ ws es, ExRaw K a H x ws ∧ DpAll K H ws es ∧ SeqAt.shaped (.list es) = true ∧ Q (.bl (PyData.eqvAll ds es)) H) ∨ ∃ ws u, MoRaw K a H x ws u ∧ Q (.bl false) H)
abbrev N_Exact_eq : List Str := ["self", "other"]
theorem sc_Exact_eq : FnScope N_Exact_eq ["self", "other"] (defScope s_Exact_eq) := ⟨rfl, rfl, rfl, by decide +kernel, rfl, by decide +kernel, by decide +kernel⟩
theorem ok_Exact_eq {fa : Addr} {fd : FuncData} (T : Txt K mg a) (F : FnP K "__eq__" "Exact.__eq__" s_Exact_eq fa fd) : FnR P w K mg base CX0 1 fa (ofSq (sq2 (p_Exact_eq K a))) := by
  refine fnr_of F (fun _ _ _ _ _ _ us hl => match us, hl with | [_, _], _ => rfl) sc_Exact_eq (fun vs H Q h => sq2_len h) fun vs H Q h cdv A outer s hr => ?_
  obtain ⟨v_self, v_other, rfl, h⟩ := sq2_inv h
  refine ⟨_, (pss_one (ps_ret (pe_and (pe_callB (SlX.call_isiSl (.ref a.cE)) (by rfl) T.fIsi (by decide +kernel) (pa_cons (pv 1) (pa_cons (pe_gc rfl T.g_Exact) pa_nil))) (pe_one (pe_cmpR (op_eqD hr.units) (pe_sf T.cl_Exact T.k_Exact_spots (pv 0)) (pe_sf T.cl_Exact T.k_Exact_spots (pv 1)) rfl))))), ?_⟩
  obtain ⟨vs, ds, ⟨o, dx, l, rfl, hs, hl⟩, hd, hsh, ⟨ws, es, ⟨o2, dx2, l2, rfl, hs2, hl2⟩, hd2, hsh2, hq⟩ | ⟨ws, u, ⟨o2, dx2, l2, rfl, hs2, hl2⟩, hq⟩⟩ := h
  · refine ⟨_, rfl, _, _, _, _, _, _, rfl, rfl, fun w h => h, hs2, T.cl_Exact, T.si_Exact, T.i_EE, true, rfl, iteT ?_⟩
    refine ⟨_, rfl, _, _, _, _, rfl, hs, rfl, _, rfl, _, _, _, _, rfl, hs2, rfl, _, _, .lst hl hd, .lst hl2 hd2, hsh, hsh2, ?_⟩
    rw [PyData.eqv]
    exact hq
  · exact ⟨_, rfl, _, _, _, _, _, _, rfl, rfl, fun w h => h, hs2, T.cl_More, T.si_More, T.i_OE, false, rfl, iteF hq⟩

def p_More_eq (K : PySem.W.Frag) (a : Ad) (self x : V) (H : Hp) (Q : VK) : Prop := ∃ vs ds ws es v u, MoRaw K a H self vs (.str v) ∧ DpAll K H vs ds ∧ SeqAt.shaped (.list ds) = true ∧
  MoRaw K a H x ws (.str u) ∧ DpAll K H ws es ∧ SeqAt.shaped (.list es) = true ∧ Q (.bl (PyData.eqvAll ds es && decide (V.str v = V.str u))) H
abbrev N_More_eq : List Str := ["self", "other"]
theorem sc_More_eq : FnScope N_More_eq ["self", "other"] (defScope s_More_eq) := ⟨rfl, rfl, rfl, by decide +kernel, rfl, by decide +kernel, by decide +kernel⟩
theorem ok_More_eq {fa : Addr} {fd : FuncData} (T : Txt K mg a) (F : FnP K "__eq__" "More.__eq__" s_More_eq fa fd) : FnR P w K mg base CX0 1 fa (ofSq (sq2 (p_More_eq K a))) := by
  refine fnr_of F (fun _ _ _ _ _ _ us hl => match us, hl with | [_, _], _ => rfl) sc_More_eq (fun vs H Q h => sq2_len h) fun vs H Q h cdv A outer s hr => ?_
  obtain ⟨v_self, v_other, rfl, h⟩ := sq2_inv h
  refine ⟨_, (pss_one (ps_ret (pe_and (pe_callB (SlX.call_isiSl (.ref a.cO)) (by rfl) T.fIsi (by decide +kernel) (pa_cons (pv 1) (pa_cons (pe_gc rfl T.g_More) pa_nil))) (pe_and (pe_cmpR (op_eqD hr.units) (pe_sf T.cl_More T.k_More_spots (pv 0)) (pe_sf T.cl_More T.k_More_spots (pv 1)) rfl) (pe_one (pe_cmpR op_eq (pe_sf T.cl_More T.k_More_value (pv 0)) (pe_sf T.cl_More T.k_More_value (pv 1)) rfl)))))), ?_⟩
  obtain ⟨vs, ds, ws, es, v, u, ⟨o, dx, l, rfl, hs, hl⟩, hd, hsh, ⟨o2, dx2, l2, rfl, hs2, hl2⟩, hd2, hsh2, hq⟩ := h
  refine ⟨_, rfl, _, _, _, _, _, _, rfl, rfl, fun w h => h, hs2, T.cl_More, T.si_More, T.i_OO, true, rfl, iteT ?_⟩
  refine ⟨_, rfl, _, _, _, _, rfl, hs, rfl, _, rfl, _, _, _, _, rfl, hs2, rfl, _, _, .lst hl hd, .lst hl2 hd2, hsh, hsh2, _, rfl, ?_⟩
  rw [PyData.eqv]
  cases hb : PyData.eqvAll ds es with
  | false => rw [hb] at hq; exact iteF hq
  | true =>
    rw [hb] at hq
    exact iteT ⟨_, rfl, _, _, _, _, rfl, hs, rfl, _, rfl, _, _, _, _, rfl, hs2, rfl, rfl, hq⟩

def p_Misses_eq (K : PySem.W.Frag) (a : Ad) (self x : V) (H : Hp) (Q : VK) : Prop := ∃ v, MiRaw K a H self (.str v) ∧ ((∃ u, MiRaw K a H x (.str u) ∧ Q (.bl (decide (V.str v = V.str u))) H) ∨ ∃ ws u, MoRaw K a H x ws u ∧ Q (.bl false) H)
abbrev N_Misses_eq : List Str := ["self", "other"]
theorem sc_Misses_eq : FnScope N_Misses_eq ["self", "other"] (defScope s_Misses_eq) := ⟨rfl, rfl, rfl, by decide +kernel, rfl, by decide +kernel, by decide +kernel⟩
theorem ok_Misses_eq {fa : Addr} {fd : FuncData} (T : Txt K mg a) (F : FnP K "__eq__" "Misses.__eq__" s_Misses_eq fa fd) : FnR P w K mg base CX0 1 fa (ofSq (sq2 (p_Misses_eq K a))) := by
  refine fnr_of F (fun _ _ _ _ _ _ us hl => match us, hl with | [_, _], _ => rfl) sc_Misses_eq (fun vs H Q h => sq2_len h) fun vs H Q h cdv A outer s hr => ?_
  obtain ⟨v_self, v_other, rfl, h⟩ := sq2_inv h
  refine ⟨_, (pss_one (ps_ret (pe_and (pe_callB (SlX.call_isiSl (.ref a.cS)) (by rfl) T.fIsi (by decide +kernel) (pa_cons (pv 1) (pa_cons (pe_gc rfl T.g_Misses) pa_nil))) (pe_one (pe_cmpR op_eq (pe_sf T.cl_Misses T.k_Misses_value (pv 0)) (pe_sf T.cl_Misses T.k_Misses_value (pv 1)) rfl))))), ?_⟩
  obtain ⟨v, ⟨o, dx, rfl, hs⟩, ⟨u, ⟨o2, dx2, rfl, hs2⟩, hq⟩ | ⟨ws, u, ⟨o2, dx2, l2, rfl, hs2, hl2⟩, hq⟩⟩ := h
  · refine ⟨_, rfl, _, _, _, _, _, _, rfl, rfl, fun w h => h, hs2, T.cl_Misses, T.si_Misses, T.i_SS, true, rfl, iteT ?_⟩
    exact ⟨_, rfl, _, _, _, _, rfl, hs, rfl, _, rfl, _, _, _, _, rfl, hs2, rfl, rfl, hq⟩
  · exact ⟨_, rfl, _, _, _, _, _, _, rfl, rfl, fun w h => h, hs2, T.cl_More, T.si_More, T.i_OS, false, rfl, iteF hq⟩

theorem dec_bl (x y : Bool) : decide (V.bl x = V.bl y) = (x == y) := by cases x <;> cases y <;> decide
/-- the plan's parts, as the arguments of shows -/
structure Args (K : PySem.W.Frag) (a : Ad) (H : Hp) (i q m c : V) (S : Plan) : Prop where
  i : MachAt K a.cM H i S.L S.R1
  q : CondAt K H q S.q
  m : MachAt K a.cM H m S.L S.R2
  c : CondAt K H c S.c
  ok : OkPlan S
theorem Args.same {H H' : Hp} {i q m c : V} {S : Plan} (e : Same H H') (h : Args K a H i q m c S) : Args K a H' i q m c S := ⟨h.i.same e, h.q.same e, h.m.same e, h.c.same e, h.ok⟩

def p_Exact_shows (K : PySem.W.Frag) (a : Ad) (self i q m c : V) (H : Hp) (Q : VK) : Prop := ∃ S vs ss, ExRaw K a H self vs ∧ Spots K H vs ss ∧ ss.length ≤ 300 ∧ (∀ s ∈ ss, fitsSpot S s) ∧ Args K a H i q m c S ∧ ∀ H', Same H H' → Q (.bl (exactShows S ss)) H'
abbrev N_Exact_shows : List Str := ["self", "index", "question", "machine", "condition", "pairing", "spot"]
theorem sc_Exact_shows : FnScope N_Exact_shows ["self", "index", "question", "machine", "condition"] (defScope s_Exact_shows) := ⟨rfl, rfl, rfl, by decide +kernel, rfl, by decide +kernel, by decide +kernel⟩
theorem ok_Exact_shows {fa : Addr} {fd : FuncData} (T : Txt K mg a) (F : FnP K "shows" "Exact.shows" s_Exact_shows fa fd) (c_Pairing_init : Ck P w K mg base 5 "Pairing" a.cP (sq5 (p_Pairing_init K a))) (c_Pairing_are_closed : Ml P w K mg base 5 a.cP "are_closed" (sq2 (p_Pairing_are_closed K a))) (c_Pairing_is_found : Ml P w K mg base 2 a.cP "is_found" (sq2 (p_Pairing_is_found K a))) (c_Pairing_is_wished : Ml P w K mg base 2 a.cP "is_wished" (sq2 (p_Pairing_is_wished K a))) : FnR P w K mg base CX0 7 fa (ofSq (sq5 (p_Exact_shows K a))) := by
  refine fnr_of F (fun _ _ _ _ _ _ us hl => match us, hl with | [_, _, _, _, _], _ => rfl) sc_Exact_shows (fun vs H Q h => sq5_len h) fun vs H Q h cdv A outer s hr => ?_
  obtain ⟨v_self, v_index, v_question, v_machine, v_condition, rfl, h⟩ := sq5_inv h
  refine ⟨_, (pss_cons (ps_set (i := 5) sc_Exact_shows.nd rfl (Or.inr rfl) (pe_ck c_Pairing_init hr (pa_cons (pv 1) (pa_cons (pv 2) (pa_cons (pv 3) (pa_cons (pv 4) pa_nil))))))
      (pss_cons (ps_if (pt_not (pt_val (pe_ml c_Pairing_are_closed hr (pv 5) (pa_cons (pe_sf T.cl_Exact T.k_Exact_spots (pv 0)) pa_nil)) (fun _ => rfl))) (pss_one (ps_ret pe_bl)) pss_nil)
      (pss_one (ps_ret (pe_callB (cr_all rfl) (by rfl) T.fAll (by decide +kernel) (pa_cons (pe_lc (own := [("spot", 6)]) (g := gName 6) (tt := tYes) rfl sc_Exact_shows.nd (pi_list (pe_sf T.cl_Exact T.k_Exact_spots (pv 0))) (blkOk_by (own := [("spot", 6)]) (N := N_Exact_shows) (sc := defScope s_Exact_shows) (by decide +kernel)) (fun _ _ _ _ _ => pg_name (i := 6) sc_Exact_shows.nd rfl (Or.inl rfl)) (fun _ _ _ _ _ => pts_nil) (fun _ _ _ _ _ => (pe_cmpR op_eq (pe_ml c_Pairing_is_found hr (pv 5) (pa_cons (pv 6) pa_nil)) (pe_ml c_Pairing_is_wished hr (pv 5) (pa_cons (pv 6) pa_nil)) rfl))) pa_nil)))))), ?_⟩
  obtain ⟨S, vs, ss, ⟨o, dxo, l, rfl, hs, hl⟩, hss, hn, hf, A, hq⟩ := h
  refine ⟨_, rfl, _, rfl, _, rfl, _, rfl, fun x dx hx hdx hne => ?_⟩
  have e0 := made_same (C := a.cP) hx hdx
  have A0 := A.same e0
  refine ⟨x, dx, S, rfl, A0.i, A0.q, A0.m, A0.c, A.ok, (made_at hne).1, (made_at hne).2, hne, fun H1 sb pr => ⟨rfl, ?_⟩⟩
  have e1 : Same H H1 := sb.same hx hdx
  have ok := A.ok
  obtain ⟨xi, dxi, ri, eia, hsi, hri⟩ := A.i
  subst eia
  have hi0 : MachAt K a.cM H (.ref xi) S.L S.R1 := ⟨xi, dxi, ri, rfl, hsi, hri⟩
  have pr0 := pr
  obtain ⟨x', dx', k, q, m, c, ex, hsp, _⟩ := pr
  cases ex
  refine ⟨_, rfl, _, _, _, rfl, hsp, _, rfl, _, _, _, _, rfl, Slt.same e1 hs, rfl, S, ss, l, vs, pr0, ok, rfl, SqL.same e1 hl, Spots.mono (TS.of e1) hss, hn, hf, fun H2 e2 => ⟨_, rfl, ?_⟩⟩
  have e12 := e1.trans e2
  have hde : exactShows S ss = (closed S ss && ss.all fun s => found S s == wished S s) := rfl
  rw [hde] at hq
  cases hc : closed S ss with
  | false => rw [hc] at hq; exact iteT (hq H2 e12)
  | true =>
    rw [hc] at hq
    refine iteF ⟨_, rfl, _, _, _, _, rfl, Slt.same e12 hs, rfl, _, rfl, ⟨_, SqL.same e12 hl⟩, fun D hD => lc_seq K walk_list (SpotAt K) ss (fun s => found S s == wished S s) (by omega) hD (fun H h => SqL.same (e12.trans h) hl) (Spots.mono (TS.of e12) hss) ?_ ?_⟩
    · intro v s0 Hc Yes hs0 hv e hy
      refine ⟨_, rfl, _, _, _, rfl, Slt.same (e2.trans e) hsp, _, rfl, S, s0, pr0.same (e2.trans e), ok, hv.same e, (hf s0 hs0).1, fun H5 e5 => ?_⟩
      refine ⟨_, rfl, _, _, _, rfl, Slt.same ((e2.trans e).trans e5) hsp, _, rfl, S, s0, pr0.same ((e2.trans e).trans e5), ok, (hv.same e).same e5, (hf s0 hs0).2, fun H6 e6 => ⟨rfl, ?_⟩⟩
      rw [dec_bl]
      exact hy H6 (e5.trans e6)
    · intro H5 e5 hD5
      exact all_fin hD5 (hq H5 (e12.trans e5)) (by rw [all_map]; rfl)

def p_More_shows (K : PySem.W.Frag) (a : Ad) (self i q m c : V) (H : Hp) (Q : VK) : Prop := ∃ S vs ss v, MoRaw K a H self vs (.str (tx v)) ∧ v.length ≤ 100 ∧ Spots K H vs ss ∧ ss.length ≤ 300 ∧ (∀ s ∈ ss, fitsSpot S s) ∧ Args K a H i q m c S ∧ ∀ H', Same H H' → Q (.bl (moreShows S ss v)) H'
abbrev N_More_shows : List Str := ["self", "index", "question", "machine", "condition", "pairing", "spot", "one"]
theorem sc_More_shows : FnScope N_More_shows ["self", "index", "question", "machine", "condition"] (defScope s_More_shows) := ⟨rfl, rfl, rfl, by decide +kernel, rfl, by decide +kernel, by decide +kernel⟩
theorem ok_More_shows {fa : Addr} {fd : FuncData} (T : Txt K mg a) (F : FnP K "shows" "More.shows" s_More_shows fa fd) (c_Pairing_init : Ck P w K mg base 5 "Pairing" a.cP (sq5 (p_Pairing_init K a))) (c_is_value : Cl P w K mg base 1 "is_value" (sq2 (p_is_value K a))) (c_Machine_letters : Pl P w K mg base 1 a.cM "letters" (sq1 (p_Machine_letters K a))) (c_Pairing_are_closed : Ml P w K mg base 5 a.cP "are_closed" (sq2 (p_Pairing_are_closed K a))) (c_Pairing_spot_of : Ml P w K mg base 4 a.cP "spot_of" (sq2 (p_Pairing_spot_of K a))) (c_Pairing_is_found : Ml P w K mg base 2 a.cP "is_found" (sq2 (p_Pairing_is_found K a))) (c_Pairing_is_wished : Ml P w K mg base 2 a.cP "is_wished" (sq2 (p_Pairing_is_wished K a))) : FnR P w K mg base CX0 7 fa (ofSq (sq5 (p_More_shows K a))) := by
  refine fnr_of F (fun _ _ _ _ _ _ us hl => match us, hl with | [_, _, _, _, _], _ => rfl) sc_More_shows (fun vs H Q h => sq5_len h) fun vs H Q h cdv A outer s hr => ?_
  obtain ⟨v_self, v_index, v_question, v_machine, v_condition, rfl, h⟩ := sq5_inv h
  refine ⟨_, (pss_cons (ps_set (i := 5) sc_More_shows.nd rfl (Or.inr rfl) (pe_ck c_Pairing_init hr (pa_cons (pv 1) (pa_cons (pv 2) (pa_cons (pv 3) (pa_cons (pv 4) pa_nil))))))
      (pss_cons (ps_if (PW.pt (pw_or (pt_not (pt_val (pe_cl c_is_value hr (pa_cons (pe_pl c_Machine_letters hr (pv 1)) (pa_cons (pe_sf T.cl_More T.k_More_value (pv 0)) pa_nil))) (fun _ => rfl))) (pw_or1 (pt_not (pt_val (pe_ml c_Pairing_are_closed hr (pv 5) (pa_cons (pe_sf T.cl_More T.k_More_spots (pv 0)) pa_nil)) (fun _ => rfl)))))) (pss_one (ps_ret pe_bl)) pss_nil)
      (pss_cons (ps_set (i := 6) sc_More_shows.nd rfl (Or.inl rfl) (pe_ml c_Pairing_spot_of hr (pv 5) (pa_cons (pe_sf T.cl_More T.k_More_value (pv 0)) pa_nil)))
      (pss_cons (ps_if (PW.pt (pw_or (pt_not (pt_val (pe_ml c_Pairing_is_found hr (pv 5) (pa_cons (pv 6) pa_nil)) (fun _ => rfl))) (pw_or1 (pt_val (pe_ml c_Pairing_is_wished hr (pv 5) (pa_cons (pv 6) pa_nil)) (fun _ => rfl))))) (pss_one (ps_ret pe_bl)) pss_nil)
      (pss_one (ps_ret (pe_callB (cr_all rfl) (by rfl) T.fAll (by decide +kernel) (pa_cons (pe_lc (own := [("one", 7)]) (g := gName 7) (tt := tYes) rfl sc_More_shows.nd (pi_list (pe_sf T.cl_More T.k_More_spots (pv 0))) (blkOk_by (own := [("one", 7)]) (N := N_More_shows) (sc := defScope s_More_shows) (by decide +kernel)) (fun _ _ _ _ _ => pg_name (i := 7) sc_More_shows.nd rfl (Or.inl rfl)) (fun _ _ _ _ _ => pts_nil) (fun _ _ _ _ _ => (pe_or (pe_ml c_Pairing_is_found hr (pv 5) (pa_cons (pv 7) pa_nil)) (pe_one (pe_not (pe_ml c_Pairing_is_wished hr (pv 5) (pa_cons (pv 7) pa_nil))))))) pa_nil)))))))), ?_⟩
  obtain ⟨S, vs, ss, v, ⟨o, dxo, l, rfl, hs, hl⟩, hv, hss, hn, hf, A, hq⟩ := h
  refine ⟨_, rfl, _, rfl, _, rfl, _, rfl, fun x dx hx hdx hne => ?_⟩
  have e0 := made_same (C := a.cP) hx hdx
  have A0 := A.same e0
  refine ⟨x, dx, S, rfl, A0.i, A0.q, A0.m, A0.c, A.ok, (made_at hne).1, (made_at hne).2, hne, fun H1 sb pr => ⟨rfl, ?_⟩⟩
  have e1 : Same H H1 := sb.same hx hdx
  have ok := A.ok
  obtain ⟨xi, dxi, ri, eia, hsi, hri⟩ := A.i
  subst eia
  have hi0 : MachAt K a.cM H (.ref xi) S.L S.R1 := ⟨xi, dxi, ri, rfl, hsi, hri⟩
  have pr0 := pr
  obtain ⟨x', dx', k, q, m, c, ex, hsp, _⟩ := pr
  cases ex
  have hval : ∀ {b : Bool}, isValue S.L v = b → b = true → ∀ c ∈ v, c ∈ S.L := fun h1 h2 c hc => by
    rw [h2] at h1
    exact of_decide_eq_true (List.all_eq_true.mp h1 c hc)
  have hde : moreShows S ss v = (((isValue S.L v && closed S ss) && (found S (spotOf S v) && !wished S (spotOf S v))) && ss.all fun s => found S s || !wished S s) := rfl
  rw [hde] at hq
  refine ⟨_, rfl, _, _, _, rfl, Slt.same e1 hsi, S.L, S.R1, hi0.same e1, _, rfl, _, _, _, _, rfl, Slt.same e1 hs, rfl, S.L, v, rfl, rfl, hv, fun H2 e2 => ⟨_, rfl, ?_⟩⟩
  have e12 := e1.trans e2
  cases hvv : isValue S.L v with
  | false => rw [hvv] at hq; exact iteT (hq H2 e12)
  | true =>
    rw [hvv] at hq
    refine iteF ⟨_, rfl, _, _, _, rfl, Slt.same e2 hsp, _, rfl, _, _, _, _, rfl, Slt.same e12 hs, rfl, S, ss, l, vs, pr0.same e2, ok, rfl, SqL.same e12 hl, Spots.mono (TS.of e12) hss, hn, hf, fun H3 e3 => ⟨_, rfl, ?_⟩⟩
    have e13 := e12.trans e3
    cases hc : closed S ss with
    | false => rw [hc] at hq; exact iteT (hq H3 e13)
    | true =>
      rw [hc] at hq
      refine iteF ⟨_, rfl, _, _, _, rfl, Slt.same (e2.trans e3) hsp, _, rfl, _, _, _, _, rfl, Slt.same e13 hs, rfl, S, v, pr0.same (e2.trans e3), ok, rfl, hval hvv rfl, fun z H4 e4 spz okz => ?_⟩
      have e24 := (e2.trans e3).trans e4
      have e14 := e13.trans e4
      have hfz := fits_isSpot ok okz
      refine ⟨_, rfl, _, _, _, rfl, Slt.same e24 hsp, _, rfl, S, _, pr0.same e24, ok, spz, hfz.1, fun H5 e5 => ⟨_, rfl, ?_⟩⟩
      cases hfo : found S (spotOf S v) with
      | false => rw [hfo] at hq; exact iteT (hq H5 (e14.trans e5))
      | true =>
        rw [hfo] at hq
        refine iteF ⟨_, rfl, _, _, _, rfl, Slt.same (e24.trans e5) hsp, _, rfl, S, _, pr0.same (e24.trans e5), ok, spz.same e5, hfz.2, fun H6 e6 => ⟨_, rfl, ?_⟩⟩
        have e16 := (e14.trans e5).trans e6
        have e26 := (e24.trans e5).trans e6
        cases hwi : wished S (spotOf S v) with
        | true => rw [hwi] at hq; exact iteT (hq H6 e16)
        | false =>
          rw [hwi] at hq
          refine iteF ⟨_, rfl, _, _, _, _, rfl, Slt.same e16 hs, rfl, _, rfl, ⟨_, SqL.same e16 hl⟩, fun D hD => lc_seq K walk_list (SpotAt K) ss (fun s => found S s || !wished S s) (by omega) hD (fun H h => SqL.same (e16.trans h) hl) (Spots.mono (TS.of e16) hss) ?_ ?_⟩
          · intro v s0 Hc Yes hs0 hv e hy
            refine ⟨_, rfl, _, _, _, rfl, Slt.same (e26.trans e) hsp, _, rfl, S, s0, pr0.same (e26.trans e), ok, hv.same e, (hf s0 hs0).1, fun H7 e7 => ⟨_, rfl, ?_⟩⟩
            cases hf2 : found S s0 with
            | true => rw [hf2] at hy; exact iteT (hy H7 e7)
            | false =>
              rw [hf2] at hy
              refine iteF ⟨_, rfl, _, _, _, rfl, Slt.same ((e26.trans e).trans e7) hsp, _, rfl, S, s0, pr0.same ((e26.trans e).trans e7), ok, (hv.same e).same e7, (hf s0 hs0).2, fun H8 e8 => ⟨_, rfl, ?_⟩⟩
              exact hy H8 (e7.trans e8)
          · intro H7 e7 hD7
            exact all_fin hD7 (hq H7 (e16.trans e7)) (by rw [all_map]; rfl)

def p_Misses_shows (K : PySem.W.Frag) (a : Ad) (self i q m c : V) (H : Hp) (Q : VK) : Prop := ∃ S v, MiRaw K a H self (.str (tx v)) ∧ v.length ≤ 100 ∧ Args K a H i q m c S ∧ ∀ H', Same H H' → Q (.bl (missesShows S v)) H'
abbrev N_Misses_shows : List Str := ["self", "index", "question", "machine", "condition", "pairing", "spot"]
theorem sc_Misses_shows : FnScope N_Misses_shows ["self", "index", "question", "machine", "condition"] (defScope s_Misses_shows) := ⟨rfl, rfl, rfl, by decide +kernel, rfl, by decide +kernel, by decide +kernel⟩
theorem ok_Misses_shows {fa : Addr} {fd : FuncData} (T : Txt K mg a) (F : FnP K "shows" "Misses.shows" s_Misses_shows fa fd) (c_Pairing_init : Ck P w K mg base 5 "Pairing" a.cP (sq5 (p_Pairing_init K a))) (c_is_value : Cl P w K mg base 1 "is_value" (sq2 (p_is_value K a))) (c_Machine_letters : Pl P w K mg base 1 a.cM "letters" (sq1 (p_Machine_letters K a))) (c_Pairing_spot_of : Ml P w K mg base 4 a.cP "spot_of" (sq2 (p_Pairing_spot_of K a))) (c_Pairing_is_wished : Ml P w K mg base 2 a.cP "is_wished" (sq2 (p_Pairing_is_wished K a))) (c_Pairing_is_found : Ml P w K mg base 2 a.cP "is_found" (sq2 (p_Pairing_is_found K a))) : FnR P w K mg base CX0 7 fa (ofSq (sq5 (p_Misses_shows K a))) := by
  refine fnr_of F (fun _ _ _ _ _ _ us hl => match us, hl with | [_, _, _, _, _], _ => rfl) sc_Misses_shows (fun vs H Q h => sq5_len h) fun vs H Q h cdv A outer s hr => ?_
  obtain ⟨v_self, v_index, v_question, v_machine, v_condition, rfl, h⟩ := sq5_inv h
  refine ⟨_, (pss_cons (ps_set (i := 5) sc_Misses_shows.nd rfl (Or.inl rfl) (pe_ck c_Pairing_init hr (pa_cons (pv 1) (pa_cons (pv 2) (pa_cons (pv 3) (pa_cons (pv 4) pa_nil))))))
      (pss_cons (ps_if (pt_not (pt_val (pe_cl c_is_value hr (pa_cons (pe_pl c_Machine_letters hr (pv 1)) (pa_cons (pe_sf T.cl_Misses T.k_Misses_value (pv 0)) pa_nil))) (fun _ => rfl))) (pss_one (ps_ret pe_bl)) pss_nil)
      (pss_cons (ps_set (i := 6) sc_Misses_shows.nd rfl (Or.inl rfl) (pe_ml c_Pairing_spot_of hr (pv 5) (pa_cons (pe_sf T.cl_Misses T.k_Misses_value (pv 0)) pa_nil)))
      (pss_one (ps_ret (pe_and (pe_ml c_Pairing_is_wished hr (pv 5) (pa_cons (pv 6) pa_nil)) (pe_one (pe_not (pe_ml c_Pairing_is_found hr (pv 5) (pa_cons (pv 6) pa_nil)))))))))), ?_⟩
  obtain ⟨S, v, ⟨o, dxo, rfl, hs⟩, hv, A, hq⟩ := h
  refine ⟨_, rfl, _, rfl, _, rfl, _, rfl, fun x dx hx hdx hne => ?_⟩
  have e0 := made_same (C := a.cP) hx hdx
  have A0 := A.same e0
  refine ⟨x, dx, S, rfl, A0.i, A0.q, A0.m, A0.c, A.ok, (made_at hne).1, (made_at hne).2, hne, fun H1 sb pr => ⟨rfl, ?_⟩⟩
  have e1 : Same H H1 := sb.same hx hdx
  have ok := A.ok
  obtain ⟨xi, dxi, ri, eia, hsi, hri⟩ := A.i
  subst eia
  have hi0 : MachAt K a.cM H (.ref xi) S.L S.R1 := ⟨xi, dxi, ri, rfl, hsi, hri⟩
  have pr0 := pr
  obtain ⟨x', dx', k, q, m, c, ex, hsp, _⟩ := pr
  cases ex
  have hval : ∀ {b : Bool}, isValue S.L v = b → b = true → ∀ c ∈ v, c ∈ S.L := fun h1 h2 c hc => by
    rw [h2] at h1
    exact of_decide_eq_true (List.all_eq_true.mp h1 c hc)
  have hde : missesShows S v = (isValue S.L v && (wished S (spotOf S v) && !found S (spotOf S v))) := rfl
  rw [hde] at hq
  refine ⟨_, rfl, _, _, _, rfl, Slt.same e1 hsi, S.L, S.R1, hi0.same e1, _, rfl, _, _, _, _, rfl, Slt.same e1 hs, rfl, S.L, v, rfl, rfl, hv, fun H2 e2 => ⟨_, rfl, ?_⟩⟩
  have e12 := e1.trans e2
  cases hvv : isValue S.L v with
  | false => rw [hvv] at hq; exact iteT (hq H2 e12)
  | true =>
    rw [hvv] at hq
    refine iteF ⟨_, rfl, _, _, _, rfl, Slt.same e2 hsp, _, rfl, _, _, _, _, rfl, Slt.same e12 hs, rfl, S, v, pr0.same e2, ok, rfl, hval hvv rfl, fun z H4 e4 spz okz => ?_⟩
    have e24 := e2.trans e4
    have e14 := e12.trans e4
    have hfz := fits_isSpot ok okz
    refine ⟨_, rfl, _, _, _, rfl, Slt.same e24 hsp, _, rfl, S, _, pr0.same e24, ok, spz, hfz.2, fun H5 e5 => ⟨_, rfl, ?_⟩⟩
    cases hwi : wished S (spotOf S v) with
    | false => rw [hwi] at hq; exact iteF (hq H5 (e14.trans e5))
    | true =>
      rw [hwi] at hq
      exact iteT ⟨_, rfl, _, _, _, rfl, Slt.same (e24.trans e5) hsp, _, rfl, S, _, pr0.same (e24.trans e5), ok, spz.same e5, hfz.1, fun H6 e6 => ⟨_, rfl, hq H6 ((e14.trans e5).trans e6)⟩⟩
end K5

set_option Elab.async false
set_option linter.all false
set_option maxRecDepth 100000
set_option maxHeartbeats 4000000
/-! the law's own steps, part one. -/
namespace K5
open PySem PySem.Spec PyProof.Rows L2
variable {P : Program} {w : World} {K : PySem.W.Frag} {mg : Str → Option Value} {base : Heap} {a : Ad}

theorem walk_rng {n : Nat} : Walk (Itr 0 n) n (fun _ => True) (fun i H x H' => H' = H ∧ x = .int (i : Nat)) :=
  walk_range.mono (fun _ h => h) fun i H x H' _ _ y => ⟨y.1, by
    have h : x = .int (0 + (i : Nat)) := y.2
    rw [h, Int.zero_add]⟩
/-- the sign at a place, as a text -/
def at1 (p : Tx) (j : Int) : Tx := match p[j.toNat]? with | some c => [c] | none => []
theorem cut1 {p : Tx} {j : Int} (h : 0 ≤ j) : cutS (tx p) (some j) (some (j + 1)) = tx (at1 p j) := by
  have e : ∀ i : Nat, j = (i : Int) → cutS (tx p) (some j) (some (j + 1)) = tx ((p.drop (min i p.length)).take (min (i + 1) p.length - min i p.length)) := fun i hi => by
    subst hi
    unfold cutS
    rw [tx_cps, tx_len]
    rw [show ((i : Nat) : Int) + 1 = ((i + 1 : Nat) : Int) from rfl, HT.sIx_nat, HT.sIx_nat]
    rfl
  rw [e j.toNat (by omega)]
  congr 1
  unfold at1
  by_cases hl : j.toNat < p.length
  · have ec : p[j.toNat]? = some p[j.toNat] := List.getElem?_eq_getElem hl
    rw [show min j.toNat p.length = j.toNat by omega, show min (j.toNat + 1) p.length - j.toNat = 1 by omega, ec, List.drop_eq_getElem_cons hl]
    rfl
  · rw [show min (j.toNat + 1) p.length - min j.toNat p.length = 0 by omega, List.getElem?_eq_none (by omega)]
    rfl
theorem at1_eq {p : Tx} {j : Int} {c : Nat} : decide (V.str (tx (at1 p j)) = V.str (tx [c])) = decide (p[j.toNat]? = some c) := by
  rw [dec_tx]
  unfold at1
  cases p[j.toNat]? with
  | none => simp
  | some d => simp
theorem at1_in {p : Tx} {j : Int} {c d : Nat} : inV (.str (tx (at1 p j))) [.str (tx [c]), .str (tx [d])] = (decide (p[j.toNat]? = some c) || decide (p[j.toNat]? = some d)) := by
  show (tx [c] == tx (at1 p j) || (tx [d] == tx (at1 p j) || false)) = _
  rw [beq_tx, beq_tx, Bool.or_false]
  unfold at1
  cases p[j.toNat]? with
  | none => simp
  | some e => simp [eq_comm]
/-- the law's own gathering -/
structure Gal (p : Tx) (xs ks : List Int) (i : Nat) : Prop where
  sd : ∀ k ∈ ks, k ∈ led p xs
  cm : ∀ j : Nat, j ≤ i → cl p xs j = true → (j : Int) ∈ ks
theorem Gal.keep {p : Tx} {xs ks : List Int} {i : Nat} (g : Gal p xs ks i) (hi : i < p.length) (hx : ∀ k ∈ xs, k ∈ ks) (h : p[i]? = some 42 → (i : Int) ∈ ks → ((i : Int) + 1) ∈ ks) : Gal p xs ks (i + 1) := by
  refine ⟨g.sd, fun j hj hc => ?_⟩
  by_cases q : j ≤ i
  · exact g.cm j q hc
  · have e : j = i + 1 := by omega
    subst e
    have h' : (decide (((i + 1 : Nat) : Int) ∈ xs) || (decide (p[i]? = some 42) && cl p xs i)) = true := hc
    rcases Bool.or_eq_true_iff.mp h' with q | q
    · exact hx _ (of_decide_eq_true q)
    · have q1 := of_decide_eq_true (Bool.and_eq_true_iff.mp q).1
      have := h q1 (g.cm i (Nat.le_refl _) (Bool.and_eq_true_iff.mp q).2)
      exact_mod_cast this
theorem Gal.add {p : Tx} {xs ks : List Int} {i : Nat} (g : Gal p xs ks i) (hi : i < p.length) (hx : ∀ k ∈ xs, k ∈ ks) (hm : (i : Int) ∈ ks) (hs : p[i]? = some 42) : Gal p xs (ks ++ [(i : Int) + 1]) (i + 1) := by
  have g2 : Gal p xs (ks ++ [(i : Int) + 1]) i := ⟨fun k hk => by
    rcases List.mem_append.mp hk with h | h
    · exact g.sd k h
    · rw [List.mem_singleton.mp h]
      exact led_star (g.sd _ hm) (by simpa using hs), fun j hj hc => List.mem_append.mpr (.inl (g.cm j hj hc))⟩
  exact g2.keep hi (fun k hk => List.mem_append.mpr (.inl (hx k hk))) fun _ _ => by simp
theorem Gal.done {p : Tx} {xs ks ns : List Int} (g : Gal p xs ks p.length) (so : ns.Pairwise (· < ·)) (hm : ∀ k : Int, k ∈ ns ↔ decide (k ∈ ks) = true) : ns = led p xs := by
  refine asc_unique so (led_sorted p xs) fun k => ?_
  rw [hm, decide_eq_true_eq]
  constructor
  · exact g.sd k
  · intro h
    obtain ⟨j, rfl, h1, h2⟩ := mem_led.mp h
    exact g.cm j h1 h2
theorem Gal.nil {p : Tx} {xs : List Int} (hr : ∀ k ∈ xs, 0 ≤ k ∧ k ≤ (p.length : Int)) : Gal p xs xs 0 := ⟨fun k hk => led_of_mem hk (hr k hk).1 (hr k hk).2, fun j hj hc => by
  have e : j = 0 := by omega
  subst e
  have : decide ((0 : Int) ∈ xs) = true := hc
  exact of_decide_eq_true this⟩

def p_l_turn (K : PySem.W.Frag) (a : Ad) (x y z u : V) (H : Hp) (Q : VK) : Prop := ∃ L R s c, x = .str (tx L) ∧ L ∈ menu ∧ RowsAt K H y R ∧ okRows L R ∧ z = .int s ∧ (0 ≤ s ∧ s < (R.length : Int)) ∧ u = .str (tx [c]) ∧ c ∈ L ∧ ∀ v, TurnAt K H v (turn R L s c) → Q v H
abbrev N_l_turn : List Str := ["letters", "rows", "state", "letter"]
theorem sc_l_turn : FnScope N_l_turn ["letters", "rows", "state", "letter"] (defScope s_l_turn) := ⟨rfl, rfl, rfl, by decide +kernel, rfl, by decide +kernel, by decide +kernel⟩
theorem ok_l_turn {fa : Addr} {fd : FuncData} (T : Txt K mg a) (F : FnP K "_law_turn" "_law_turn" s_l_turn fa fd) (g : mg "_law_turn" = some (.ref fa)) : Cl P w K mg base 1 "_law_turn" (sq4 (p_l_turn K a)) := by
  refine cl_of F g (fun _ _ _ _ _ _ us hl => match us, hl with | [_, _, _, _], _ => rfl) sc_l_turn (fun vs H Q h => sq4_len h) fun vs H Q h cdv A outer s hr => ?_
  obtain ⟨v_letters, v_rows, v_state, v_letter, rfl, h⟩ := sq4_inv h
  refine ⟨_, (pss_one (ps_ret (pe_ix ix_tup (pe_ix ix_tup (pv 1) (pv 2) (fun _ _ => rfl)) (pe_bm PySem.F.plainAttrs_str PySem.F.slot_str_index PySem.F.type_str_index mt_sindex (pv 0) (pa_cons (pv 3) pa_nil)) (fun _ _ => rfl)))), ?_⟩
  obtain ⟨L, R, s, c, rfl, hL, ⟨b, rs, rfl, hb, hp⟩, ok, rfl, ⟨h0, h1⟩, rfl, hc, hq⟩ := h
  obtain ⟨row, e1, e2, ok2⟩ := turn_at ok h0 h1 hc
  obtain ⟨v1, g1, ⟨b1, ts, rfl, hb1, hp1⟩⟩ := paired_get hp e1
  obtain ⟨v2, g2, q2⟩ := paired_get hp1 e2
  exact ⟨_, rfl, _, rfl, _, _, _, _, rfl, rfl, hb, atI_int h0 g1, _, rfl, rfl, _, rfl, _, _, _, _, rfl, rfl, menu_ix L hL c hc, _, _, _, _, rfl, rfl, hb1, atI_get g2, hq v2 q2⟩

def p_l_led (K : PySem.W.Frag) (a : Ad) (x y : V) (H : Hp) (Q : VK) : Prop := ∃ p l xs, x = .str (tx p) ∧ p.length ≤ 4 ∧ y = .ref l ∧ (SqL K H l (xs.map V.int) ∨ SqT K H l (xs.map V.int)) ∧ xs.length ≤ 40 ∧ (∀ k ∈ xs, 0 ≤ k ∧ k ≤ (p.length : Int)) ∧ ∀ v H', Same H H' → StAt K H' v (.t (led p xs)) → Q v H'
abbrev N_l_led : List Str := ["text", "places", "found", "place"]
theorem sc_l_led : FnScope N_l_led ["text", "places"] (defScope s_l_led) := ⟨rfl, rfl, rfl, by decide +kernel, rfl, by decide +kernel, by decide +kernel⟩
theorem ok_l_led {fa : Addr} {fd : FuncData} (T : Txt K mg a) (F : FnP K "_law_led" "_law_led" s_l_led fa fd) (g : mg "_law_led" = some (.ref fa)) : Cl P w K mg base 1 "_law_led" (sq2 (p_l_led K a)) := by
  refine cl_of F g (fun _ _ _ _ _ _ us hl => match us, hl with | [_, _], _ => rfl) sc_l_led (fun vs H Q h => sq2_len h) fun vs H Q h cdv A outer s hr => ?_
  obtain ⟨v_text, v_places, rfl, h⟩ := sq2_inv h
  refine ⟨_, (pss_cons (ps_set (i := 2) sc_l_led.nd rfl (Or.inl rfl) (pe_callTy call_list_of (by rfl) T.fList (by decide +kernel) (pa_cons (pv 1) pa_nil)))
      (pss_cons (ps_for PassesOwn.never rfl (pi_range1 (by rfl) T.fRange (pa_cons (pe_callB call_len_str (by rfl) T.fLen (by decide +kernel) (pa_cons (pv 0) pa_nil)) pa_nil)) (pg_name (i := 3) sc_l_led.nd rfl (Or.inl rfl)) (pss_one (ps_if (PW.pt (pw_and (pt_cmpR op_in_seq (pv 3) (pv 2) rfl) (pw_and (pt_cmpR op_eq (pe_ix ix_str (pv 0) (pv 3) (fun _ _ => rfl)) pe_str rfl) (pw_and1 (pt_cmpR op_notIn_seq (pe_op op_add (pv 3) pe_int) (pv 2) rfl))))) (pss_one (ps_expr (pe_bm PySem.F.plainAttrs_list PySem.F.slot_list_append PySem.F.type_list_append mt_append (pv 2) (pa_cons (pe_op op_add (pv 3) pe_int) pa_nil)))) pss_nil)))
      (pss_one (ps_ret (pe_callTy call_tuple_of (by rfl) T.fTuple (by decide +kernel) (pa_cons (pe_callB (cr_sortedSet rfl) (by rfl) T.fSorted (by decide +kernel) (pa_cons (pe_callTy (call_setI rfl) (by rfl) T.fSet (by decide +kernel) (pa_cons (pv 2) pa_nil)) pa_nil)) pa_nil)))))), ?_⟩
  obtain ⟨p, l, xs, rfl, hp, rfl, hl, hxs, hr, hq⟩ := h
  refine ⟨_, rfl, l, _, rfl, hl, fun f hf => ?_⟩
  have hN : ((tx p).length : Int).toNat = p.length := by rw [tx_len]; omega
  refine ⟨_, rfl, _, rfl, szS (by omega), _, rfl, by rw [tx_len]; omega, by rw [tx_len]; omega, ?_⟩
  rw [hN]
  refine for_it walk_rng (fun i σ H' => Same H H' ∧ (∃ z, σ = [some (V.str (tx p)), some (.ref l), some (.ref f), z]) ∧ ∃ ks, H' f = some (.lst (ks.map V.int)) ∧ Gal p xs ks i ∧ (∀ k ∈ xs, k ∈ ks) ∧ ks.length ≤ xs.length + i) ?_ (fun _ _ _ _ _ => trivial) ?_ ?_
  · exact ⟨Same.new hf, ⟨_, rfl⟩, xs, upd_same, Gal.nil hr, fun _ h => h, Nat.le_refl _⟩
  · rintro i x σ H1 H2 hi ⟨e, ⟨z, rfl⟩, ks, hf1, g, hx, hlen⟩ ⟨rfl, rfl⟩
    have hln : ks.length ≤ 60 := by omega
    refine ⟨_, rfl, _, rfl, _, _, rfl, .inl (.inl (.inl hf1)), rfl, flat_ints ks, _, rfl, ?_⟩
    rw [if_neg Bool.false_ne_true, inV_int]
    have ec : p[i]? = some p[i] := List.getElem?_eq_getElem hi
    by_cases h1 : (i : Int) ∈ ks
    · rw [decide_eq_true h1]
      refine iteT ⟨_, rfl, _, rfl, _, _, _, rfl, rfl, szS (by omega), atI_get (by rw [tx_cps]; exact ec), rfl, _, rfl, ?_⟩
      rw [q_star, tx_one, dec_tx]
      by_cases h2 : p[i] = 42
      · rw [decide_eq_true (by rw [h2])]
        refine iteT ⟨_, rfl, _, _, rfl, rfl, _, rfl, _, _, rfl, .inl (.inl (.inl hf1)), rfl, flat_ints ks, _, rfl, ?_⟩
        rw [if_pos rfl, inV_int]
        by_cases h3 : (i : Int) + 1 ∈ ks
        · rw [decide_eq_true h3]
          exact iteF ⟨e, ⟨_, rfl⟩, ks, hf1, g.keep hi hx fun _ _ => h3, hx, by omega⟩
        · rw [decide_eq_false h3]
          refine iteT ⟨_, rfl, .inl ⟨rfl, _, .inl (.inl hf1)⟩, _, rfl, _, _, rfl, rfl, _, _, _, rfl, rfl, hf1, sz_smallT (by rw [List.length_map]; omega), ?_⟩
          exact ⟨Same.put e hf, ⟨_, rfl⟩, ks ++ [(i : Int) + 1], by rw [upd_same, List.map_append]; rfl, g.add hi hx h1 (by rw [ec, h2]), fun k hk => List.mem_append.mpr (.inl (hx k hk)), by rw [List.length_append]; simp; omega⟩
      · rw [decide_eq_false (fun z => h2 (by injection z))]
        exact iteF (iteF ⟨e, ⟨_, rfl⟩, ks, hf1, g.keep hi hx fun q _ => absurd (by rw [ec] at q; exact Option.some.inj q) h2, hx, by omega⟩)
    · rw [decide_eq_false h1]
      exact iteF (iteF ⟨e, ⟨_, rfl⟩, ks, hf1, g.keep hi hx fun _ q => absurd q h1, hx, by omega⟩)
  · rintro σ H1 ⟨e, ⟨z, rfl⟩, ks, hf1, g, hx, hlen⟩
    refine ⟨_, rfl, f, ks, rfl, .inl (.inl (.inl hf1)), by omega, fun s n hs hn => ?_⟩
    refine ⟨s, _, n, rfl, upd_same, by omega, fun ns t so hm hnl ht => ?_⟩
    obtain rfl : ns = led p xs := g.done so hm
    exact ⟨_, _, rfl, .inl ⟨.inl (.inl upd_same), fun q hq0 => hq _ _ (((e.trans (Same.new hs)).trans (Same.new ht)).trans (Same.new hq0)) ⟨q, rfl, .inl (.inl upd_same)⟩⟩⟩

def p_l_first_stand (K : PySem.W.Frag) (a : Ad) (x : V) (H : Hp) (Q : VK) : Prop := ∃ (L : Tx) (c : Cond), CondAt K H x c ∧ okCond L c ∧ ∀ v H', Same H H' → StAt K H' v (firstStand c) → Q v H'
abbrev N_l_first_stand : List Str := ["condition"]
theorem sc_l_first_stand : FnScope N_l_first_stand ["condition"] (defScope s_l_first_stand) := ⟨rfl, rfl, rfl, by decide +kernel, rfl, by decide +kernel, by decide +kernel⟩
theorem ok_l_first_stand {fa : Addr} {fd : FuncData} (T : Txt K mg a) (F : FnP K "_law_first_stand" "_law_first_stand" s_l_first_stand fa fd) (g : mg "_law_first_stand" = some (.ref fa)) (c_l_led : Cl P w K mg base 1 "_law_led" (sq2 (p_l_led K a))) : Cl P w K mg base 2 "_law_first_stand" (sq1 (p_l_first_stand K a)) := by
  refine cl_of F g (fun _ _ _ _ _ _ us hl => match us, hl with | [_], _ => rfl) sc_l_first_stand (fun vs H Q h => sq1_len h) fun vs H Q h cdv A outer s hr => ?_
  obtain ⟨v_condition, rfl, h⟩ := sq1_inv h
  refine ⟨_, (pss_cons (ps_if (pt_cmpR op_eq (pe_ix ix_tup (pv 0) pe_int (fun _ _ => rfl)) pe_str rfl) (pss_one (ps_ret (pe_cl c_l_led hr (pa_cons (pe_ix ix_tup (pv 0) pe_int (fun _ _ => rfl)) (pa_cons (pe_lst (pa_cons pe_int pa_nil)) pa_nil))))) pss_nil)
      (pss_one (ps_ret (pe_ifExp (pt_cmpR op_eq (pe_ix ix_tup (pv 0) pe_int (fun _ _ => rfl)) pe_str rfl) (pe_tup (pa_cons pe_int (pa_cons pe_int pa_nil))) pe_int)))), ?_⟩
  obtain ⟨L, c, hc, ok, hq⟩ := h
  cases c with
  | eq p =>
    obtain ⟨b, rfl, hb⟩ := hc
    exact ⟨_, rfl, _, _, 0, _, rfl, rfl, hb, rfl, rfl, _, rfl, iteF ⟨_, rfl, _, _, 0, _, rfl, rfl, hb, rfl, rfl, _, rfl, iteF (hq _ _ (Same.refl _) rfl)⟩⟩
  | beg p =>
    obtain ⟨b, rfl, hb⟩ := hc
    exact ⟨_, rfl, _, _, 0, _, rfl, rfl, hb, rfl, rfl, _, rfl, iteF ⟨_, rfl, _, _, 0, _, rfl, rfl, hb, rfl, rfl, _, rfl, iteF (hq _ _ (Same.refl _) rfl)⟩⟩
  | bet p q =>
    obtain ⟨b, rfl, hb⟩ := hc
    exact ⟨_, rfl, _, _, 0, _, rfl, rfl, hb, rfl, rfl, _, rfl, iteF ⟨_, rfl, _, _, 0, _, rfl, rfl, hb, rfl, rfl, _, rfl, iteT ⟨sz_small (by simp), fun t ht => hq _ _ (Same.new ht) ⟨t, rfl, .inl (.inl upd_same)⟩⟩⟩⟩
  | like p =>
    obtain ⟨b, rfl, hb⟩ := hc
    exact ⟨_, rfl, _, _, 0, _, rfl, rfl, hb, rfl, rfl, _, rfl, iteT ⟨_, rfl, _, _, 1, _, rfl, rfl, hb, rfl, sz_small (by simp), fun l hl => ⟨p, l, [0], rfl, ok.2, rfl, .inl (.inl (.inl upd_same)), by decide, by simp, fun v H' e st => hq v H' ((Same.new hl).trans e) st⟩⟩⟩

def p_l_beside (K : PySem.W.Frag) (a : Ad) (x y z u : V) (H : Hp) (Q : VK) : Prop := ∃ (L b : Tx) (s : Int) (c : Nat), x = .str (tx L) ∧ L ∈ menu ∧ y = .str (tx b) ∧ okCond L (.eq b) ∧ z = .int s ∧ s ≤ (b.length : Int) ∧ u = .str (tx [c]) ∧ c ∈ L ∧ Q (.int (beside L b s c)) H
abbrev N_l_beside : List Str := ["letters", "bound", "place", "letter"]
theorem sc_l_beside : FnScope N_l_beside ["letters", "bound", "place", "letter"] (defScope s_l_beside) := ⟨rfl, rfl, rfl, by decide +kernel, rfl, by decide +kernel, by decide +kernel⟩
theorem ok_l_beside {fa : Addr} {fd : FuncData} (T : Txt K mg a) (F : FnP K "_law_beside" "_law_beside" s_l_beside fa fd) (g : mg "_law_beside" = some (.ref fa)) : Cl P w K mg base 1 "_law_beside" (sq4 (p_l_beside K a)) := by
  refine cl_of F g (fun _ _ _ _ _ _ us hl => match us, hl with | [_, _, _, _], _ => rfl) sc_l_beside (fun vs H Q h => sq4_len h) fun vs H Q h cdv A outer s hr => ?_
  obtain ⟨v_letters, v_bound, v_place, v_letter, rfl, h⟩ := sq4_inv h
  refine ⟨_, (pss_cons (ps_if (pt_cmpR op_lt (pv 2) pe_int rfl) (pss_one (ps_ret (pv 2))) pss_nil)
      (pss_cons (ps_if (pt_cmpR op_eq (pv 2) (pe_callB call_len_str (by rfl) T.fLen (by decide +kernel) (pa_cons (pv 1) pa_nil)) rfl) (pss_one (ps_ret (pe_un un_neg pe_int))) pss_nil)
      (pss_cons (ps_if (pt_cmpR op_eq (pe_ix ix_str (pv 1) (pv 2) (fun _ _ => rfl)) (pv 3) rfl) (pss_one (ps_ret (pe_op op_add (pv 2) pe_int))) pss_nil)
      (pss_one (ps_ret (pe_ifExp (pt_cmpR op_lt (pe_bm PySem.F.plainAttrs_str PySem.F.slot_str_index PySem.F.type_str_index mt_sindex (pv 0) (pa_cons (pv 3) pa_nil)) (pe_bm PySem.F.plainAttrs_str PySem.F.slot_str_index PySem.F.type_str_index mt_sindex (pv 0) (pa_cons (pe_ix ix_str (pv 1) (pv 2) (fun _ _ => rfl)) pa_nil)) rfl) (pe_un un_neg pe_int) (pe_un un_neg pe_int))))))), ?_⟩
  obtain ⟨L, b, s0, c, rfl, hL, rfl, ⟨hm, hb⟩, rfl, hs, rfl, hc, hq⟩ := h
  unfold beside at hq
  refine ⟨_, rfl, _, _, rfl, rfl, _, rfl, ?_⟩
  by_cases h0 : s0 < 0
  · rw [if_pos h0] at hq
    rw [decide_eq_true h0]
    exact iteT ⟨_, rfl, hq⟩
  rw [if_neg h0] at hq
  rw [decide_eq_false h0]
  refine iteF ⟨_, rfl, _, rfl, _, rfl, szS (by omega), rfl, _, rfl, ?_⟩
  rw [tx_len]
  by_cases h1 : s0 = (b.length : Int)
  · rw [if_pos h1] at hq
    rw [decide_eq_true (show V.int s0 = V.int (b.length : Int) by rw [h1])]
    exact iteT ⟨_, rfl, hq⟩
  rw [if_neg h1] at hq
  rw [decide_eq_false (fun z => h1 (V.int.inj z))]
  have hn : s0.toNat < b.length := by omega
  have ec : b[s0.toNat]? = some b[s0.toNat] := List.getElem?_eq_getElem hn
  have hbi : atI (tx b).cps.toList s0 = some b[s0.toNat] := atI_int (by omega) (by rw [tx_cps]; exact ec)
  refine iteF ⟨_, rfl, _, rfl, _, _, _, rfl, rfl, szS (by omega), hbi, _, rfl, rfl, _, rfl, ?_⟩
  rw [tx_one, dec_tx]
  rw [ec] at hq
  by_cases h2 : b[s0.toNat] = c
  · rw [if_pos (by rw [← h2])] at hq
    rw [decide_eq_true (by rw [← h2])]
    exact iteT ⟨_, rfl, _, _, rfl, rfl, hq⟩
  rw [if_neg (fun z => h2 (Option.some.inj z))] at hq
  rw [decide_eq_false (fun z => h2 (by injection z))]
  have eg : b.getD s0.toNat 0 = b[s0.toNat] := by simp [List.getD, ec]
  rw [eg] at hq
  refine iteF ⟨_, rfl, rfl, _, rfl, _, _, _, _, rfl, rfl, menu_ix L hL c hc, _, rfl, rfl, _, rfl, _, rfl, _, _, _, rfl, rfl, szS (by omega), hbi, _, _, _, _, rfl, rfl, menu_ix L hL _ (hm _ (List.getElem_mem hn)), _, _, rfl, rfl, _, rfl, ?_⟩
  by_cases h3 : ix L c < ix L b[s0.toNat]
  · rw [if_pos h3] at hq
    rw [decide_eq_true (show (ix L c : Int) < (ix L b[s0.toNat] : Int) by omega)]
    exact iteT ⟨_, rfl, hq⟩
  · rw [if_neg h3] at hq
    rw [decide_eq_false (show ¬ (ix L c : Int) < (ix L b[s0.toNat] : Int) by omega)]
    exact iteF ⟨_, rfl, hq⟩
end K5

set_option Elab.async false
set_option linter.all false
set_option maxRecDepth 100000
set_option maxHeartbeats 4000000
/-! the law's own steps, part two. -/
namespace K5
open PySem PySem.Spec PyProof.Rows L2
variable {P : Program} {w : World} {K : PySem.W.Frag} {mg : Str → Option Value} {base : Heap} {a : Ad}

def p_l_next_stand (K : PySem.W.Frag) (a : Ad) (x y z u : V) (H : Hp) (Q : VK) : Prop := ∃ (L : Tx) (c : Cond) (s : Stand) (k : Nat), x = .str (tx L) ∧ L ∈ menu ∧ CondAt K H y c ∧ okCond L c ∧ StAt K H z s ∧ okStand c s = true ∧ u = .str (tx [k]) ∧ k ∈ L ∧
  ∀ v H', Same H H' → StAt K H' v (nextStand L c s k) → Q v H'
abbrev N_l_next_stand : List Str := ["letters", "condition", "mark", "letter", "text", "found", "place"]
theorem sc_l_next_stand : FnScope N_l_next_stand ["letters", "condition", "mark", "letter"] (defScope s_l_next_stand) := ⟨rfl, rfl, rfl, by decide +kernel, rfl, by decide +kernel, by decide +kernel⟩
theorem ok_l_next_stand {fa : Addr} {fd : FuncData} (T : Txt K mg a) (F : FnP K "_law_next_stand" "_law_next_stand" s_l_next_stand fa fd) (g : mg "_law_next_stand" = some (.ref fa)) (c_l_beside : Cl P w K mg base 1 "_law_beside" (sq4 (p_l_beside K a))) (c_l_led : Cl P w K mg base 1 "_law_led" (sq2 (p_l_led K a))) : Cl P w K mg base 2 "_law_next_stand" (sq4 (p_l_next_stand K a)) := by
  refine cl_of F g (fun _ _ _ _ _ _ us hl => match us, hl with | [_, _, _, _], _ => rfl) sc_l_next_stand (fun vs H Q h => sq4_len h) fun vs H Q h cdv A outer s hr => ?_
  obtain ⟨v_letters, v_condition, v_mark, v_letter, rfl, h⟩ := sq4_inv h
  refine ⟨_, (pss_cons (ps_set (i := 4) sc_l_next_stand.nd rfl (Or.inr rfl) (pe_ix ix_tup (pv 1) pe_int (fun _ _ => rfl)))
      (pss_cons (ps_if (pt_cmpR op_eq (pe_ix ix_tup (pv 1) pe_int (fun _ _ => rfl)) pe_str rfl) (pss_one (ps_ret (pe_tup (pa_cons (pe_cl c_l_beside hr (pa_cons (pv 0) (pa_cons (pv 4) (pa_cons (pe_ix ix_tup (pv 2) pe_int (fun _ _ => rfl)) (pa_cons (pv 3) pa_nil))))) (pa_cons (pe_cl c_l_beside hr (pa_cons (pv 0) (pa_cons (pe_ix ix_tup (pv 1) pe_int (fun _ _ => rfl)) (pa_cons (pe_ix ix_tup (pv 2) pe_int (fun _ _ => rfl)) (pa_cons (pv 3) pa_nil))))) pa_nil))))) pss_nil)
      (pss_cons (ps_if (pt_cmpR op_eq (pe_ix ix_tup (pv 1) pe_int (fun _ _ => rfl)) pe_str rfl) (pss_cons (ps_setLc (i := 5) (own := [("place", 6)]) (g := gName 6) rfl sc_l_next_stand.nd rfl rfl (sw_true rfl rfl rfl (by decide +kernel)) (pi_tup (pv 2)) (blkOk_by (own := [("place", 6)]) (N := N_l_next_stand) (sc := defScope s_l_next_stand) (by decide +kernel)) (fun _ _ _ _ _ => pg_name (i := 6) sc_l_next_stand.nd rfl (Or.inl rfl)) (fun _ _ _ _ _ => pts_one (pt_cmpR op_eq (pe_slice sl_str (pv 4) (po_some (pv 6)) (po_some (pe_op op_add (pv 6) pe_int))) pe_str rfl)) (fun _ _ _ _ _ => (pv 6)))
      (pss_cons (ps_set (i := 5) sc_l_next_stand.nd rfl (Or.inl rfl) (pe_op op_cat (pv 5) (pe_lc (own := [("place", 6)]) (g := gName 6) rfl sc_l_next_stand.nd (pi_tup (pv 2)) (blkOk_by (own := [("place", 6)]) (N := N_l_next_stand) (sc := defScope s_l_next_stand) (by decide +kernel)) (fun _ _ _ _ _ => pg_name (i := 6) sc_l_next_stand.nd rfl (Or.inl rfl)) (fun _ _ _ _ _ => pts_one (pt_cmpR (show OpR _ _ (rIn K false) from op_in_seq) (pe_slice sl_str (pv 4) (po_some (pv 6)) (po_some (pe_op op_add (pv 6) pe_int))) (pe_tup (pa_cons pe_str (pa_cons (pv 3) pa_nil))) rfl)) (fun _ _ _ _ _ => (pe_op op_add (pv 6) pe_int)))))
      (pss_one (ps_ret (pe_cl c_l_led hr (pa_cons (pv 4) (pa_cons (pv 5) pa_nil))))))) pss_nil)
      (pss_cons (ps_if (PW.pt (pw_and (pt_cmpR op_eq (pe_ix ix_tup (pv 1) pe_int (fun _ _ => rfl)) pe_str rfl) (pw_and1 (pt_cmpR op_eq (pv 2) (pe_callB call_len_str (by rfl) T.fLen (by decide +kernel) (pa_cons (pv 4) pa_nil)) rfl)))) (pss_one (ps_ret (pv 2))) pss_nil)
      (pss_one (ps_ret (pe_ifExp (PW.pt (pw_and (pt_cmpR op_ge (pv 2) pe_int rfl) (pw_and1 (pt_cmpR op_eq (pe_slice sl_str (pv 4) (po_some (pv 2)) (po_some (pe_op op_add (pv 2) pe_int))) (pv 3) rfl)))) (pe_op op_add (pv 2) pe_int) (pe_un un_neg pe_int)))))))), ?_⟩
  obtain ⟨L, c, s0, k, rfl, hL, hc, ok, hst, oks, rfl, hk, hq⟩ := h
  cases c with
  | eq p =>
    obtain ⟨b, rfl, hb⟩ := hc
    cases s0 with
    | t xs => cases oks
    | n i =>
      cases (show v_mark = .int i from hst)
      refine ⟨_, rfl, _, _, 1, _, rfl, rfl, hb, rfl, ?_⟩
      refine ⟨_, rfl, _, _, 0, _, rfl, rfl, hb, rfl, rfl, _, rfl, iteF ⟨_, rfl, _, _, 0, _, rfl, rfl, hb, rfl, rfl, _, rfl, iteF ?_⟩⟩
      have hq2 : Q (.int (step1 p i k)) H := hq _ _ (Same.refl _) rfl
      unfold step1 at hq2
      refine ⟨_, rfl, _, _, 0, _, rfl, rfl, hb, rfl, rfl, _, rfl, iteF (iteF ?_)⟩
      refine ⟨_, rfl, _, _, rfl, rfl, _, rfl, ?_⟩
      by_cases h0 : 0 ≤ i
      · rw [decide_eq_true h0]
        refine iteT ⟨_, rfl, _, rfl, _, rfl, _, rfl, _, _, rfl, rfl, _, rfl, _, rfl, szS (by have := ok.2; omega), _, rfl, rfl, _, rfl, ?_⟩
        rw [cut1 h0, at1_eq]
        by_cases h2 : p[i.toNat]? = some k
        · rw [if_pos ⟨h0, h2⟩] at hq2
          rw [decide_eq_true h2]
          exact iteT ⟨_, rfl, _, _, rfl, rfl, hq2⟩
        · rw [if_neg (fun z => h2 z.2)] at hq2
          rw [decide_eq_false h2]
          exact iteF ⟨_, rfl, hq2⟩
      · rw [decide_eq_false h0]
        rw [if_neg (fun z => h0 z.1)] at hq2
        exact iteF (iteF ⟨_, rfl, hq2⟩)
  | beg p =>
    obtain ⟨b, rfl, hb⟩ := hc
    cases s0 with
    | t xs => cases oks
    | n i =>
      cases (show v_mark = .int i from hst)
      refine ⟨_, rfl, _, _, 1, _, rfl, rfl, hb, rfl, ?_⟩
      refine ⟨_, rfl, _, _, 0, _, rfl, rfl, hb, rfl, rfl, _, rfl, iteF ⟨_, rfl, _, _, 0, _, rfl, rfl, hb, rfl, rfl, _, rfl, iteF ?_⟩⟩
      refine ⟨_, rfl, _, _, 0, _, rfl, rfl, hb, rfl, rfl, _, rfl, iteT ⟨_, rfl, _, rfl, _, rfl, szS (by have := ok.2; omega), rfl, _, rfl, ?_⟩⟩
      rw [tx_len]
      by_cases hi : i = (p.length : Int)
      · rw [decide_eq_true (show V.int i = V.int (p.length : Int) by rw [hi])]
        refine iteT ⟨_, rfl, hq _ _ (Same.refl _) ?_⟩
        show V.int i = V.int (if i = (p.length : Int) then i else step1 p i k)
        rw [if_pos hi]
      · rw [decide_eq_false (fun z => hi (V.int.inj z))]
        refine iteF ?_
        have hq2 : Q (.int (step1 p i k)) H := hq _ _ (Same.refl _) (by show V.int (step1 p i k) = V.int (if i = (p.length : Int) then i else step1 p i k); rw [if_neg hi])
        unfold step1 at hq2
        refine ⟨_, rfl, _, _, rfl, rfl, _, rfl, ?_⟩
        by_cases h0 : 0 ≤ i
        · rw [decide_eq_true h0]
          refine iteT ⟨_, rfl, _, rfl, _, rfl, _, rfl, _, _, rfl, rfl, _, rfl, _, rfl, szS (by have := ok.2; omega), _, rfl, rfl, _, rfl, ?_⟩
          rw [cut1 h0, at1_eq]
          by_cases h2 : p[i.toNat]? = some k
          · rw [if_pos ⟨h0, h2⟩] at hq2
            rw [decide_eq_true h2]
            exact iteT ⟨_, rfl, _, _, rfl, rfl, hq2⟩
          · rw [if_neg (fun z => h2 z.2)] at hq2
            rw [decide_eq_false h2]
            exact iteF ⟨_, rfl, hq2⟩
        · rw [decide_eq_false h0]
          rw [if_neg (fun z => h0 z.1)] at hq2
          exact iteF (iteF ⟨_, rfl, hq2⟩)
  | bet p q =>
    obtain ⟨b, rfl, hb⟩ := hc
    match s0, oks, hst with
    | .t [i, j], oks, hst =>
    obtain ⟨c0, rfl, hs2⟩ := hst
    have ho := Bool.and_eq_true_iff.mp oks
    have ho1 := of_decide_eq_true (Bool.and_eq_true_iff.mp ho.1).2
    have ho2 := of_decide_eq_true (Bool.and_eq_true_iff.mp ho.2).2
    refine ⟨_, rfl, _, _, 1, _, rfl, rfl, hb, rfl, ?_⟩
    refine ⟨_, rfl, _, _, 0, _, rfl, rfl, hb, rfl, rfl, _, rfl, iteT ?_⟩
    refine ⟨_, rfl, _, rfl, _, rfl, _, _, 0, _, rfl, rfl, hs2, rfl, _, rfl, L, p, i, k, rfl, hL, rfl, ok.1, rfl, ho1, rfl, hk, ?_⟩
    refine ⟨_, rfl, _, rfl, _, _, 2, _, rfl, rfl, hb, rfl, _, rfl, _, _, 1, _, rfl, rfl, hs2, rfl, _, rfl, L, q, j, k, rfl, hL, rfl, ok.2, rfl, ho2, rfl, hk, ?_⟩
    exact ⟨sz_small (by simp), fun t1 ht1 => hq _ _ (Same.new ht1) ⟨t1, rfl, .inl (.inl upd_same)⟩⟩
  | like p =>
    obtain ⟨b, rfl, hb⟩ := hc
    match s0, oks, hst with
    | .t xs, oks, hst =>
    obtain ⟨c0, rfl, hs2⟩ := hst
    have ho := Bool.and_eq_true_iff.mp oks
    have hp4 := ok.2
    have hrg : ∀ j ∈ xs, 0 ≤ j ∧ j ≤ (p.length : Int) := fun j hj => by
      have := List.all_eq_true.mp ho.1 j hj
      simpa using this
    have hxl : xs.length ≤ 5 := by
      have e : led p xs = xs := of_decide_eq_true ho.2
      have := led_length p xs
      rw [e] at this
      omega
    refine ⟨_, rfl, _, _, 1, _, rfl, rfl, hb, rfl, ?_⟩
    refine ⟨_, rfl, _, _, 0, _, rfl, rfl, hb, rfl, rfl, _, rfl, iteF ⟨_, rfl, _, _, 0, _, rfl, rfl, hb, rfl, rfl, _, rfl, iteT ?_⟩⟩
    refine ⟨_, rfl, _, rfl, ⟨_, hs2⟩, fun D hD => lc_ints K walk_tup (fun j => decide (p[j.toNat]? = some 42)) id (by omega) hD (fun H h => SqT.same h hs2) ?_ ?_⟩
    · intro j Hc Yes No hj e hy hn
      refine ⟨_, rfl, _, rfl, _, rfl, _, rfl, _, _, rfl, rfl, _, rfl, _, rfl, szS (by omega), rfl, _, rfl, ?_⟩
      rw [cut1 (hrg j hj).1, q_star, at1_eq]
      cases hb2 : decide (p[j.toNat]? = some 42) with
      | true => exact iteT ⟨_, rfl, hy hb2 _ (Same.refl _)⟩
      | false => exact iteF (hn hb2 _ (Same.refl _))
    intro H2 e2 hD2
    refine ⟨_, rfl, _, rfl, _, rfl, ⟨_, SqT.same e2 hs2⟩, fun D2 hD2' => lc_ints K walk_tup (fun j => decide (p[j.toNat]? = some 63) || decide (p[j.toNat]? = some k)) (· + 1) (by omega) hD2' (fun H h => SqT.same (e2.trans h) hs2) ?_ ?_⟩
    · intro j Hc Yes No hj e hy hn
      refine ⟨_, rfl, _, rfl, _, rfl, _, rfl, _, _, rfl, rfl, _, rfl, _, rfl, szS (by omega), _, rfl, sz_small (by simp), fun t1 ht1 => ⟨_, _, rfl, .inr (.inl (.inl upd_same)), rfl, rfl, _, rfl, ?_⟩⟩
      rw [if_neg Bool.false_ne_true, cut1 (hrg j hj).1, q_mark, at1_in]
      cases hb2 : (decide (p[j.toNat]? = some 63) || decide (p[j.toNat]? = some k)) with
      | true => exact iteT ⟨_, rfl, _, _, rfl, rfl, hy hb2 _ (Same.new ht1)⟩
      | false => exact iteF (hn hb2 _ (Same.new ht1))
    intro H3 e3 hD3
    have hl1 : (stars p xs).length ≤ xs.length := List.length_filter_le _ _
    have hl2 : (steps p k xs).length ≤ xs.length := by unfold steps; rw [List.length_map]; exact List.length_filter_le _ _
    have es1 : ((xs.filter fun j => decide (p[j.toNat]? = some 42)).map id).map V.int = (stars p xs).map V.int := by rw [List.map_id]; rfl
    rw [es1] at hD2
    refine ⟨_, _, (stars p xs).map V.int, (steps p k xs).map V.int, rfl, rfl, e3 _ _ hD2, hD3, sz_small (by rw [List.length_map, List.length_map]; omega), fun t ht => ?_⟩
    refine ⟨_, rfl, _, rfl, p, t, stars p xs ++ steps p k xs, rfl, hp4, rfl, .inl (.inl (.inl (by rw [upd_same, List.map_append]))), by rw [List.length_append]; omega, fun j hj => ?_, fun v H' e st => hq v H' (((e2.trans e3).trans (Same.new ht)).trans e) st⟩
    rcases List.mem_append.mp hj with h | h
    · exact hrg j (List.mem_filter.mp h).1
    · obtain ⟨j2, h2, rfl⟩ := List.mem_map.mp h
      have h3 := hrg j2 (List.mem_filter.mp h2).1
      have h4 : j2.toNat < p.length := by
        rcases Bool.or_eq_true_iff.mp (List.mem_filter.mp h2).2 with q | q
        · exact (List.getElem?_eq_some_iff.mp (of_decide_eq_true q)).1
        · exact (List.getElem?_eq_some_iff.mp (of_decide_eq_true q)).1
      show 0 ≤ j2 + 1 ∧ j2 + 1 ≤ _
      omega

theorem dec_int (i j : Int) : decide (V.int i = V.int j) = decide (i = j) := by
  by_cases h : i = j
  · subst h; simp
  · rw [decide_eq_false h]; exact decide_eq_false fun z => h (V.int.inj z)
theorem inV_two_int (i j k : Int) : inV (.int i) [.int j, .int k] = (decide (i = j) || decide (i = k)) := by
  have := inV_int i [j, k]
  rw [show [V.int j, V.int k] = [j, k].map V.int from rfl, this]
  by_cases h1 : i = j <;> by_cases h2 : i = k <;> simp [h1, h2]
def p_l_met (K : PySem.W.Frag) (a : Ad) (x y : V) (H : Hp) (Q : VK) : Prop := ∃ (L : Tx) (c : Cond) (s : Stand), CondAt K H x c ∧ okCond L c ∧ StAt K H y s ∧ fits c s ∧ ∀ H', Same H H' → Q (.bl (met c s)) H'
abbrev N_l_met : List Str := ["condition", "mark"]
theorem sc_l_met : FnScope N_l_met ["condition", "mark"] (defScope s_l_met) := ⟨rfl, rfl, rfl, by decide +kernel, rfl, by decide +kernel, by decide +kernel⟩
theorem ok_l_met {fa : Addr} {fd : FuncData} (T : Txt K mg a) (F : FnP K "_law_met" "_law_met" s_l_met fa fd) (g : mg "_law_met" = some (.ref fa)) : Cl P w K mg base 1 "_law_met" (sq2 (p_l_met K a)) := by
  refine cl_of F g (fun _ _ _ _ _ _ us hl => match us, hl with | [_, _], _ => rfl) sc_l_met (fun vs H Q h => sq2_len h) fun vs H Q h cdv A outer s hr => ?_
  obtain ⟨v_condition, v_mark, rfl, h⟩ := sq2_inv h
  refine ⟨_, (pss_cons (ps_if (pt_cmpR op_eq (pe_ix ix_tup (pv 0) pe_int (fun _ _ => rfl)) pe_str rfl) (pss_one (ps_ret (pe_and (pe_cmpR op_in_seq (pe_ix ix_tup (pv 1) pe_int (fun _ _ => rfl)) (pe_tup (pa_cons (pe_un un_neg pe_int) (pa_cons (pe_callB call_len_str (by rfl) T.fLen (by decide +kernel) (pa_cons (pe_ix ix_tup (pv 0) pe_int (fun _ _ => rfl)) pa_nil)) pa_nil))) rfl) (pe_one (pe_cmpR op_ne (pe_ix ix_tup (pv 1) pe_int (fun _ _ => rfl)) (pe_un un_neg pe_int) rfl))))) pss_nil)
      (pss_one (ps_ret (pe_ifExp (pt_cmpR op_eq (pe_ix ix_tup (pv 0) pe_int (fun _ _ => rfl)) pe_str rfl) (pe_cmpR op_in_seq (pe_callB call_len_str (by rfl) T.fLen (by decide +kernel) (pa_cons (pe_ix ix_tup (pv 0) pe_int (fun _ _ => rfl)) pa_nil)) (pv 1) rfl) (pe_cmpR op_eq (pv 1) (pe_callB call_len_str (by rfl) T.fLen (by decide +kernel) (pa_cons (pe_ix ix_tup (pv 0) pe_int (fun _ _ => rfl)) pa_nil)) rfl))))), ?_⟩
  obtain ⟨L, c, s0, hc, ok, hst, hf, hq⟩ := h
  cases c with
  | eq p =>
    obtain ⟨b, rfl, hb⟩ := hc
    match s0, hf, hst with
    | .n i, hf, hst =>
    cases (show v_mark = .int i from hst)
    refine ⟨_, rfl, _, _, 0, _, rfl, rfl, hb, rfl, rfl, _, rfl, iteF ⟨_, rfl, _, _, 0, _, rfl, rfl, hb, rfl, rfl, _, rfl, iteF ⟨_, rfl, _, rfl, _, _, 1, _, rfl, rfl, hb, rfl, _, rfl, szS (by have := ok.2; omega), rfl, ?_⟩⟩⟩
    have hq2 := hq H (Same.refl _)
    rw [tx_len]
    by_cases hi : i = (p.length : Int)
    · rw [decide_eq_true (show V.int i = V.int (p.length : Int) by rw [hi])]
      rwa [show met (.eq p) (.n i) = true from decide_eq_true hi] at hq2
    · rw [decide_eq_false (fun z => hi (V.int.inj z))]
      rwa [show met (.eq p) (.n i) = false from decide_eq_false hi] at hq2
  | beg p =>
    obtain ⟨b, rfl, hb⟩ := hc
    match s0, hf, hst with
    | .n i, hf, hst =>
    cases (show v_mark = .int i from hst)
    refine ⟨_, rfl, _, _, 0, _, rfl, rfl, hb, rfl, rfl, _, rfl, iteF ⟨_, rfl, _, _, 0, _, rfl, rfl, hb, rfl, rfl, _, rfl, iteF ⟨_, rfl, _, rfl, _, _, 1, _, rfl, rfl, hb, rfl, _, rfl, szS (by have := ok.2; omega), rfl, ?_⟩⟩⟩
    have hq2 := hq H (Same.refl _)
    rw [tx_len]
    by_cases hi : i = (p.length : Int)
    · rw [decide_eq_true (show V.int i = V.int (p.length : Int) by rw [hi])]
      rwa [show met (.beg p) (.n i) = true from decide_eq_true hi] at hq2
    · rw [decide_eq_false (fun z => hi (V.int.inj z))]
      rwa [show met (.beg p) (.n i) = false from decide_eq_false hi] at hq2
  | bet p q =>
    obtain ⟨b, rfl, hb⟩ := hc
    match s0, hf, hst with
    | .t [i, j], hf, hst =>
    obtain ⟨c0, rfl, hs2⟩ := hst
    refine ⟨_, rfl, _, _, 0, _, rfl, rfl, hb, rfl, rfl, _, rfl, iteT ?_⟩
    refine ⟨_, rfl, _, _, 0, _, rfl, rfl, hs2, rfl, _, rfl, _, rfl, _, _, 1, _, rfl, rfl, hb, rfl, _, rfl, szS (by have := ok.1.2; omega), sz_small (by simp), fun t1 ht1 => ⟨_, _, rfl, .inr (.inl (.inl upd_same)), rfl, rfl, _, rfl, ?_⟩⟩
    have e1 : Same H (upd H t1 (.tup [V.int (-2), .int ((tx p).length : Nat)])) := Same.new ht1
    have hq2 := hq _ e1
    rw [if_neg Bool.false_ne_true, tx_len]
    rw [tx_len] at hq2 e1
    rw [inV_two_int]
    have hm : met (.bet p q) (.t [i, j]) = ((decide (i = -2) || decide (i = (p.length : Int))) && !decide (j = -2)) := rfl
    rw [hm] at hq2
    cases hb2 : (decide (i = -2) || decide (i = (p.length : Int))) with
    | true =>
      rw [hb2] at hq2
      refine iteT ⟨_, rfl, _, _, 1, _, rfl, rfl, SqT.same e1 hs2, rfl, _, rfl, rfl, ?_⟩
      rw [dec_int]
      exact hq2
    | false =>
      rw [hb2] at hq2
      exact iteF hq2
  | like p =>
    obtain ⟨b, rfl, hb⟩ := hc
    match s0, hf, hst with
    | .t xs, hf, hst =>
    obtain ⟨c0, rfl, hs2⟩ := hst
    refine ⟨_, rfl, _, _, 0, _, rfl, rfl, hb, rfl, rfl, _, rfl, iteF ⟨_, rfl, _, _, 0, _, rfl, rfl, hb, rfl, rfl, _, rfl, iteT ⟨_, rfl, _, _, 1, _, rfl, rfl, hb, rfl, _, rfl, szS (by have := ok.2; omega), _, rfl, _, _, rfl, .inr hs2, rfl, flat_ints xs, ?_⟩⟩⟩
    rw [if_neg Bool.false_ne_true, tx_len, inV_int]
    exact hq H (Same.refl _)

theorem PlanAt.same {H H' : Hp} {v : V} {S : Plan} (e : Same H H') (h : PlanAt K H v S) : PlanAt K H' v S := h.mono (TS.of e)
theorem RowsAt.same {H H' : Hp} {v : V} {S : Rows} (e : Same H H') (h : RowsAt K H v S) : RowsAt K H' v S := h.mono (TS.of e)

def p_l_first_spot (K : PySem.W.Frag) (a : Ad) (x : V) (H : Hp) (Q : VK) : Prop := ∃ S, PlanAt K H x S ∧ OkPlan S ∧ ∀ v H', Same H H' → SpotAt K H' v (first S) → Q v H'
abbrev N_l_first_spot : List Str := ["plan"]
theorem sc_l_first_spot : FnScope N_l_first_spot ["plan"] (defScope s_l_first_spot) := ⟨rfl, rfl, rfl, by decide +kernel, rfl, by decide +kernel, by decide +kernel⟩
theorem ok_l_first_spot {fa : Addr} {fd : FuncData} (T : Txt K mg a) (F : FnP K "_law_first_spot" "_law_first_spot" s_l_first_spot fa fd) (g : mg "_law_first_spot" = some (.ref fa)) (c_l_first_stand : Cl P w K mg base 2 "_law_first_stand" (sq1 (p_l_first_stand K a))) : Cl P w K mg base 3 "_law_first_spot" (sq1 (p_l_first_spot K a)) := by
  refine cl_of F g (fun _ _ _ _ _ _ us hl => match us, hl with | [_], _ => rfl) sc_l_first_spot (fun vs H Q h => sq1_len h) fun vs H Q h cdv A outer s hr => ?_
  obtain ⟨v_plan, rfl, h⟩ := sq1_inv h
  refine ⟨_, (pss_one (ps_ret (pe_tup (pa_cons pe_int (pa_cons (pe_cl c_l_first_stand hr (pa_cons (pe_ix ix_tup (pv 0) pe_int (fun _ _ => rfl)) pa_nil)) (pa_cons pe_int (pa_cons (pe_cl c_l_first_stand hr (pa_cons (pe_ix ix_tup (pv 0) pe_int (fun _ _ => rfl)) pa_nil)) pa_nil))))))), ?_⟩
  obtain ⟨S, ⟨b, v1, v2, v3, v4, rfl, hb, hR1, hq1, hR2, hc⟩, ok, hq⟩ := h
  refine ⟨_, rfl, _, _, 2, _, rfl, rfl, hb, rfl, S.L, S.q, hq1, ok.q, fun w1 H1 e1 s1 => ?_⟩
  refine ⟨_, rfl, _, _, 4, _, rfl, rfl, SqT.same e1 hb, rfl, S.L, S.c, hc.same e1, ok.c, fun w2 H2 e2 s2 => ?_⟩
  refine ⟨sz_small (by simp), fun t ht => hq _ _ ((e1.trans e2).trans (Same.new ht)) ⟨t, w1, w2, rfl, .inl (.inl upd_same), s1.same (e2.trans (Same.new ht)), s2.same (Same.new ht)⟩⟩

def p_l_next_spot (K : PySem.W.Frag) (a : Ad) (x y z : V) (H : Hp) (Q : VK) : Prop := ∃ S s c, PlanAt K H x S ∧ OkPlan S ∧ SpotAt K H y s ∧ isSpot S s = true ∧ z = .str (tx [c]) ∧ c ∈ S.L ∧ ∀ v H', Same H H' → SpotAt K H' v (next S s c) → Q v H'
abbrev N_l_next_spot : List Str := ["plan", "spot", "letter", "letters", "index", "question", "rows", "condition", "state", "key", "place", "made", "asked", "wished"]
theorem sc_l_next_spot : FnScope N_l_next_spot ["plan", "spot", "letter"] (defScope s_l_next_spot) := ⟨rfl, rfl, rfl, by decide +kernel, rfl, by decide +kernel, by decide +kernel⟩
theorem ok_l_next_spot {fa : Addr} {fd : FuncData} (T : Txt K mg a) (F : FnP K "_law_next_spot" "_law_next_spot" s_l_next_spot fa fd) (g : mg "_law_next_spot" = some (.ref fa)) (c_l_turn : Cl P w K mg base 1 "_law_turn" (sq4 (p_l_turn K a))) (c_l_next_stand : Cl P w K mg base 2 "_law_next_stand" (sq4 (p_l_next_stand K a))) : Cl P w K mg base 3 "_law_next_spot" (sq3 (p_l_next_spot K a)) := by
  refine cl_of F g (fun _ _ _ _ _ _ us hl => match us, hl with | [_, _, _], _ => rfl) sc_l_next_spot (fun vs H Q h => sq3_len h) fun vs H Q h cdv A outer s hr => ?_
  obtain ⟨v_plan, v_spot, v_letter, rfl, h⟩ := sq3_inv h
  refine ⟨_, (pss_cons (ps_asg (pv 0) (pg_tup (by rfl) (pgs_cons (pg_name (i := 3) sc_l_next_spot.nd rfl (Or.inl rfl)) (pgs_cons (pg_name (i := 4) sc_l_next_spot.nd rfl (Or.inl rfl)) (pgs_cons (pg_name (i := 5) sc_l_next_spot.nd rfl (Or.inl rfl)) (pgs_cons (pg_name (i := 6) sc_l_next_spot.nd rfl (Or.inl rfl)) (pgs_cons (pg_name (i := 7) sc_l_next_spot.nd rfl (Or.inl rfl)) pgs_nil)))))))
      (pss_cons (ps_asg (pe_cl c_l_turn hr (pa_cons (pv 3) (pa_cons (pv 4) (pa_cons (pe_ix ix_tup (pv 1) pe_int (fun _ _ => rfl)) (pa_cons (pv 2) pa_nil))))) (pg_tup (by rfl) (pgs_cons (pg_name (i := 8) sc_l_next_spot.nd rfl (Or.inl rfl)) (pgs_cons (pg_name (i := 9) sc_l_next_spot.nd rfl (Or.inl rfl)) pgs_nil))))
      (pss_cons (ps_asg (pe_cl c_l_turn hr (pa_cons (pv 3) (pa_cons (pv 6) (pa_cons (pe_ix ix_tup (pv 1) pe_int (fun _ _ => rfl)) (pa_cons (pv 2) pa_nil))))) (pg_tup (by rfl) (pgs_cons (pg_name (i := 10) sc_l_next_spot.nd rfl (Or.inl rfl)) (pgs_cons (pg_name (i := 11) sc_l_next_spot.nd rfl (Or.inl rfl)) pgs_nil))))
      (pss_cons (ps_set (i := 12) sc_l_next_spot.nd rfl (Or.inl rfl) (pe_ifExp (pt_cmpR op_eq (pv 9) pe_str rfl) (pe_ix ix_tup (pv 1) pe_int (fun _ _ => rfl)) (pe_cl c_l_next_stand hr (pa_cons (pv 3) (pa_cons (pv 5) (pa_cons (pe_ix ix_tup (pv 1) pe_int (fun _ _ => rfl)) (pa_cons (pv 9) pa_nil)))))))
      (pss_cons (ps_set (i := 13) sc_l_next_spot.nd rfl (Or.inl rfl) (pe_ifExp (pt_cmpR op_eq (pv 11) pe_str rfl) (pe_ix ix_tup (pv 1) pe_int (fun _ _ => rfl)) (pe_cl c_l_next_stand hr (pa_cons (pv 3) (pa_cons (pv 7) (pa_cons (pe_ix ix_tup (pv 1) pe_int (fun _ _ => rfl)) (pa_cons (pv 11) pa_nil)))))))
      (pss_one (ps_ret (pe_tup (pa_cons (pv 8) (pa_cons (pv 12) (pa_cons (pv 10) (pa_cons (pv 13) pa_nil)))))))))))), ?_⟩
  obtain ⟨S, s0, ch, ⟨b, w1, w2, w3, w4, rfl, hb0, hR1, hq1, hR2, hc⟩, ok, ⟨t0, v1, v3, rfl, ht0, hv1, hv3⟩, hsp, rfl, hch, hq⟩ := h
  obtain ⟨⟨ha, hb⟩, hx, hy⟩ := isSpot_iff.mp hsp
  obtain ⟨_, _, _, ok1⟩ := turn_at ok.R1 ha.1 ha.2 hch
  obtain ⟨_, _, _, ok2⟩ := turn_at ok.R2 hb.1 hb.2 hch
  refine ⟨_, rfl, _, _, rfl, hb0, rfl, _, _, rfl, _, _, rfl, _, _, rfl, _, _, rfl, _, _, rfl, rfl, ?_⟩
  refine ⟨_, rfl, _, rfl, _, rfl, _, _, 0, _, rfl, rfl, ht0, rfl, _, rfl, S.L, S.R1, s0.a, ch, rfl, ok.L, hR1, ok.R1, rfl, ha, rfl, hch, ?_⟩
  rintro _ ⟨t1, rfl, hq1t⟩
  refine ⟨_, _, rfl, hq1t, rfl, _, _, rfl, _, _, rfl, rfl, ?_⟩
  refine ⟨_, rfl, _, rfl, _, rfl, _, _, 2, _, rfl, rfl, ht0, rfl, _, rfl, S.L, S.R2, s0.b, ch, rfl, ok.L, hR2, ok.R2, rfl, hb, rfl, hch, ?_⟩
  rintro _ ⟨t2, rfl, hq2t⟩
  refine ⟨_, _, rfl, hq2t, rfl, _, _, rfl, _, _, rfl, rfl, ?_⟩
  have en : next S s0 ch = ⟨(turn S.R1 S.L s0.a ch).1, after1 S.L S.q s0.x (turn S.R1 S.L s0.a ch).2, (turn S.R2 S.L s0.b ch).1, after1 S.L S.c s0.y (turn S.R2 S.L s0.b ch).2⟩ := rfl
  rw [en] at hq
  generalize turn S.R1 S.L s0.a ch = T1 at *
  generalize turn S.R2 S.L s0.b ch = T2 at *
  obtain ⟨n1, o1⟩ := T1
  obtain ⟨n2, o2⟩ := T2
  have nil_eq : ∀ c : Nat, decide (V.str (tx [c]) = V.str (Str.ofString "")) = false := fun c => decide_eq_false fun z => by injection z with z; injection z with z; cases z
  rcases ok1.2 with ho1 | ⟨k1, hk1, ho1⟩
  · have ho1 : o1 = [] := ho1
    subst ho1
    refine ⟨_, rfl, rfl, _, rfl, iteT ⟨_, rfl, _, _, 1, _, rfl, rfl, ht0, rfl, ?_⟩⟩
    rcases ok2.2 with ho2 | ⟨k2, hk2, ho2⟩
    · have ho2 : o2 = [] := ho2
      subst ho2
      refine ⟨_, rfl, rfl, _, rfl, iteT ⟨_, rfl, _, _, 3, _, rfl, rfl, ht0, rfl, ?_⟩⟩
      exact ⟨_, rfl, _, rfl, _, rfl, _, rfl, sz_small (by simp), fun t ht => hq _ _ (Same.new ht) ⟨t, _, _, rfl, .inl (.inl upd_same), hv1.same (Same.new ht), hv3.same (Same.new ht)⟩⟩
    · have ho2 : o2 = [k2] := ho2
      subst ho2
      refine ⟨_, rfl, rfl, _, rfl, ?_⟩
      rw [nil_eq k2]
      refine iteF ⟨_, rfl, _, rfl, _, rfl, _, _, 3, _, rfl, rfl, ht0, rfl, _, rfl, S.L, S.c, s0.y, k2, rfl, ok.L, hc, ok.c, hv3, hy, rfl, hk2, fun v2 H2 e2 s2 => ?_⟩
      exact ⟨_, rfl, _, rfl, _, rfl, _, rfl, sz_small (by simp), fun t ht => hq _ _ (e2.trans (Same.new ht)) ⟨t, _, _, rfl, .inl (.inl upd_same), hv1.same (e2.trans (Same.new ht)), s2.same (Same.new ht)⟩⟩
  · have ho1 : o1 = [k1] := ho1
    subst ho1
    refine ⟨_, rfl, rfl, _, rfl, ?_⟩
    rw [nil_eq k1]
    refine iteF ⟨_, rfl, _, rfl, _, rfl, _, _, 1, _, rfl, rfl, ht0, rfl, _, rfl, S.L, S.q, s0.x, k1, rfl, ok.L, hq1, ok.q, hv1, hx, rfl, hk1, fun v1 H1 e1 s1 => ?_⟩
    rcases ok2.2 with ho2 | ⟨k2, hk2, ho2⟩
    · have ho2 : o2 = [] := ho2
      subst ho2
      refine ⟨_, rfl, rfl, _, rfl, iteT ⟨_, rfl, _, _, 3, _, rfl, rfl, SqT.same e1 ht0, rfl, ?_⟩⟩
      exact ⟨_, rfl, _, rfl, _, rfl, _, rfl, sz_small (by simp), fun t ht => hq _ _ (e1.trans (Same.new ht)) ⟨t, _, _, rfl, .inl (.inl upd_same), s1.same (Same.new ht), hv3.same (e1.trans (Same.new ht))⟩⟩
    · have ho2 : o2 = [k2] := ho2
      subst ho2
      refine ⟨_, rfl, rfl, _, rfl, ?_⟩
      rw [nil_eq k2]
      refine iteF ⟨_, rfl, _, rfl, _, rfl, _, _, 3, _, rfl, rfl, SqT.same e1 ht0, rfl, _, rfl, S.L, S.c, s0.y, k2, rfl, ok.L, hc.same e1, ok.c, hv3.same e1, hy, rfl, hk2, fun v2 H2 e2 s2 => ?_⟩
      exact ⟨_, rfl, _, rfl, _, rfl, _, rfl, sz_small (by simp), fun t ht => hq _ _ ((e1.trans e2).trans (Same.new ht)) ⟨t, _, _, rfl, .inl (.inl upd_same), s1.same (e2.trans (Same.new ht)), s2.same (Same.new ht)⟩⟩

def p_l_is_mark (K : PySem.W.Frag) (a : Ad) (x y : V) (H : Hp) (Q : VK) : Prop := ∃ (L : Tx) (c : Cond) (s : Stand), CondAt K H x c ∧ okCond L c ∧ StAt K H y s ∧ fits c s ∧ ∀ H', Same H H' → Q (.bl (okStand c s)) H'
abbrev N_l_is_mark : List Str := ["condition", "mark", "word", "text", "place"]
theorem sc_l_is_mark : FnScope N_l_is_mark ["condition", "mark"] (defScope s_l_is_mark) := ⟨rfl, rfl, rfl, by decide +kernel, rfl, by decide +kernel, by decide +kernel⟩
theorem ok_l_is_mark {fa : Addr} {fd : FuncData} (T : Txt K mg a) (F : FnP K "_law_is_mark" "_law_is_mark" s_l_is_mark fa fd) (g : mg "_law_is_mark" = some (.ref fa)) (c_l_led : Cl P w K mg base 1 "_law_led" (sq2 (p_l_led K a))) : Cl P w K mg base 2 "_law_is_mark" (sq2 (p_l_is_mark K a)) := by
  refine cl_of F g (fun _ _ _ _ _ _ us hl => match us, hl with | [_, _], _ => rfl) sc_l_is_mark (fun vs H Q h => sq2_len h) fun vs H Q h cdv A outer s hr => ?_
  obtain ⟨v_condition, v_mark, rfl, h⟩ := sq2_inv h
  refine ⟨_, (pss_cons (ps_asg (pe_slice sl_tupA (pv 0) po_none (po_some pe_int)) (pg_tup (by rfl) (pgs_cons (pg_name (i := 2) sc_l_is_mark.nd rfl (Or.inl rfl)) (pgs_cons (pg_name (i := 3) sc_l_is_mark.nd rfl (Or.inr rfl)) pgs_nil))))
      (pss_cons (ps_if (pt_cmpR op_eq (pv 2) pe_str rfl) (pss_one (ps_ret (pe_and (pe_chain op_le op_le (pe_un un_neg pe_int) (pe_ix ix_tup (pv 1) pe_int (fun _ _ => rfl)) (pe_callB call_len_str (by rfl) T.fLen (by decide +kernel) (pa_cons (pv 3) pa_nil))) (pe_one (pe_chain op_le op_le (pe_un un_neg pe_int) (pe_ix ix_tup (pv 1) pe_int (fun _ _ => rfl)) (pe_callB call_len_str (by rfl) T.fLen (by decide +kernel) (pa_cons (pe_ix ix_tup (pv 0) pe_int (fun _ _ => rfl)) pa_nil))))))) pss_nil)
      (pss_cons (ps_if (pt_cmpR op_eq (pv 2) pe_str rfl) (pss_cons (ps_if (PW.pt (pw_or (pt_cmpR (op_neD hr.units) (pe_callTy call_list_of (by rfl) T.fList (by decide +kernel) (pa_cons (pv 1) pa_nil)) (pe_callB (cr_sortedSet rfl) (by rfl) T.fSorted (by decide +kernel) (pa_cons (pe_callTy (call_setI rfl) (by rfl) T.fSet (by decide +kernel) (pa_cons (pv 1) pa_nil)) pa_nil)) rfl) (pw_or1 (pt_not (pt_val (pe_callB (cr_all rfl) (by rfl) T.fAll (by decide +kernel) (pa_cons (pe_lc (own := [("place", 4)]) (g := gName 4) (tt := tYes) rfl sc_l_is_mark.nd (pi_tup (pv 1)) (blkOk_by (own := [("place", 4)]) (N := N_l_is_mark) (sc := defScope s_l_is_mark) (by decide +kernel)) (fun _ _ _ _ _ => pg_name (i := 4) sc_l_is_mark.nd rfl (Or.inl rfl)) (fun _ _ _ _ _ => pts_nil) (fun _ _ _ _ _ => (pe_chain op_le op_le pe_int (pv 4) (pe_callB call_len_str (by rfl) T.fLen (by decide +kernel) (pa_cons (pv 3) pa_nil))))) pa_nil)) (fun _ => rfl)))))) (pss_one (ps_ret pe_bl)) pss_nil)
      (pss_one (ps_ret (pe_cmpR (op_eqD hr.units) (pe_cl c_l_led hr (pa_cons (pv 3) (pa_cons (pv 1) pa_nil))) (pv 1) rfl)))) pss_nil)
      (pss_one (ps_ret (pe_chain op_le op_le (pe_un un_neg pe_int) (pv 1) (pe_callB call_len_str (by rfl) T.fLen (by decide +kernel) (pa_cons (pv 3) pa_nil)))))))), ?_⟩
  obtain ⟨L, c, s0, hc, ok, hst, hf, hq⟩ := h
  cases c with
  | eq p =>
    obtain ⟨b, rfl, hb⟩ := hc
    match s0, hf, hst with
    | .n i, hf, hst =>
    cases (show v_mark = .int i from hst)
    refine ⟨_, rfl, 2, rfl, _, _, rfl, hb, fun _ => ?_, fun z => absurd sl2 z⟩
    refine ⟨_, _, rfl, hb, rfl, _, _, rfl, _, _, rfl, rfl, ?_⟩
    refine ⟨_, rfl, rfl, _, rfl, iteF ⟨_, rfl, rfl, _, rfl, iteF ⟨_, rfl, _, rfl, _, _, rfl, rfl, _, rfl, ?_⟩⟩⟩
    have hq2 := hq H (Same.refl _)
    rw [show okStand (.eq p) (.n i) = (decide (-1 ≤ i) && decide (i ≤ (p.length : Int))) from rfl] at hq2
    cases h1 : decide (-1 ≤ i) with
    | true =>
      rw [h1] at hq2
      refine iteT ⟨_, rfl, _, rfl, szS (by have := ok.2; omega), _, _, rfl, rfl, ?_⟩
      rw [tx_len]
      exact hq2
    | false =>
      rw [h1] at hq2
      exact iteF hq2
  | beg p =>
    obtain ⟨b, rfl, hb⟩ := hc
    match s0, hf, hst with
    | .n i, hf, hst =>
    cases (show v_mark = .int i from hst)
    refine ⟨_, rfl, 2, rfl, _, _, rfl, hb, fun _ => ?_, fun z => absurd sl2 z⟩
    refine ⟨_, _, rfl, hb, rfl, _, _, rfl, _, _, rfl, rfl, ?_⟩
    refine ⟨_, rfl, rfl, _, rfl, iteF ⟨_, rfl, rfl, _, rfl, iteF ⟨_, rfl, _, rfl, _, _, rfl, rfl, _, rfl, ?_⟩⟩⟩
    have hq2 := hq H (Same.refl _)
    rw [show okStand (.beg p) (.n i) = (decide (-1 ≤ i) && decide (i ≤ (p.length : Int))) from rfl] at hq2
    cases h1 : decide (-1 ≤ i) with
    | true =>
      rw [h1] at hq2
      refine iteT ⟨_, rfl, _, rfl, szS (by have := ok.2; omega), _, _, rfl, rfl, ?_⟩
      rw [tx_len]
      exact hq2
    | false =>
      rw [h1] at hq2
      exact iteF hq2
  | bet p q =>
    obtain ⟨b, rfl, hb⟩ := hc
    match s0, hf, hst with
    | .t [i, j], hf, hst =>
    obtain ⟨c0, rfl, hs2⟩ := hst
    refine ⟨_, rfl, 2, rfl, _, _, rfl, hb, fun z => absurd z sl3, fun _ t0 ht0 => ?_⟩
    refine ⟨_, _, rfl, .inl (.inl upd_same), rfl, _, _, rfl, _, _, rfl, rfl, ?_⟩
    have e0 := Same.new (o := .tup (cutV [V.str "between", .str (tx p), .str (tx q)] none (some 2))) ht0
    have hq2 := hq _ e0
    rw [show okStand (.bet p q) (.t [i, j]) = ((decide (-2 ≤ i) && decide (i ≤ (p.length : Int))) && (decide (-2 ≤ j) && decide (j ≤ (q.length : Int)))) from rfl] at hq2
    refine ⟨_, rfl, rfl, _, rfl, iteT ?_⟩
    refine ⟨_, rfl, _, rfl, _, _, 0, _, rfl, rfl, SqT.same e0 hs2, rfl, _, _, rfl, rfl, _, rfl, ?_⟩
    cases h1 : decide (-2 ≤ i) with
    | false =>
      rw [h1] at hq2
      exact iteF ⟨_, rfl, iteF hq2⟩
    | true =>
      rw [h1] at hq2
      refine iteT ⟨_, rfl, _, rfl, szS (by have := ok.1.2; omega), _, _, rfl, rfl, _, rfl, ?_⟩
      rw [tx_len]
      cases h2 : decide (i ≤ (p.length : Int)) with
      | false =>
        rw [h2] at hq2
        exact iteF hq2
      | true =>
        rw [h2] at hq2
        refine iteT ⟨_, rfl, _, rfl, _, _, 1, _, rfl, rfl, SqT.same e0 hs2, rfl, _, _, rfl, rfl, _, rfl, ?_⟩
        cases h3 : decide (-2 ≤ j) with
        | false =>
          rw [h3] at hq2
          exact iteF hq2
        | true =>
          rw [h3] at hq2
          refine iteT ⟨_, rfl, _, _, 2, _, rfl, rfl, SqT.same e0 hb, rfl, _, rfl, szS (by have := ok.2.2; omega), _, _, rfl, rfl, ?_⟩
          rw [tx_len]
          exact hq2
  | like p =>
    obtain ⟨b, rfl, hb⟩ := hc
    match s0, hf, hst with
    | .t xs, hf, hst =>
    obtain ⟨c0, rfl, hs2⟩ := hst
    have hxl : xs.length ≤ 30 := hf
    have hp4 := ok.2
    have hm : okStand (.like p) (.t xs) = (xs.all (fun k => decide (0 ≤ k) && decide (k ≤ (p.length : Int))) && decide (led p xs = xs)) := rfl
    rw [hm] at hq
    refine ⟨_, rfl, 2, rfl, _, _, rfl, hb, fun _ => ?_, fun z => absurd sl2 z⟩
    refine ⟨_, _, rfl, hb, rfl, _, _, rfl, _, _, rfl, rfl, ?_⟩
    refine ⟨_, rfl, rfl, _, rfl, iteF ⟨_, rfl, rfl, _, rfl, iteT ?_⟩⟩
    refine ⟨_, rfl, _, _, rfl, .inr hs2, fun l1 hl1 => ?_⟩
    have e1 : Same H (upd H l1 (.lst (xs.map V.int))) := Same.new hl1
    refine ⟨_, rfl, c0, xs, rfl, .inr (SqT.same e1 hs2), by omega, fun s n hs hn => ?_⟩
    have e2 := e1.trans (Same.new (o := SetO w s (fun j => decide (j ∈ xs)) n) hs)
    refine ⟨s, _, n, rfl, upd_same, by omega, fun ns t so hmem hnl ht => ?_⟩
    have e3 := e2.trans (Same.new (o := .lst (ns.map V.int)) ht)
    have ne1 : l1 ≠ s := fun z => by subst z; rw [upd_same] at hs; cases hs
    have ne2 : l1 ≠ t := fun z => by subst z; rw [upd_ne ne1, upd_same] at ht; cases ht
    have shx : ∀ zs : List Int, SeqAt.shaped (.list (zs.map PyData.int)) = true := fun zs => by
      unfold SeqAt.shaped
      rw [PyData.canLay0, lay_ints, PyData.depth, dep_ints, decide_eq_true (by omega)]
      rfl
    refine ⟨.list (xs.map .int), .list (ns.map .int), .lst (.inl (.inl (by rw [upd_ne ne2, upd_ne ne1, upd_same]))) (dp_ints xs), .lst (.inl (.inl upd_same)) (dp_ints ns), shx xs, shx ns, _, rfl, ?_⟩
    rw [PyData.eqv, eqv_ints]
    by_cases hxn : xs = ns
    · rw [decide_eq_true hxn]
      refine iteF ⟨_, rfl, _, rfl, ⟨_, SqT.same e3 hs2⟩, fun D hD => lc_seq K walk_tup (fun _ v i => v = .int i) xs (fun k => decide (0 ≤ k) && decide (k ≤ (p.length : Int))) (by omega) hD (fun H h => SqT.same (e3.trans h) hs2) (paired_ints xs) ?_ ?_⟩
      · intro v j Hc Yes hj hv e hy
        subst hv
        refine ⟨_, rfl, _, _, rfl, rfl, _, rfl, ?_⟩
        cases h1 : decide (0 ≤ j) with
        | false =>
          rw [h1] at hy
          exact iteF (hy _ (Same.refl _))
        | true =>
          rw [h1] at hy
          refine iteT ⟨_, rfl, _, rfl, szS (by omega), _, _, rfl, rfl, ?_⟩
          rw [tx_len]
          exact hy _ (Same.refl _)
      · intro H4 e4 hD4
        refine ⟨D, _, rfl, .inl (.inl hD4), ?_⟩
        rw [all_map]
        cases hall : xs.all (fun k => decide (0 ≤ k) && decide (k ≤ (p.length : Int))) with
        | false =>
          rw [hall] at hq
          exact ⟨false, rfl, iteT (hq _ (e3.trans e4))⟩
        | true =>
          rw [hall] at hq
          refine ⟨true, rfl, iteF ⟨_, rfl, _, rfl, p, c0, xs, rfl, hp4, rfl, .inr (SqT.same (e3.trans e4) hs2), by omega, fun k hk => ?_, fun v H' e st => ?_⟩⟩
          · have := List.all_eq_true.mp hall k hk
            simpa using this
          · refine ⟨_, rfl, _, _, st.dp, StAt.dp (s := .t xs) ⟨c0, rfl, SqT.same ((e3.trans e4).trans e) hs2⟩, shaped_sdS _, shaped_sdS _, ?_⟩
            have := hq H' ((e3.trans e4).trans e)
            rw [Bool.true_and] at this
            rw [eqv_sdS]
            rw [show decide (Stand.t (led p xs) = Stand.t xs) = decide (led p xs = xs) by
              by_cases h : led p xs = xs
              · rw [h]; simp
              · rw [decide_eq_false h]; exact decide_eq_false fun z => h (Stand.t.inj z)]
            exact this
    · rw [decide_eq_false hxn]
      have hne : led p xs ≠ xs := fun z => by
        have s1 := led_sorted p xs
        rw [z] at s1
        exact hxn (asc_unique s1 so fun k => by rw [hmem]; simp)
      have := hq _ e3
      rw [decide_eq_false hne, Bool.and_false] at this
      exact iteT this

def p_l_is_spot (K : PySem.W.Frag) (a : Ad) (x y : V) (H : Hp) (Q : VK) : Prop := ∃ S s, PlanAt K H x S ∧ OkPlan S ∧ SpotAt K H y s ∧ fitsSpot S s ∧ ∀ H', Same H H' → Q (.bl (isSpot S s)) H'
abbrev N_l_is_spot : List Str := ["plan", "spot"]
theorem sc_l_is_spot : FnScope N_l_is_spot ["plan", "spot"] (defScope s_l_is_spot) := ⟨rfl, rfl, rfl, by decide +kernel, rfl, by decide +kernel, by decide +kernel⟩
theorem ok_l_is_spot {fa : Addr} {fd : FuncData} (T : Txt K mg a) (F : FnP K "_law_is_spot" "_law_is_spot" s_l_is_spot fa fd) (g : mg "_law_is_spot" = some (.ref fa)) (c_l_is_mark : Cl P w K mg base 2 "_law_is_mark" (sq2 (p_l_is_mark K a))) : Cl P w K mg base 3 "_law_is_spot" (sq2 (p_l_is_spot K a)) := by
  refine cl_of F g (fun _ _ _ _ _ _ us hl => match us, hl with | [_, _], _ => rfl) sc_l_is_spot (fun vs H Q h => sq2_len h) fun vs H Q h cdv A outer s hr => ?_
  obtain ⟨v_plan, v_spot, rfl, h⟩ := sq2_inv h
  refine ⟨_, (pss_cons (ps_if (PW.pt (pw_or (pt_cmpR op_notInR (pe_ix ix_tup (pv 1) pe_int (fun _ _ => rfl)) (pe_callTy call_rng1 (by rfl) T.fRange (by decide +kernel) (pa_cons (pe_callB call_len_seq (by rfl) T.fLen (by decide +kernel) (pa_cons (pe_ix ix_tup (pv 0) pe_int (fun _ _ => rfl)) pa_nil)) pa_nil)) rfl) (pw_or1 (pt_cmpR op_notInR (pe_ix ix_tup (pv 1) pe_int (fun _ _ => rfl)) (pe_callTy call_rng1 (by rfl) T.fRange (by decide +kernel) (pa_cons (pe_callB call_len_seq (by rfl) T.fLen (by decide +kernel) (pa_cons (pe_ix ix_tup (pv 0) pe_int (fun _ _ => rfl)) pa_nil)) pa_nil)) rfl)))) (pss_one (ps_ret pe_bl)) pss_nil)
      (pss_one (ps_ret (pe_and (pe_cl c_l_is_mark hr (pa_cons (pe_ix ix_tup (pv 0) pe_int (fun _ _ => rfl)) (pa_cons (pe_ix ix_tup (pv 1) pe_int (fun _ _ => rfl)) pa_nil))) (pe_one (pe_cl c_l_is_mark hr (pa_cons (pe_ix ix_tup (pv 0) pe_int (fun _ _ => rfl)) (pa_cons (pe_ix ix_tup (pv 1) pe_int (fun _ _ => rfl)) pa_nil)))))))), ?_⟩
  obtain ⟨S, s0, ⟨b, w1, w2, w3, w4, rfl, hb0, ⟨c1, r1, rfl, hc1, hp1⟩, hq1, ⟨c2, r2, rfl, hc2, hp2⟩, hc⟩, ok, ⟨t0, v1, v3, rfl, ht0, hv1, hv3⟩, ⟨hf1, hf2⟩, hq⟩ := h
  have hd : isSpot S s0 = ((decide (0 ≤ s0.a ∧ s0.a < (S.R1.length : Int)) && decide (0 ≤ s0.b ∧ s0.b < (S.R2.length : Int))) && (okStand S.q s0.x && okStand S.c s0.y)) := by
    unfold isSpot
    rw [Bool.decide_and, Bool.decide_and]
  rw [hd] at hq
  have l1 := paired_len hp1
  have l2 := paired_len hp2
  refine ⟨_, rfl, _, _, 0, _, rfl, rfl, ht0, rfl, _, rfl, _, _, 1, _, rfl, rfl, hb0, rfl, _, _, rfl, .inr hc1, _, rfl, fun g1 hg1 => ⟨s0.a, g1, 0, _, rfl, rfl, upd_same, _, rfl, ?_⟩⟩
  rw [l1]
  have e1 : Same H (upd H g1 (.rng 0 (S.R1.length : Int))) := Same.new hg1
  cases ha : decide (0 ≤ s0.a ∧ s0.a < (S.R1.length : Int)) with
  | false =>
    rw [ha] at hq
    exact iteT (hq _ e1)
  | true =>
    rw [ha] at hq
    refine iteF ⟨_, rfl, _, _, 2, _, rfl, rfl, SqT.same e1 ht0, rfl, _, rfl, _, _, 3, _, rfl, rfl, SqT.same e1 hb0, rfl, _, _, rfl, .inr (SqT.same e1 hc2), _, rfl, fun g2 hg2 => ⟨s0.b, g2, 0, _, rfl, rfl, upd_same, _, rfl, ?_⟩⟩
    rw [l2]
    have e2 := e1.trans (Same.new (o := .rng 0 (S.R2.length : Int)) hg2)
    cases hb : decide (0 ≤ s0.b ∧ s0.b < (S.R2.length : Int)) with
    | false =>
      rw [hb] at hq
      exact iteT (hq _ e2)
    | true =>
      rw [hb] at hq
      refine iteF ⟨_, rfl, _, _, 2, _, rfl, rfl, SqT.same e2 hb0, rfl, _, rfl, _, _, 1, _, rfl, rfl, SqT.same e2 ht0, rfl, S.L, S.q, s0.x, hq1.same e2, ok.q, hv1.same e2, hf1, fun H3 e3 => ⟨_, rfl, ?_⟩⟩
      cases hx : okStand S.q s0.x with
      | false =>
        rw [hx] at hq
        exact iteF (hq _ (e2.trans e3))
      | true =>
        rw [hx] at hq
        have e23 := e2.trans e3
        exact iteT ⟨_, rfl, _, _, 4, _, rfl, rfl, SqT.same e23 hb0, rfl, _, rfl, _, _, 3, _, rfl, rfl, SqT.same e23 ht0, rfl, S.L, S.c, s0.y, hc.same e23, ok.c, hv3.same e23, hf2, fun H4 e4 => hq H4 (e23.trans e4)⟩

/-- a pair of truths -/
def KindAt (K : PySem.W.Frag) (H : Hp) (v : V) (k : Kind) : Prop := ∃ b, v = .ref b ∧ SqT K H b [.bl k.1, .bl k.2]
def p_l_kind (K : PySem.W.Frag) (a : Ad) (x y : V) (H : Hp) (Q : VK) : Prop := ∃ S s, PlanAt K H x S ∧ OkPlan S ∧ SpotAt K H y s ∧ fitsSpot S s ∧ ∀ v H', Same H H' → KindAt K H' v (kind S s) → Q v H'
abbrev N_l_kind : List Str := ["plan", "spot"]
theorem sc_l_kind : FnScope N_l_kind ["plan", "spot"] (defScope s_l_kind) := ⟨rfl, rfl, rfl, by decide +kernel, rfl, by decide +kernel, by decide +kernel⟩
theorem ok_l_kind {fa : Addr} {fd : FuncData} (T : Txt K mg a) (F : FnP K "_law_kind" "_law_kind" s_l_kind fa fd) (g : mg "_law_kind" = some (.ref fa)) (c_l_met : Cl P w K mg base 1 "_law_met" (sq2 (p_l_met K a))) : Cl P w K mg base 2 "_law_kind" (sq2 (p_l_kind K a)) := by
  refine cl_of F g (fun _ _ _ _ _ _ us hl => match us, hl with | [_, _], _ => rfl) sc_l_kind (fun vs H Q h => sq2_len h) fun vs H Q h cdv A outer s hr => ?_
  obtain ⟨v_plan, v_spot, rfl, h⟩ := sq2_inv h
  refine ⟨_, (pss_one (ps_ret (pe_tup (pa_cons (pe_cl c_l_met hr (pa_cons (pe_ix ix_tup (pv 0) pe_int (fun _ _ => rfl)) (pa_cons (pe_ix ix_tup (pv 1) pe_int (fun _ _ => rfl)) pa_nil))) (pa_cons (pe_cl c_l_met hr (pa_cons (pe_ix ix_tup (pv 0) pe_int (fun _ _ => rfl)) (pa_cons (pe_ix ix_tup (pv 1) pe_int (fun _ _ => rfl)) pa_nil))) pa_nil))))), ?_⟩
  obtain ⟨S, s0, ⟨b, w1, w2, w3, w4, rfl, hb0, hR1, hq1, hR2, hc⟩, ok, ⟨t0, v1, v3, rfl, ht0, hv1, hv3⟩, ⟨hf1, hf2⟩, hq⟩ := h
  refine ⟨_, rfl, _, _, 2, _, rfl, rfl, hb0, rfl, _, rfl, _, _, 1, _, rfl, rfl, ht0, rfl, S.L, S.q, s0.x, hq1, ok.q, hv1, hf1, fun H1 e1 => ?_⟩
  refine ⟨_, rfl, _, _, 4, _, rfl, rfl, SqT.same e1 hb0, rfl, _, rfl, _, _, 3, _, rfl, rfl, SqT.same e1 ht0, rfl, S.L, S.c, s0.y, hc.same e1, ok.c, hv3.same e1, hf2, fun H2 e2 => ?_⟩
  exact ⟨sz_small (by simp), fun t ht => hq _ _ ((e1.trans e2).trans (Same.new ht)) ⟨t, rfl, .inl (.inl upd_same)⟩⟩
end K5

set_option Elab.async false
set_option linter.all false
set_option maxRecDepth 100000
set_option maxHeartbeats 4000000
/-! the law's own steps, part three. -/
namespace K5
open PySem PySem.Spec PyProof.Rows L2
variable {P : Program} {w : World} {K : PySem.W.Frag} {mg : Str → Option Value} {base : Heap} {a : Ad}

theorem PairN.mono {H H' : Hp} {v : V} {x : NIt} (t : TS K H H') (h : PairN K H v x) : PairN K H' v x := let ⟨T, e, q, s⟩ := h; ⟨T, e, t _ _ q, s.mono t⟩
theorem KindAt.mono {H H' : Hp} {v : V} {k : Kind} (t : TS K H H') (h : KindAt K H v k) : KindAt K H' v k := let ⟨b, e, q⟩ := h; ⟨b, e, t _ _ q⟩
def kdD (k : Kind) : PyData := .tuple [.bool k.1, .bool k.2]
theorem KindAt.dp {H : Hp} {v : V} {k : Kind} (h : KindAt K H v k) : Dp K H v (kdD k) := by
  obtain ⟨b, rfl, q⟩ := h
  exact .tup q (.cons (.bl _) (.cons (.bl _) .nil))
theorem kinds_dp {H : Hp} : ∀ {vs : List V} {ks : List Kind}, Paired (KindAt K H) vs ks → DpAll K H vs (ks.map kdD)
  | _, _, .nil => .nil
  | _, _, .cons r t => .cons r.dp (kinds_dp t)
theorem eqv_kd (k j : Kind) : PyData.eqv (kdD k) (kdD j) = decide (k = j) := by
  obtain ⟨k1, k2⟩ := k
  obtain ⟨j1, j2⟩ := j
  show PyData.eqv (.tuple [.bool k1, .bool k2]) (.tuple [.bool j1, .bool j2]) = _
  rw [PyData.eqv, PyData.eqvAll, PyData.eqvAll, PyData.eqvAll]
  cases k1 <;> cases k2 <;> cases j1 <;> cases j2 <;> simp [PyData.eqv]
theorem any_kd (ks : List Kind) (k : Kind) : ((ks.map kdD).any fun z => PyData.eqv z (kdD k)) = decide (k ∈ ks) := by
  induction ks with
  | nil => simp
  | cons j ks ih =>
    rw [List.map_cons, List.any_cons, ih, eqv_kd]
    by_cases h : j = k
    · subst h; simp
    · have h' : ¬ k = j := fun e => h e.symm
      simp [h, h']
theorem shaped_kd (k : Kind) : SeqAt.shaped (kdD k) = true := by
  obtain ⟨k1, k2⟩ := k
  cases k1 <;> cases k2 <;> decide +kernel
theorem lay_kds : ∀ ks : List Kind, PyData.canLayAll0 (ks.map kdD) = true
  | [] => by simp [PyData.canLayAll0]
  | k :: ks => by
    rw [List.map_cons, PyData.canLayAll0, lay_kds ks]
    simp [kdD, PyData.canLay0, PyData.canLayAll0]
theorem dep_kds : ∀ ks : List Kind, PyData.depthAll (ks.map kdD) ≤ 1
  | [] => by simp [PyData.depthAll]
  | k :: ks => by
    have := dep_kds ks
    rw [List.map_cons, PyData.depthAll]
    have h : (kdD k).depth ≤ 1 := by simp [kdD, PyData.depth, PyData.depthAll]
    omega
theorem shaped_kds (ks : List Kind) : SeqAt.shaped (.list (ks.map kdD)) = true := by
  have := dep_kds ks
  unfold SeqAt.shaped
  rw [PyData.canLay0, lay_kds, PyData.depth, decide_eq_true (by omega)]
  rfl

def p_l_are_closed (K : PySem.W.Frag) (a : Ad) (x y z : V) (H : Hp) (Q : VK) : Prop := ∃ S l vs ss kl kvs ks, PlanAt K H x S ∧ OkPlan S ∧ y = .ref l ∧ SqL K H l vs ∧ Spots K H vs ss ∧ ss.length ≤ 300 ∧ (∀ s ∈ ss, fitsSpot S s) ∧ z = .ref kl ∧ SqL K H kl kvs ∧ Paired (KindAt K H) kvs ks ∧ ∀ H', Same H H' → Q (.bl (closedK S ss ks)) H'
abbrev N_l_are_closed : List Str := ["plan", "spots", "kinds", "known", "spot", "letter"]
theorem sc_l_are_closed : FnScope N_l_are_closed ["plan", "spots", "kinds"] (defScope s_l_are_closed) := ⟨rfl, rfl, rfl, by decide +kernel, rfl, by decide +kernel, by decide +kernel⟩
theorem ok_l_are_closed {fa : Addr} {fd : FuncData} (T : Txt K mg a) (F : FnP K "_law_are_closed" "_law_are_closed" s_l_are_closed fa fd) (g : mg "_law_are_closed" = some (.ref fa)) (c_l_is_spot : Cl P w K mg base 3 "_law_is_spot" (sq2 (p_l_is_spot K a))) (c_l_first_spot : Cl P w K mg base 3 "_law_first_spot" (sq1 (p_l_first_spot K a))) (c_l_kind : Cl P w K mg base 2 "_law_kind" (sq2 (p_l_kind K a))) (c_l_next_spot : Cl P w K mg base 3 "_law_next_spot" (sq3 (p_l_next_spot K a))) : Cl P w K mg base 4 "_law_are_closed" (sq3 (p_l_are_closed K a)) := by
  refine cl_of F g (fun _ _ _ _ _ _ us hl => match us, hl with | [_, _, _], _ => rfl) sc_l_are_closed (fun vs H Q h => sq3_len h) fun vs H Q h cdv A outer s hr => ?_
  obtain ⟨v_plan, v_spots, v_kinds, rfl, h⟩ := sq3_inv h
  refine ⟨_, (pss_cons (ps_if (PW.pt (pw_or (pt_not (pt_val (pe_callB (cr_all rfl) (by rfl) T.fAll (by decide +kernel) (pa_cons (pe_lc (own := [("spot", 4)]) (g := gName 4) (tt := tYes) rfl sc_l_are_closed.nd (pi_list (pv 1)) (blkOk_by (own := [("spot", 4)]) (N := N_l_are_closed) (sc := defScope s_l_are_closed) (by decide +kernel)) (fun _ _ _ _ _ => pg_name (i := 4) sc_l_are_closed.nd rfl (Or.inl rfl)) (fun _ _ _ _ _ => pts_nil) (fun _ _ _ _ _ => (pe_cl c_l_is_spot hr (pa_cons (pv 0) (pa_cons (pv 4) pa_nil))))) pa_nil)) (fun _ => rfl))) (pw_or1 (pt_cmpR (op_notInD (hu65 hr)) (pe_cl c_l_first_spot hr (pa_cons (pv 0) pa_nil)) (pv 1) rfl)))) (pss_one (ps_ret pe_bl)) pss_nil)
      (pss_cons (ps_set (i := 3) sc_l_are_closed.nd rfl (Or.inr rfl) (pe_callTy (call_dictN hr) (by rfl) T.fDict (by decide +kernel) (pa_cons (pe_lc (own := [("spot", 4)]) (g := gName 4) (tt := tYes) rfl sc_l_are_closed.nd (pi_list (pv 1)) (blkOk_by (own := [("spot", 4)]) (N := N_l_are_closed) (sc := defScope s_l_are_closed) (by decide +kernel)) (fun _ _ _ _ _ => pg_name (i := 4) sc_l_are_closed.nd rfl (Or.inl rfl)) (fun _ _ _ _ _ => pts_nil) (fun _ _ _ _ _ => (pe_tup (pa_cons (pv 4) (pa_cons pe_bl pa_nil))))) pa_nil)))
      (pss_cons (ps_lock (ps_for PassesOwn.never rfl (pi_keysN (pv 3)) (pg_name (i := 4) sc_l_are_closed.nd rfl (Or.inr rfl)) (pss_cons (ps_if (pt_cmpR (op_notInD (hu65 hr)) (pe_cl c_l_kind hr (pa_cons (pv 0) (pa_cons (pv 4) pa_nil))) (pv 2) rfl) (pss_one (ps_ret pe_bl)) pss_nil)
      (pss_one (ps_if (pt_not (pt_val (pe_callB (cr_all rfl) (by rfl) T.fAll (by decide +kernel) (pa_cons (pe_lc (own := [("letter", 5)]) (g := gName 5) (tt := tYes) rfl sc_l_are_closed.nd (pi_str (pe_ix ix_tup (pv 0) pe_int (fun _ _ => rfl))) (blkOk_by (own := [("letter", 5)]) (N := N_l_are_closed) (sc := defScope s_l_are_closed) (by decide +kernel)) (fun _ _ _ _ _ => pg_name (i := 5) sc_l_are_closed.nd rfl (Or.inl rfl)) (fun _ _ _ _ _ => pts_nil) (fun _ _ _ _ _ => (pe_cmpR (show OpR _ _ (rInN P w K false) from (op_inN hr)) (pe_cl c_l_next_spot hr (pa_cons (pv 0) (pa_cons (pv 4) (pa_cons (pv 5) pa_nil)))) (pv 3) rfl))) pa_nil)) (fun _ => rfl))) (pss_one (ps_ret pe_bl)) pss_nil)))))
      (pss_one (ps_ret pe_bl))))), ?_⟩
  obtain ⟨S, l, vs, ss, kl, kvs, ks, hP, ok, rfl, hl, hss, hn, hf, rfl, hkl, hks, hq⟩ := h
  have hP0 := hP
  obtain ⟨b, w1, w2, w3, w4, rfl, hb0, _⟩ := hP
  have hcl : closedK S ss ks = (((ss.all (isSpot S) && decide (first S ∈ ss)) && ss.all fun s => S.L.all fun c => decide (next S s c ∈ ss)) && ss.all fun s => decide (kind S s ∈ ks)) := rfl
  refine ⟨_, rfl, _, rfl, ⟨_, hl⟩, fun D hD => lc_seq K walk_list (SpotAt K) ss (isSpot S) (by omega) hD (fun H h => SqL.same h hl) hss ?_ ?_⟩
  · intro v s0 Hc Yes hs0 hv e hy
    exact ⟨_, rfl, _, rfl, S, s0, hP0.same e, ok, hv.same e, hf s0 hs0, hy⟩
  intro H1 e1 hD1
  refine ⟨D, _, rfl, .inl (.inl hD1), ?_⟩
  rw [all_map]
  cases ha : ss.all (isSpot S) with
  | false =>
    rw [hcl, ha] at hq
    exact ⟨_, rfl, iteT (hq H1 e1)⟩
  | true =>
    refine ⟨_, rfl, iteF ⟨_, rfl, S, hP0.same e1, ok, fun v H2 e2 sp => ?_⟩⟩
    have e12 := e1.trans e2
    refine ⟨_, rfl, sd (first S), dds ss false, sp.dp, .lst (SqL.same e12 hl) (Spots.dp (Spots.mono (TS.of e12) hss)), shaped_sd _, shaped_dds _ _, _, rfl, ?_⟩
    rw [any_sd]
    by_cases hfi : first S ∈ ss
    · rw [decide_eq_true hfi]
      refine iteF ?_
      obtain ⟨xs, hx1, hx2⟩ := items_of (Spots.mono (TS.of e12) hss)
      have hxl : xs.length = ss.length := by rw [← hx2, List.length_map]
      have hvl : vs.length = xs.length := paired_len hx1
      refine ⟨_, rfl, _, rfl, ⟨_, SqL.same e12 hl⟩, fun D3 hD3 => lc_go (K := K) walk_list hD3 (fun i acc H => Paired (PairN K H) acc (xs.take i)) (by omega) (fun i acc H H' t h => Paired.mapP h fun _ _ z => z.mono t) (fun H h => SqL.same (e12.trans h) hl) .nil ?_ ?_⟩
      · rintro i acc v Hc H' Yes No hi e hr ⟨rfl, hv⟩ hyes hno
        obtain ⟨x, hx, ev, ew, sp⟩ := paired_get' hx1 hv
        subst ev
        refine ⟨rfl, ?_⟩
        simp only [tYes, ↓reduceIte]
        refine ⟨_, rfl, sz_small (by simp), fun t ht => hyes _ _ (Same.new ht) ?_⟩
        rw [List.take_succ, hx]
        exact paired_app (Paired.mapP hr fun _ _ z => z.mono (TS.of (Same.new ht))) (.cons ⟨t, rfl, by rw [ew]; exact .inl (.inl upd_same), sp.same (e.trans (Same.new ht))⟩ .nil)
      intro acc H3 e3 hD3' _ hacc
      have hacc2 : Paired (PairN K H3) acc xs := by rwa [hvl, List.take_length] at hacc
      refine ⟨D3, acc, xs, rfl, .inl (.inl hD3'), hacc2, by omega, fun d ys hd ded => ?_⟩
      have e13 := e12.trans e3
      refine ⟨d, _, upd_same, trivial, fun od => ⟨_, rfl, d, od, ys, rfl, upd_same, ?_⟩⟩
      have eL : Same H3 (upd (upd H3 d (DNO P w d ys)) d (.frz od (DNO P w d ys))) := Same.put (Same.new hd) hd
      have hyl := ded.len
      have hko : KeysOk K H3 ys := ded.ok fun z hz => by
        obtain ⟨v, _, _, _, sp⟩ := paired_mem hacc2 hz
        exact sp
      have hin : ∀ y ∈ ys, y.1 ∈ ss := fun y hy => by rw [← hx2]; exact (ded.keys y.1).mp (List.mem_map.mpr ⟨y, hy, rfl⟩)
      have hke : ∀ k, k ∈ ys.map (·.1) ↔ k ∈ ss := fun k => by rw [ded.keys, hx2]
      rw [hcl, ha, decide_eq_true hfi] at hq
      refine for_it walk_n (fun i σ H' => Same (upd (upd H3 d (DNO P w d ys)) d (.frz od (DNO P w d ys))) H' ∧ (∃ z z2, σ = [some (.ref b), some (.ref l), some (.ref kl), some (.ref d), z, z2] ∧ z2 = none) ∧ ∀ y ∈ ys.take i, kind S y.1 ∈ ks ∧ ∀ c ∈ S.L, next S y.1 c ∈ ss) ⟨Same.refl _, ⟨_, _, rfl, rfl⟩, by simp⟩ (fun i σ H' _ p => p.1 _ _ upd_same) ?_ ?_
      · rintro i v σ H4 H5 hi ⟨e, ⟨z, _, rfl, rfl⟩, hall⟩ ⟨rfl, y, hy, rfl⟩
        have hym := List.mem_of_getElem? hy
        have hys := hin y hym
        have eH := (e13.trans eL).trans e
        refine ⟨_, rfl, _, rfl, S, y.1, hP0.same eH, ok, (hko.1 y hym).same (eL.trans e), hf _ hys, fun v2 H6 e6 kd => ?_⟩
        have eH6 := eH.trans e6
        refine ⟨_, rfl, kdD (kind S y.1), ks.map kdD, kd.dp, .lst (SqL.same eH6 hkl) (kinds_dp (Paired.mapP hks fun _ _ z => z.mono (TS.of eH6))), shaped_kd _, shaped_kds _, _, rfl, ?_⟩
        rw [any_kd]
        by_cases hk : kind S y.1 ∈ ks
        · rw [decide_eq_true hk]
          refine iteF ?_
          refine ⟨_, rfl, _, _, 0, _, rfl, rfl, SqT.same eH6 hb0, rfl, _, rfl, fun D4 hD4 => lc_str K S.L (fun c => decide (next S y.1 c ∈ ss)) (by have := menu_len ok.L; omega) hD4 ?_ ?_⟩
          · intro c Hc Yes hc ec hyes
            refine ⟨_, rfl, _, rfl, _, rfl, S, y.1, c, hP0.same (eH6.trans ec), ok, (hko.1 y hym).same (((eL.trans e).trans e6).trans ec), List.all_eq_true.mp ha _ hys, rfl, hc, fun v2 H7 e7 sp7 => ?_⟩
            obtain ⟨a4, ea4⟩ : ∃ a4, v2 = .ref a4 := let ⟨a4, _, _, ea, _⟩ := sp7; ⟨a4, ea⟩
            subst ea4
            refine ⟨_, rfl, a4, d, next S y.1 c, ys, rfl, rfl, sp7, ⟨.inr ⟨od, e7 _ _ (ec _ _ (e6 _ _ (e _ _ upd_same)))⟩, hko.mono (TS.of ((((eL.trans e).trans e6).trans ec).trans e7))⟩, ?_⟩
            rw [if_neg Bool.false_ne_true, show decide (next S y.1 c ∈ ys.map (·.1)) = decide (next S y.1 c ∈ ss) from decide_eq_decide.mpr (hke _)]
            exact hyes H7 e7
          · intro H7 e7 hD7
            refine ⟨D4, _, rfl, .inl (.inl hD7), ?_⟩
            rw [all_map]
            cases hnx : S.L.all fun c => decide (next S y.1 c ∈ ss) with
            | true =>
              refine ⟨_, rfl, iteF ⟨(e.trans e6).trans e7, ⟨_, _, rfl, rfl⟩, fun y2 hy2 => ?_⟩⟩
              rw [List.take_succ, hy] at hy2
              rcases List.mem_append.mp hy2 with h | h
              · exact hall y2 h
              · simp at h
                subst h
                exact ⟨hk, fun c hc => of_decide_eq_true (List.all_eq_true.mp hnx c hc)⟩
            | false =>
              refine ⟨_, rfl, iteT ⟨e7 _ _ (e6 _ _ (e _ _ upd_same)), ?_⟩⟩
              have := hq (upd H7 d (DNO P w d ys)) ((e13.trans (Same.put (((eL.trans e).trans e6).trans e7) hd)))
              have hfa : (ss.all fun s => S.L.all fun c => decide (next S s c ∈ ss)) = false := by
                refine Bool.eq_false_iff.mpr fun q => ?_
                have := List.all_eq_true.mp q y.1 hys
                rw [hnx] at this
                cases this
              rw [hfa] at this
              exact this
        · rw [decide_eq_false hk]
          refine iteT ⟨e6 _ _ (e _ _ upd_same), ?_⟩
          have := hq (upd H6 d (DNO P w d ys)) ((e13.trans (Same.put ((eL.trans e).trans e6) hd)))
          have hfa : (ss.all fun s => decide (kind S s ∈ ks)) = false := by
            refine Bool.eq_false_iff.mpr fun q => ?_
            exact hk (of_decide_eq_true (List.all_eq_true.mp q y.1 hys))
          rw [hfa, Bool.and_false] at this
          exact this
      · rintro σ H4 ⟨e, ⟨z, _, rfl, rfl⟩, hall⟩
        rw [List.take_length] at hall
        refine ⟨e _ _ upd_same, ?_⟩
        have := hq (upd H4 d (DNO P w d ys)) (e13.trans (Same.put (eL.trans e) hd))
        have h1 : (ss.all fun s => S.L.all fun c => decide (next S s c ∈ ss)) = true := List.all_eq_true.mpr fun s hs => by
          obtain ⟨y, hy, rfl⟩ := List.mem_map.mp ((hke s).mpr hs)
          exact List.all_eq_true.mpr fun c hc => decide_eq_true ((hall y hy).2 c hc)
        have h2 : (ss.all fun s => decide (kind S s ∈ ks)) = true := List.all_eq_true.mpr fun s hs => by
          obtain ⟨y, hy, rfl⟩ := List.mem_map.mp ((hke s).mpr hs)
          exact decide_eq_true (hall y hy).1
        rw [h1, h2] at this
        exact this
    · rw [hcl, ha, decide_eq_false hfi] at hq
      rw [decide_eq_false hfi]
      exact iteT (hq H2 e12)

def p_l_moved (K : PySem.W.Frag) (a : Ad) (x y : V) (H : Hp) (Q : VK) : Prop := ∃ (L : Tx) (c : Cond) (s : Stand), CondAt K H x c ∧ okCond L c ∧ StAt K H y s ∧ okStand c s = true ∧ ∀ v H' s', Same H H' → StAt K H' v s' → fits c s' → Q v H'
abbrev N_l_moved : List Str := ["condition", "mark"]
theorem sc_l_moved : FnScope N_l_moved ["condition", "mark"] (defScope s_l_moved) := ⟨rfl, rfl, rfl, by decide +kernel, rfl, by decide +kernel, by decide +kernel⟩
theorem ok_l_moved {fa : Addr} {fd : FuncData} (T : Txt K mg a) (F : FnP K "_law_moved" "_law_moved" s_l_moved fa fd) (g : mg "_law_moved" = some (.ref fa)) : Cl P w K mg base 1 "_law_moved" (sq2 (p_l_moved K a)) := by
  refine cl_of F g (fun _ _ _ _ _ _ us hl => match us, hl with | [_, _], _ => rfl) sc_l_moved (fun vs H Q h => sq2_len h) fun vs H Q h cdv A outer s hr => ?_
  obtain ⟨v_condition, v_mark, rfl, h⟩ := sq2_inv h
  refine ⟨_, (pss_cons (ps_if (pt_cmpR op_eq (pe_ix ix_tup (pv 0) pe_int (fun _ _ => rfl)) pe_str rfl) (pss_one (ps_ret (pe_tup (pa_cons (pe_op op_add (pe_ix ix_tup (pv 1) pe_int (fun _ _ => rfl)) pe_int) (pa_cons (pe_ix ix_tup (pv 1) pe_int (fun _ _ => rfl)) pa_nil))))) pss_nil)
      (pss_one (ps_ret (pe_ifExp (pt_cmpR op_eq (pe_ix ix_tup (pv 0) pe_int (fun _ _ => rfl)) pe_str rfl) (pe_op op_catA (pv 1) (pe_tup (pa_cons (pe_op op_add (pe_callB call_len_str (by rfl) T.fLen (by decide +kernel) (pa_cons (pe_ix ix_tup (pv 0) pe_int (fun _ _ => rfl)) pa_nil)) pe_int) pa_nil))) (pe_op op_add (pv 1) pe_int))))), ?_⟩
  obtain ⟨L, c, s0, hc, ok, hst, oks, hq⟩ := h
  cases c with
  | eq p =>
    obtain ⟨b, rfl, hb⟩ := hc
    match s0, oks, hst with
    | .n i, oks, hst =>
    cases (show v_mark = .int i from hst)
    exact ⟨_, rfl, _, _, 0, _, rfl, rfl, hb, rfl, rfl, _, rfl, iteF ⟨_, rfl, _, _, 0, _, rfl, rfl, hb, rfl, rfl, _, rfl, iteF ⟨_, rfl, _, _, rfl, rfl, hq _ _ (.n (i + 1)) (Same.refl _) rfl trivial⟩⟩⟩
  | beg p =>
    obtain ⟨b, rfl, hb⟩ := hc
    match s0, oks, hst with
    | .n i, oks, hst =>
    cases (show v_mark = .int i from hst)
    exact ⟨_, rfl, _, _, 0, _, rfl, rfl, hb, rfl, rfl, _, rfl, iteF ⟨_, rfl, _, _, 0, _, rfl, rfl, hb, rfl, rfl, _, rfl, iteF ⟨_, rfl, _, _, rfl, rfl, hq _ _ (.n (i + 1)) (Same.refl _) rfl trivial⟩⟩⟩
  | bet p q =>
    obtain ⟨b, rfl, hb⟩ := hc
    match s0, oks, hst with
    | .t [i, j], oks, hst =>
    obtain ⟨c0, rfl, hs2⟩ := hst
    exact ⟨_, rfl, _, _, 0, _, rfl, rfl, hb, rfl, rfl, _, rfl, iteT ⟨_, rfl, _, _, 0, _, rfl, rfl, hs2, rfl, _, _, rfl, rfl, _, rfl, _, _, 1, _, rfl, rfl, hs2, rfl, sz_small (by simp), fun t ht => hq _ _ (.t [i + 1, j]) (Same.new ht) ⟨t, rfl, .inl (.inl upd_same)⟩ trivial⟩⟩
  | like p =>
    obtain ⟨b, rfl, hb⟩ := hc
    match s0, oks, hst with
    | .t xs, oks, hst =>
    obtain ⟨c0, rfl, hs2⟩ := hst
    have hxl : xs.length ≤ 5 := by
      have e : led p xs = xs := of_decide_eq_true (Bool.and_eq_true_iff.mp oks).2
      have h1 := led_length p xs
      have h2 := ok.2
      rw [e] at h1
      omega
    refine ⟨_, rfl, _, _, 0, _, rfl, rfl, hb, rfl, rfl, _, rfl, iteF ⟨_, rfl, _, _, 0, _, rfl, rfl, hb, rfl, rfl, _, rfl, iteT ?_⟩⟩
    refine ⟨_, rfl, _, rfl, _, _, 1, _, rfl, rfl, hb, rfl, _, rfl, szS (by have := ok.2; omega), _, _, rfl, rfl, sz_small (by simp), fun t ht => ?_⟩
    refine ⟨_, _, _, _, rfl, rfl, SqT.same (Same.new ht) hs2, .inl (.inl upd_same), sz_small (by simp; omega), fun hx => ?_, fun _ hy => absurd hy (by simp), fun _ _ q hq0 => ?_⟩
    · have hx' : xs = [] := by simpa using hx
      subst hx'
      exact hq _ _ (.t [(((tx p).length : Nat) : Int) + 1]) (Same.new ht) ⟨t, rfl, .inl (.inl upd_same)⟩ (by show _ ≤ 30; simp)
    · refine hq _ _ (.t (xs ++ [(((tx p).length : Nat) : Int) + 1])) ((Same.new ht).trans (Same.new hq0)) ⟨q, rfl, .inl (.inl ?_)⟩ (by show _ ≤ 30; simp; omega)
      rw [upd_same, List.map_append]
      rfl
end K5

set_option Elab.async false
set_option linter.all false
set_option maxRecDepth 100000
set_option maxHeartbeats 4000000
/-! the law's own steps, part four: what is drawn. -/
namespace K5
open PySem PySem.Spec PyProof.Rows L2
variable {P : Program} {w : World} {K : PySem.W.Frag} {mg : Str → Option Value} {base : Heap} {a : Ad}

theorem spots_cut {H : Hp} {vs : List V} {ss : List Spot} (lo hi : Option Int) (h : Spots K H vs ss) : ∃ ss', Spots K H (cutV vs lo hi) ss' ∧ (∀ s ∈ ss', s ∈ ss) ∧ ss'.length ≤ ss.length := by
  refine ⟨_, paired_take _ (paired_drop _ h), fun s hs => List.mem_of_mem_drop (List.mem_of_mem_take hs), ?_⟩
  rw [List.length_take, List.length_drop]
  omega

def p_l_bent (K : PySem.W.Frag) (a : Ad) (x y z : V) (H : Hp) (Q : VK) : Prop := ∃ S n l vs ss, x = .int n ∧ PlanAt K H y S ∧ OkPlan S ∧ z = .ref l ∧ H l = some (.lst vs) ∧ Spots K H vs ss ∧ (∀ s ∈ ss, isSpot S s = true) ∧ ss ≠ [] ∧ ss.length ≤ 140 ∧
  ∀ l' H' vs' ss', H l' = none → Same H H' → H' l' = some (.lst vs') → Spots K H' vs' ss' → ss'.length ≤ 300 → (∀ s ∈ ss', fitsSpot S s) → Q (.ref l') H'
abbrev N_l_bent : List Str := ["seed", "plan", "spots", "at", "kind", "spot", "ahead", "rest"]
theorem sc_l_bent : FnScope N_l_bent ["seed", "plan", "spots"] (defScope s_l_bent) := ⟨rfl, rfl, rfl, by decide +kernel, rfl, by decide +kernel, by decide +kernel⟩
theorem ok_l_bent {fa : Addr} {fd : FuncData} (T : Txt K mg a) (F : FnP K "_law_bent" "_law_bent" s_l_bent fa fd) (g : mg "_law_bent" = some (.ref fa)) (c_l_moved : Cl P w K mg base 1 "_law_moved" (sq2 (p_l_moved K a))) : Cl P w K mg base 2 "_law_bent" (sq3 (p_l_bent K a)) := by
  refine cl_of F g (fun _ _ _ _ _ _ us hl => match us, hl with | [_, _, _], _ => rfl) sc_l_bent (fun vs H Q h => sq3_len h) fun vs H Q h cdv A outer s hr => ?_
  obtain ⟨v_seed, v_plan, v_spots, rfl, h⟩ := sq3_inv h
  refine ⟨_, (pss_cons (ps_par (i := 3) (j := 4) (by rfl) sc_l_bent.nd rfl rfl (by decide) rfl rfl (pa_cons (pe_op op_mod (pe_callTy call_int1 (by rfl) T.fInt (by decide +kernel) (pa_cons (pe_op op_fdiv (pv 0) pe_int) pa_nil)) (pe_callB call_len_seq (by rfl) T.fLen (by decide +kernel) (pa_cons (pv 2) pa_nil))) (pa_cons (pe_op op_mod (pe_callTy call_int1 (by rfl) T.fInt (by decide +kernel) (pa_cons (pv 0) pa_nil)) pe_int) pa_nil)) (by rfl))
      (pss_cons (ps_par3 (i := 5) (j := 6) (l := 7) (by rfl) sc_l_bent.nd rfl rfl rfl (by decide) (by decide) (by decide) rfl rfl rfl (pa_cons (pe_ix ix_list (pv 2) (pv 3) (fun _ _ => rfl)) (pa_cons (pe_slice sl_list (pv 2) po_none (po_some (pv 3))) (pa_cons (pe_slice sl_list (pv 2) (po_some (pe_op op_add (pv 3) pe_int)) po_none) pa_nil))) (by rfl))
      (pss_cons (ps_if (pt_cmpR op_eq (pv 4) pe_int rfl) (pss_one (ps_ret (pe_op op_cat (pv 6) (pv 7)))) pss_nil)
      (pss_cons (ps_if (pt_cmpR op_eq (pv 4) pe_int rfl) (pss_one (ps_ret (pe_op op_cat (pe_revL (pv 2)) (pe_lst (pa_cons (pv 5) pa_nil))))) pss_nil)
      (pss_cons (ps_if (pt_cmpR op_eq (pv 4) pe_int rfl) (pss_one (ps_ret (pe_op op_cat (pv 2) (pe_lst (pa_cons (pe_tup (pa_cons (pe_ix ix_tup (pv 5) pe_int (fun _ _ => rfl)) (pa_cons (pe_cl c_l_moved hr (pa_cons (pe_ix ix_tup (pv 1) pe_int (fun _ _ => rfl)) (pa_cons (pe_ix ix_tup (pv 5) pe_int (fun _ _ => rfl)) pa_nil))) (pa_cons (pe_ix ix_tup (pv 5) pe_int (fun _ _ => rfl)) (pa_cons (pe_ix ix_tup (pv 5) pe_int (fun _ _ => rfl)) pa_nil))))) pa_nil))))) pss_nil)
      (pss_cons (ps_if (pt_cmpR op_eq (pv 4) pe_int rfl) (pss_one (ps_ret (pe_op op_cat (pv 2) (pe_lst (pa_cons (pe_tup (pa_cons (pe_op op_add (pe_ix ix_tup (pv 5) pe_int (fun _ _ => rfl)) pe_int) (pa_cons (pe_ix ix_tup (pv 5) pe_int (fun _ _ => rfl)) (pa_cons (pe_ix ix_tup (pv 5) pe_int (fun _ _ => rfl)) (pa_cons (pe_ix ix_tup (pv 5) pe_int (fun _ _ => rfl)) pa_nil))))) pa_nil))))) pss_nil)
      (pss_cons (ps_if (pt_cmpR op_eq (pv 4) pe_int rfl) (pss_one (ps_ret (pe_op op_cat (pe_op op_cat (pv 6) (pe_lst (pa_cons (pe_tup (pa_cons (pe_ix ix_tup (pv 5) pe_int (fun _ _ => rfl)) (pa_cons (pe_ix ix_tup (pv 5) pe_int (fun _ _ => rfl)) (pa_cons (pe_ix ix_tup (pv 5) pe_int (fun _ _ => rfl)) (pa_cons (pe_cl c_l_moved hr (pa_cons (pe_ix ix_tup (pv 1) pe_int (fun _ _ => rfl)) (pa_cons (pe_ix ix_tup (pv 5) pe_int (fun _ _ => rfl)) pa_nil))) pa_nil))))) pa_nil))) (pv 7)))) pss_nil)
      (pss_one (ps_ret (pe_ifExp (pt_cmpR op_lt (pv 4) pe_int rfl) (pe_callTy call_list_of (by rfl) T.fList (by decide +kernel) (pa_cons (pv 2) pa_nil)) (pe_lst pa_nil))))))))))), ?_⟩
  obtain ⟨S, n, l, vs, ss, rfl, ⟨b, w1, w2, w3, w4, rfl, hb0, hR1, hq1, hR2, hc⟩, ok, rfl, hl, hss, his, hne, hn, hq⟩ := h
  have hlen := paired_len hss
  have hpos : 0 < ss.length := by cases ss with | nil => exact absurd rfl hne | cons s ss => simp
  have hl0 : SqL K H l vs := .inl (.inl hl)
  have hfit : ∀ s ∈ ss, fitsSpot S s := fun s hs => fits_isSpot ok (his s hs)
  have hat0 : 0 ≤ (n / 9) % (vs.length : Int) := Int.emod_nonneg _ (by omega)
  have hat1 : (n / 9) % (vs.length : Int) < vs.length := Int.emod_lt_of_pos _ (by omega)
  obtain ⟨i, ei0⟩ : ∃ i, i = (n / 9) % (vs.length : Int) := ⟨_, rfl⟩
  obtain ⟨k, ek0⟩ : ∃ k, k = n % 9 := ⟨_, rfl⟩
  rw [← ei0] at hat0 hat1
  refine ⟨_, rfl, _, _, rfl, rfl, ⟨by decide, by decide⟩, .inl ⟨_, rfl, _, rfl, _, _, rfl, .inl hl0, _, _, rfl, rfl, by omega, _, rfl, .inl ⟨_, rfl, _, _, rfl, rfl, by show (0 : Int) < 9; decide, .int i, .int k, by subst ei0 ek0; rfl, ?_⟩⟩⟩
  have ei : vs[i.toNat]? = some (vs[i.toNat]'(by omega)) := List.getElem?_eq_getElem (by omega)
  generalize vs[i.toNat]'(by omega) = v at ei
  obtain ⟨s0, hs0, hv⟩ := paired_get' hss ei
  have hs0m := List.mem_of_getElem? hs0
  refine ⟨_, rfl, _, rfl, _, _, _, _, rfl, rfl, hl0, atI_int hat0 ei, ?_⟩
  refine ⟨_, rfl, _, rfl, _, rfl, _, _, rfl, hl0, fun q1 hq1' => ?_⟩
  have e1 : Same H (upd H q1 (.lst (cutV vs none (some i)))) := Same.new hq1'
  refine ⟨_, rfl, _, rfl, _, _, rfl, rfl, _, rfl, _, _, rfl, SqL.same e1 hl0, fun q2 hq2' => ⟨_, _, _, rfl, ?_⟩⟩
  have e2 : Same H (upd (upd H q1 (.lst (cutV vs none (some i)))) q2 (.lst (cutV vs (some (i + 1)) none))) := e1.trans (Same.new hq2')
  obtain ⟨ssA, hA, hAm, hAl⟩ := spots_cut none (some i) hss
  obtain ⟨ssB, hB, hBm, hBl⟩ := spots_cut (some (i + 1)) none hss
  have hlA := paired_len hA
  have hlB := paired_len hB
  have ne12 : q1 ≠ q2 := fun z => by subst z; rw [upd_same] at hq2'; cases hq2'
  have g1 : (upd (upd H q1 (.lst (cutV vs none (some i)))) q2 (.lst (cutV vs (some (i + 1)) none))) q1 = some (.lst (cutV vs none (some i))) := by rw [upd_ne ne12, upd_same]
  have g2 : (upd (upd H q1 (.lst (cutV vs none (some i)))) q2 (.lst (cutV vs (some (i + 1)) none))) q2 = some (.lst (cutV vs (some (i + 1)) none)) := upd_same
  generalize upd (upd H q1 (.lst (cutV vs none (some i)))) q2 (.lst (cutV vs (some (i + 1)) none)) = H2 at e2 g1 g2
  have hl2 := e2 _ _ hl
  obtain ⟨t0, v1, v3, rfl, ht0, hv1, hv3⟩ := hv
  have ht2 := SqT.same e2 ht0
  have hb2 := SqT.same e2 hb0
  have hsp := isSpot_iff.mp (his s0 hs0m)
  have mem2 : ∀ {xs : List Spot} {s s' : Spot}, fitsSpot S s' → (∀ s ∈ xs, fitsSpot S s) → s ∈ xs ++ [s'] → fitsSpot S s := fun h1 h2 h3 => by
    rcases List.mem_append.mp h3 with h | h
    · exact h2 _ h
    · rw [List.mem_singleton.mp h]; exact h1
  refine ⟨_, rfl, rfl, _, rfl, ?_⟩
  cases hk0 : decide (V.int k = V.int 0) with
  | true =>
    refine iteT ⟨_, rfl, _, rfl, _, _, _, _, rfl, rfl, g1, g2, sz_small (by omega), fun t ht => ?_⟩
    refine hq t _ _ (ssA ++ ssB) (Same.free e2 ht) (e2.trans (Same.new ht)) upd_same (Spots.mono (TS.of (e2.trans (Same.new ht))) (paired_app hA hB)) (by rw [List.length_append]; omega) fun s hs => ?_
    rcases List.mem_append.mp hs with h | h
    · exact hfit s (hAm s h)
    · exact hfit s (hBm s h)
  | false =>
    refine iteF ⟨_, rfl, rfl, _, rfl, ?_⟩
    cases hk1 : decide (V.int k = V.int 1) with
    | true =>
      refine iteT ⟨_, rfl, _, _, rfl, .inl (.inl hl2), fun t1 ht1 => ?_⟩
      refine ⟨_, rfl, sz_small (by simp), fun t2 ht2' => ?_⟩
      have ne3 : t1 ≠ t2 := fun z => by subst z; rw [upd_same] at ht2'; cases ht2'
      refine ⟨_, _, _, _, rfl, rfl, by rw [upd_ne ne3, upd_same], upd_same, sz_small (by simp; omega), fun t ht => ?_⟩
      have e4 := (((e2.trans (Same.new ht1)).trans (Same.new ht2')).trans (Same.new (o := .lst (vs.reverse ++ [V.ref t0])) ht))
      refine hq t _ _ (ss.reverse ++ [s0]) (Same.free e2 (Same.free (Same.new ht1) (Same.free (Same.new ht2') ht))) e4 upd_same (Spots.mono (TS.of e4) (paired_app (paired_rev hss) (.cons ⟨t0, v1, v3, rfl, ht0, hv1, hv3⟩ .nil))) (by simp; omega) fun s hs => ?_
      exact mem2 (hfit s0 hs0m) (fun s h => hfit s (List.mem_reverse.mp h)) hs
    | false =>
      refine iteF ⟨_, rfl, rfl, _, rfl, ?_⟩
      cases hk2 : decide (V.int k = V.int 2) with
      | true =>
        refine iteT ⟨_, rfl, _, rfl, _, _, 0, _, rfl, rfl, ht2, rfl, _, rfl, _, _, 2, _, rfl, rfl, hb2, rfl, _, rfl, _, _, 1, _, rfl, rfl, ht2, rfl, S.L, S.q, s0.x, hq1.same e2, ok.q, hv1.same e2, hsp.2.1, fun v' H3 s' e3 st' fi' => ?_⟩
        refine ⟨_, rfl, _, _, 2, _, rfl, rfl, SqT.same e3 ht2, rfl, _, rfl, _, _, 3, _, rfl, rfl, SqT.same e3 ht2, rfl, sz_small (by simp), fun t1 ht1 => ⟨sz_small (by simp), fun t2 ht2' => ?_⟩⟩
        have e5 := (e2.trans e3).trans (Same.new (o := .tup [.int s0.a, v', .int s0.b, v3]) ht1)
        have e6 := e5.trans (Same.new (o := .lst [V.ref t1]) ht2')
        refine ⟨_, _, _, _, rfl, rfl, e6 _ _ hl, upd_same, sz_small (by simp; omega), fun t ht => ?_⟩
        have e7 := e6.trans (Same.new (o := .lst (vs ++ [V.ref t1])) ht)
        refine hq t _ _ (ss ++ [⟨s0.a, s', s0.b, s0.y⟩]) (Same.free e6 ht) e7 upd_same (paired_app (Spots.mono (TS.of e7) hss) (.cons ⟨t1, v', v3, rfl, SqT.same ((Same.new ht2').trans (Same.new ht)) (.inl (.inl upd_same)), st'.same (((Same.new ht1).trans (Same.new ht2')).trans (Same.new ht)), hv3.same e7⟩ .nil)) (by simp; omega) fun s hs => ?_
        exact mem2 (s' := ⟨s0.a, s', s0.b, s0.y⟩) ⟨fi', (hfit s0 hs0m).2⟩ hfit hs
      | false =>
        refine iteF ⟨_, rfl, rfl, _, rfl, ?_⟩
        cases hk3 : decide (V.int k = V.int 3) with
        | true =>
          refine iteT ⟨_, rfl, _, rfl, _, _, 0, _, rfl, rfl, ht2, rfl, _, _, rfl, rfl, _, rfl, _, _, 1, _, rfl, rfl, ht2, rfl, ?_⟩
          refine ⟨_, rfl, _, _, 2, _, rfl, rfl, ht2, rfl, _, rfl, _, _, 3, _, rfl, rfl, ht2, rfl, sz_small (by simp), fun t1 ht1 => ⟨sz_small (by simp), fun t2 ht2' => ?_⟩⟩
          have e5 := e2.trans (Same.new (o := .tup [.int (s0.a + 1), v1, .int s0.b, v3]) ht1)
          have e6 := e5.trans (Same.new (o := .lst [V.ref t1]) ht2')
          refine ⟨_, _, _, _, rfl, rfl, e6 _ _ hl, upd_same, sz_small (by simp; omega), fun t ht => ?_⟩
          have e7 := e6.trans (Same.new (o := .lst (vs ++ [V.ref t1])) ht)
          refine hq t _ _ (ss ++ [⟨s0.a + 1, s0.x, s0.b, s0.y⟩]) (Same.free e6 ht) e7 upd_same (paired_app (Spots.mono (TS.of e7) hss) (.cons ⟨t1, v1, v3, rfl, SqT.same ((Same.new ht2').trans (Same.new ht)) (.inl (.inl upd_same)), hv1.same e7, hv3.same e7⟩ .nil)) (by simp; omega) fun s hs => ?_
          exact mem2 (s' := ⟨s0.a + 1, s0.x, s0.b, s0.y⟩) (hfit s0 hs0m) hfit hs
        | false =>
          refine iteF ⟨_, rfl, rfl, _, rfl, ?_⟩
          cases hk4 : decide (V.int k = V.int 4) with
          | true =>
            refine iteT ⟨_, rfl, _, rfl, _, _, 0, _, rfl, rfl, ht2, rfl, _, rfl, _, _, 1, _, rfl, rfl, ht2, rfl, _, rfl, _, _, 2, _, rfl, rfl, ht2, rfl, _, rfl, _, _, 4, _, rfl, rfl, hb2, rfl, _, rfl, _, _, 3, _, rfl, rfl, ht2, rfl, S.L, S.c, s0.y, hc.same e2, ok.c, hv3.same e2, hsp.2.2, fun v' H3 s' e3 st' fi' => ?_⟩
            refine ⟨sz_small (by simp), fun t1 ht1 => ⟨sz_small (by simp), fun t2 ht2' => ?_⟩⟩
            have e5 := e3.trans (Same.new (o := .tup [.int s0.a, v1, .int s0.b, v']) ht1)
            have e6 := e5.trans (Same.new (o := .lst [V.ref t1]) ht2')
            refine ⟨_, _, _, _, rfl, rfl, e6 _ _ g1, upd_same, sz_small (by simp; omega), fun t3 ht3 => ?_⟩
            have e7 := e6.trans (Same.new (o := .lst (cutV vs none (some i) ++ [V.ref t1])) ht3)
            refine ⟨_, rfl, _, _, _, _, rfl, rfl, upd_same, e7 _ _ g2, sz_small (by simp; omega), fun t ht => ?_⟩
            have e8 := e7.trans (Same.new (o := .lst (cutV vs none (some i) ++ [V.ref t1] ++ cutV vs (some (i + 1)) none)) ht)
            have e9 := e2.trans e8
            refine hq t _ _ ((ssA ++ [⟨s0.a, s0.x, s0.b, s'⟩]) ++ ssB) (Same.free e2 (Same.free e7 ht)) e9 upd_same (paired_app (paired_app (Spots.mono (TS.of e9) hA) (.cons ⟨t1, v1, v', rfl, SqT.same (((Same.new ht2').trans (Same.new ht3)).trans (Same.new ht)) (.inl (.inl upd_same)), hv1.same e9, st'.same ((((Same.new ht1).trans (Same.new ht2')).trans (Same.new ht3)).trans (Same.new ht))⟩ .nil)) (Spots.mono (TS.of e9) hB)) (by simp; omega) fun s hs => ?_
            rcases List.mem_append.mp hs with h | h
            · exact mem2 (s' := ⟨s0.a, s0.x, s0.b, s'⟩) ⟨(hfit s0 hs0m).1, fi'⟩ (fun s h => hfit s (hAm s h)) h
            · exact hfit s (hBm s h)
          | false =>
            refine iteF ⟨_, rfl, _, _, rfl, rfl, _, rfl, ?_⟩
            cases hk8 : decide (k < 8) with
            | true =>
              refine iteT ⟨_, rfl, _, _, rfl, .inl (.inl (.inl hl2)), fun t ht => ?_⟩
              exact hq t _ _ ss (Same.free e2 ht) (e2.trans (Same.new ht)) upd_same (Spots.mono (TS.of (e2.trans (Same.new ht))) hss) (by omega) hfit
            | false =>
              refine iteF ⟨sz_small (by simp), fun t ht => ?_⟩
              exact hq t _ _ [] (Same.free e2 ht) (e2.trans (Same.new ht)) upd_same .nil (by simp) (fun s hs => by cases hs)

theorem shaped_ints (zs : List Int) : SeqAt.shaped (.list (zs.map PyData.int)) = true := by
  unfold SeqAt.shaped
  rw [PyData.canLay0, lay_ints, PyData.depth, dep_ints, decide_eq_true (by omega)]
  rfl
/-- the script -/
def ScAt (K : PySem.W.Frag) (H : Hp) (v : V) : Prop := ∃ (sc : Addr) (ns : List Int), v = .ref sc ∧ SqL K H sc (ns.map V.int) ∧ ns.length ≤ 63
theorem ScAt.same {H H' : Hp} {v : V} (e : Same H H') (h : ScAt K H v) : ScAt K H' v := let ⟨sc, ns, ev, q, hl⟩ := h; ⟨sc, ns, ev, SqL.same e q, hl⟩

def p_l_number (K : PySem.W.Frag) (a : Ad) (x y : V) (H : Hp) (Q : VK) : Prop := ∃ i, ScAt K H x ∧ y = .int i ∧ 0 ≤ i ∧ i ≤ 1000 ∧ ∀ n H', Same H H' → 0 ≤ n → n < 281474976710656 → Q (.int n) H'
abbrev N_l_number : List Str := ["script", "index", "cells", "cell", "low", "high", "total", "blend"]
theorem sc_l_number : FnScope N_l_number ["script", "index"] (defScope s_l_number) := ⟨rfl, rfl, rfl, by decide +kernel, rfl, by decide +kernel, by decide +kernel⟩
theorem ok_l_number {fa : Addr} {fd : FuncData} (T : Txt K mg a) (F : FnP K "_law_number" "_law_number" s_l_number fa fd) (g : mg "_law_number" = some (.ref fa)) : Cl P w K mg base 1 "_law_number" (sq2 (p_l_number K a)) := by
  refine cl_of F g (fun _ _ _ _ _ _ us hl => match us, hl with | [_, _], _ => rfl) sc_l_number (fun vs H Q h => sq2_len h) fun vs H Q h cdv A outer s hr => ?_
  obtain ⟨v_script, v_index, rfl, h⟩ := sq2_inv h
  refine ⟨_, (pss_cons (ps_set (i := 2) sc_l_number.nd rfl (Or.inl rfl) (pe_ifExp (pt_cmpR (op_neD hr.units) (pv 0) (pe_lst pa_nil) rfl) (pe_slice sl_list (pv 0) po_none (po_some pe_int)) (pe_lst (pa_cons pe_int pa_nil))))
      (pss_cons (ps_set (i := 3) sc_l_number.nd rfl (Or.inl rfl) (pe_op op_add (pe_ix ix_list (pv 2) (pe_op op_mod (pe_callTy call_int1 (by rfl) T.fInt (by decide +kernel) (pa_cons (pv 1) pa_nil)) (pe_callB call_len_seq (by rfl) T.fLen (by decide +kernel) (pa_cons (pv 2) pa_nil))) (fun _ _ => rfl)) (pe_op op_mul pe_int (pe_op op_fdiv (pv 1) (pe_callB call_len_seq (by rfl) T.fLen (by decide +kernel) (pa_cons (pv 2) pa_nil))))))
      (pss_cons (ps_par (i := 4) (j := 5) (by rfl) sc_l_number.nd rfl rfl (by decide) rfl rfl (pa_cons (pe_op op_mod (pe_callTy call_int1 (by rfl) T.fInt (by decide +kernel) (pa_cons (pv 3) pa_nil)) pe_int) (pa_cons (pe_op op_mod (pe_callTy call_int1 (by rfl) T.fInt (by decide +kernel) (pa_cons (pe_op op_fdiv (pv 3) pe_int) pa_nil)) pe_int) pa_nil)) (by rfl))
      (pss_cons (ps_set (i := 6) sc_l_number.nd rfl (Or.inl rfl) (pe_op op_mod (pe_callTy call_int1 (by rfl) T.fInt (by decide +kernel) (pa_cons (pe_callB (cr_sum rfl) (by rfl) T.fSum (by decide +kernel) (pa_cons (pv 2) pa_nil)) pa_nil)) pe_int))
      (pss_cons (ps_set (i := 7) sc_l_number.nd rfl (Or.inl rfl) (pe_op op_mod (pe_callTy call_int1 (by rfl) T.fInt (by decide +kernel) (pa_cons (pe_op op_add (pe_op op_add (pe_op op_mul (pe_op op_add (pv 4) (pe_op op_mul pe_int (pv 1))) pe_int) (pe_op op_mul pe_int (pv 5))) (pv 6)) pa_nil)) pe_int))
      (pss_one (ps_ret (pe_op op_add (pe_op op_mul (pe_op op_mod (pe_callTy call_int1 (by rfl) T.fInt (by decide +kernel) (pa_cons (pe_op op_mul (pv 7) (pe_op op_add (pe_op op_add (pv 7) (pe_op op_mul pe_int (pv 1))) pe_int)) pa_nil)) pe_int) pe_int) (pv 5))))))))), ?_⟩
  obtain ⟨i, ⟨sc, ns, rfl, hs, hns⟩, rfl, hi0, hi1, hq⟩ := h
  have hcut : cutV (ns.map V.int) none (some 63) = ns.map V.int := by
    have hl : (ns.map V.int).length = ns.length := by simp
    unfold cutV
    rw [show HT.sIx (ns.map V.int).length 0 none = 0 from rfl, hl, show HT.sIx ns.length ns.length (some 63) = min 63 ns.length from HT.sIx_nat _ _ 63, List.drop_zero, List.take_of_length_le (by rw [hl]; omega)]
  refine ⟨_, rfl, sz_small (by simp), fun t0 ht0 => ⟨.list (ns.map .int), .list (([] : List Int).map .int), .lst (SqL.same (Same.new ht0) hs) (dp_ints ns), .lst (.inl (.inl upd_same)) .nil, shaped_ints ns, shaped_ints [], _, rfl, ?_⟩⟩
  rw [PyData.eqv, eqv_ints]
  by_cases hnil : ns = []
  · rw [decide_eq_true hnil]
    refine iteF ⟨sz_small (by simp), fun c hc0 => ?_⟩
    have e1 : Same H (upd (upd H t0 (.lst [])) c (.lst [V.int 5])) := (Same.new ht0).trans (Same.new hc0)
    obtain ⟨ms, ems⟩ : ∃ ms : List Int, ms = [5] := ⟨_, rfl⟩
    have hms0 : 0 < ms.length := by rw [ems]; decide
    have hms1 : ms.length ≤ 63 := by rw [ems]; decide
    have hc : SqL K (upd (upd H t0 (.lst [])) c (.lst [V.int 5])) c (ms.map V.int) := by rw [ems]; exact .inl (.inl upd_same)
    obtain ⟨m, hm⟩ : ∃ m, ms[(i % (ms.length : Int)).toNat]? = some m := by
      have h1 : 0 ≤ i % (ms.length : Int) := Int.emod_nonneg _ (by omega)
      have h2 : i % (ms.length : Int) < ms.length := Int.emod_lt_of_pos _ (by omega)
      exact ⟨_, List.getElem?_eq_getElem (by omega)⟩
    have hml : (ms.map V.int).length = ms.length := by simp
    have hat : atI (ms.map V.int) (i % ((ms.map V.int).length : Int)) = some (.int m) := by
      rw [hml]
      exact atI_int (Int.emod_nonneg _ (by omega)) (by rw [List.getElem?_map, hm]; rfl)
    have hp0 : (0 : Int) < (ms.map V.int).length := by rw [hml]; omega
    have hp1 : ((ms.map V.int).length : Int) < 1073741824 := by rw [hml]; omega
    refine ⟨_, rfl, _, rfl, .inl ⟨_, rfl, _, rfl, _, _, rfl, .inl hc, _, _, rfl, rfl, hp0, _, _, _, _, rfl, rfl, hc, hat, _, rfl, _, rfl, _, _, rfl, .inl hc, _, _, rfl, rfl, ⟨hp0, hp1⟩, _, _, rfl, rfl, .inl ⟨by decide, by decide⟩, _, _, rfl, rfl, ?_⟩⟩
    generalize 13 * (i / ((ms.map V.int).length : Int)) = m2
    refine ⟨_, rfl, .inl ⟨_, rfl, _, _, rfl, rfl, by show (0 : Int) < 1000003; decide, _, rfl, _, _, rfl, rfl, ⟨by decide, by decide⟩, .inl ⟨_, rfl, _, _, rfl, rfl, by show (0 : Int) < 999983; decide, _, _, rfl, ?_⟩⟩⟩
    refine ⟨_, rfl, _, ms, rfl, hc, .inl ⟨_, rfl, _, _, rfl, rfl, by show (0 : Int) < 65521; decide, ?_⟩⟩
    refine ⟨_, rfl, _, rfl, _, _, rfl, rfl, .inl ⟨by decide, by decide⟩, _, _, rfl, rfl, _, _, rfl, rfl, .inr ⟨by decide, by decide⟩, _, rfl, _, _, rfl, rfl, .inl ⟨by decide, by decide⟩, _, _, rfl, rfl, _, rfl, _, _, rfl, rfl, .inl ⟨_, rfl, _, _, rfl, rfl, by show (0 : Int) < 2147483647; decide, ?_⟩⟩
    refine ⟨_, rfl, _, rfl, _, rfl, _, _, rfl, rfl, .inl ⟨by decide, by decide⟩, _, _, rfl, rfl, _, _, rfl, rfl, _, _, rfl, rfl, .inl ⟨by omega, by omega⟩, .inl ⟨_, rfl, _, _, rfl, rfl, by show (0 : Int) < 2147483629; decide, _, _, rfl, rfl, .inr ⟨by decide, by decide⟩, _, rfl, _, _, rfl, rfl, ?_⟩⟩
    exact hq _ _ e1 (by omega) (by omega)
  · rw [decide_eq_false hnil]
    have e0 : Same H (upd H t0 (.lst [])) := Same.new ht0
    refine iteT ⟨_, rfl, 63, rfl, _, _, rfl, SqL.same e0 hs, fun c hc0 => ?_⟩
    rw [hcut]
    have e1 : Same H (upd (upd H t0 (.lst [])) c (.lst (ns.map V.int))) := e0.trans (Same.new hc0)
    obtain ⟨ms, ems⟩ : ∃ ms : List Int, ms = ns := ⟨_, rfl⟩
    have hms0 : 0 < ms.length := by rw [ems]; cases ns with | nil => exact absurd rfl hnil | cons a b => simp
    have hms1 : ms.length ≤ 63 := by rw [ems]; exact hns
    have hc : SqL K (upd (upd H t0 (.lst [])) c (.lst (ns.map V.int))) c (ms.map V.int) := by rw [ems]; exact .inl (.inl upd_same)
    obtain ⟨m, hm⟩ : ∃ m, ms[(i % (ms.length : Int)).toNat]? = some m := by
      have h1 : 0 ≤ i % (ms.length : Int) := Int.emod_nonneg _ (by omega)
      have h2 : i % (ms.length : Int) < ms.length := Int.emod_lt_of_pos _ (by omega)
      exact ⟨_, List.getElem?_eq_getElem (by omega)⟩
    have hml : (ms.map V.int).length = ms.length := by simp
    have hat : atI (ms.map V.int) (i % ((ms.map V.int).length : Int)) = some (.int m) := by
      rw [hml]
      exact atI_int (Int.emod_nonneg _ (by omega)) (by rw [List.getElem?_map, hm]; rfl)
    have hp0 : (0 : Int) < (ms.map V.int).length := by rw [hml]; omega
    have hp1 : ((ms.map V.int).length : Int) < 1073741824 := by rw [hml]; omega
    refine ⟨_, rfl, _, rfl, .inl ⟨_, rfl, _, rfl, _, _, rfl, .inl hc, _, _, rfl, rfl, hp0, _, _, _, _, rfl, rfl, hc, hat, _, rfl, _, rfl, _, _, rfl, .inl hc, _, _, rfl, rfl, ⟨hp0, hp1⟩, _, _, rfl, rfl, .inl ⟨by decide, by decide⟩, _, _, rfl, rfl, ?_⟩⟩
    generalize 13 * (i / ((ms.map V.int).length : Int)) = m2
    refine ⟨_, rfl, .inl ⟨_, rfl, _, _, rfl, rfl, by show (0 : Int) < 1000003; decide, _, rfl, _, _, rfl, rfl, ⟨by decide, by decide⟩, .inl ⟨_, rfl, _, _, rfl, rfl, by show (0 : Int) < 999983; decide, _, _, rfl, ?_⟩⟩⟩
    refine ⟨_, rfl, _, ms, rfl, hc, .inl ⟨_, rfl, _, _, rfl, rfl, by show (0 : Int) < 65521; decide, ?_⟩⟩
    refine ⟨_, rfl, _, rfl, _, _, rfl, rfl, .inl ⟨by decide, by decide⟩, _, _, rfl, rfl, _, _, rfl, rfl, .inr ⟨by decide, by decide⟩, _, rfl, _, _, rfl, rfl, .inl ⟨by decide, by decide⟩, _, _, rfl, rfl, _, rfl, _, _, rfl, rfl, .inl ⟨_, rfl, _, _, rfl, rfl, by show (0 : Int) < 2147483647; decide, ?_⟩⟩
    refine ⟨_, rfl, _, rfl, _, rfl, _, _, rfl, rfl, .inl ⟨by decide, by decide⟩, _, _, rfl, rfl, _, _, rfl, rfl, _, _, rfl, rfl, .inl ⟨by omega, by omega⟩, .inl ⟨_, rfl, _, _, rfl, rfl, by show (0 : Int) < 2147483629; decide, _, _, rfl, rfl, .inr ⟨by decide, by decide⟩, _, rfl, _, _, rfl, rfl, ?_⟩⟩
    exact hq _ _ e1 (by omega) (by omega)
end K5

set_option Elab.async false
set_option linter.all false
set_option maxRecDepth 100000
set_option maxHeartbeats 4000000
/-! the law's own steps, part five: what is drawn. -/
namespace K5
open PySem PySem.Spec PyProof.Rows L2
variable {P : Program} {w : World} {K : PySem.W.Frag} {mg : Str → Option Value} {base : Heap} {a : Ad}

def menu8 : List Tx := [[97, 98], [98, 97], [97, 98, 99], [95, 97, 98], [65, 97], [99, 97, 98, 95], [97, 98], [90, 122, 95]]
theorem menu8_lits : [V.str "ab", .str "ba", .str "abc", .str "_ab", .str "Aa", .str "cab_", .str "ab", .str "Zz_"] = menu8.map (fun L => V.str (tx L)) := by
  have h : [Str.ofString "ab", "ba", "abc", "_ab", "Aa", "cab_", "ab", "Zz_"] = menu8.map tx := by decide +kernel
  have h2 := congrArg (List.map V.str) h
  rw [List.map_map] at h2
  exact h2
theorem menu8_menu : ∀ L ∈ menu8, L ∈ menu := by decide

def p_l_letters (K : PySem.W.Frag) (a : Ad) (x y : V) (H : Hp) (Q : VK) : Prop := ∃ i, ScAt K H x ∧ y = .int i ∧ 0 ≤ i ∧ i ≤ 1000 ∧ ∀ L H', Same H H' → L ∈ menu → Q (.str (tx L)) H'
abbrev N_l_letters : List Str := ["script", "at"]
theorem sc_l_letters : FnScope N_l_letters ["script", "at"] (defScope s_l_letters) := ⟨rfl, rfl, rfl, by decide +kernel, rfl, by decide +kernel, by decide +kernel⟩
theorem ok_l_letters {fa : Addr} {fd : FuncData} (T : Txt K mg a) (F : FnP K "_law_letters" "_law_letters" s_l_letters fa fd) (g : mg "_law_letters" = some (.ref fa)) (c_l_number : Cl P w K mg base 1 "_law_number" (sq2 (p_l_number K a))) : Cl P w K mg base 2 "_law_letters" (sq2 (p_l_letters K a)) := by
  refine cl_of F g (fun _ _ _ _ _ _ us hl => match us, hl with | [_, _], _ => rfl) sc_l_letters (fun vs H Q h => sq2_len h) fun vs H Q h cdv A outer s hr => ?_
  obtain ⟨v_script, v_at, rfl, h⟩ := sq2_inv h
  refine ⟨_, (pss_one (ps_ret (pe_ix ix_tup (pe_tup (pa_cons pe_str (pa_cons pe_str (pa_cons pe_str (pa_cons pe_str (pa_cons pe_str (pa_cons pe_str (pa_cons pe_str (pa_cons pe_str pa_nil))))))))) (pe_op op_mod (pe_callTy call_int1 (by rfl) T.fInt (by decide +kernel) (pa_cons (pe_cl c_l_number hr (pa_cons (pv 0) (pa_cons (pv 1) pa_nil))) pa_nil)) pe_int) (fun _ _ => rfl)))), ?_⟩
  obtain ⟨i, hs, rfl, hi0, hi1, hq⟩ := h
  refine ⟨sz_small (by simp), fun t ht => ⟨_, rfl, _, rfl, i, hs.same (Same.new ht), rfl, hi0, hi1, fun n H' e h0 h1 => .inl ⟨_, rfl, n, 8, rfl, rfl, by show (0 : Int) < 8; decide, ?_⟩⟩⟩
  have hlt : (n % 8).toNat < menu8.length := by show _ < 8; omega
  have hm : menu8[(n % 8).toNat]? = some menu8[(n % 8).toNat] := List.getElem?_eq_getElem hlt
  have hmem : menu8[(n % 8).toNat] ∈ menu := menu8_menu _ (List.getElem_mem hlt)
  generalize menu8[(n % 8).toNat] = L at hm hmem
  refine ⟨t, _, n % 8, .str (tx L), rfl, rfl, SqT.same e (.inl (.inl upd_same)), atI_int (by omega) ?_, hq L H' ((Same.new ht).trans e) hmem⟩
  rw [menu8_lits, List.getElem?_map, hm]
  rfl

def p_l_value (K : PySem.W.Frag) (a : Ad) (x y z u : V) (H : Hp) (Q : VK) : Prop := ∃ (i m : Int) (L : Tx), ScAt K H x ∧ y = .int i ∧ 0 ≤ i ∧ i ≤ 1000 ∧ z = .str (tx L) ∧ L ∈ menu ∧ u = .int m ∧ 0 ≤ m ∧ m ≤ 10 ∧ ∀ v H', Same H H' → (∀ c ∈ v, c ∈ L) → (v.length : Int) ≤ m → Q (.str (tx v)) H'
abbrev N_l_value : List Str := ["script", "at", "letters", "most", "seed", "found", "spot"]
theorem sc_l_value : FnScope N_l_value ["script", "at", "letters", "most"] (defScope s_l_value) := ⟨rfl, rfl, rfl, by decide +kernel, rfl, by decide +kernel, by decide +kernel⟩
theorem ok_l_value {fa : Addr} {fd : FuncData} (T : Txt K mg a) (F : FnP K "_law_value" "_law_value" s_l_value fa fd) (g : mg "_law_value" = some (.ref fa)) (c_l_number : Cl P w K mg base 1 "_law_number" (sq2 (p_l_number K a))) : Cl P w K mg base 2 "_law_value" (sq4 (p_l_value K a)) := by
  refine cl_of F g (fun _ _ _ _ _ _ us hl => match us, hl with | [_, _, _, _], _ => rfl) sc_l_value (fun vs H Q h => sq4_len h) fun vs H Q h cdv A outer s hr => ?_
  obtain ⟨v_script, v_at, v_letters, v_most, rfl, h⟩ := sq4_inv h
  refine ⟨_, (pss_cons (ps_par (i := 4) (j := 5) (by rfl) sc_l_value.nd rfl rfl (by decide) rfl rfl (pa_cons (pe_callTy call_int1 (by rfl) T.fInt (by decide +kernel) (pa_cons (pe_cl c_l_number hr (pa_cons (pv 0) (pa_cons (pv 1) pa_nil))) pa_nil)) (pa_cons pe_str pa_nil)) (by rfl))
      (pss_cons (ps_for PassesOwn.never rfl (pi_range1 (by rfl) T.fRange (pa_cons (pe_op op_mod (pe_callTy call_int1 (by rfl) T.fInt (by decide +kernel) (pa_cons (pv 4) pa_nil)) (pe_op op_add (pv 3) pe_int)) pa_nil)) (pg_name (i := 6) sc_l_value.nd rfl (Or.inl rfl)) (pss_one (ps_set (i := 5) sc_l_value.nd rfl (Or.inl rfl) (pe_op op_add_str (pv 5) (pe_ix ix_str (pv 2) (pe_op op_mod (pe_callTy call_int1 (by rfl) T.fInt (by decide +kernel) (pa_cons (pe_op op_fdiv (pv 4) (pe_op op_add pe_int (pe_op op_mul pe_int (pv 6)))) pa_nil)) (pe_callB call_len_str (by rfl) T.fLen (by decide +kernel) (pa_cons (pv 2) pa_nil))) (fun _ _ => rfl))))))
      (pss_one (ps_ret (pv 5))))), ?_⟩
  obtain ⟨i, m, L, hs, rfl, hi0, hi1, rfl, hL, rfl, hm0, hm1, hq⟩ := h
  have hLl := menu_ok L hL
  refine ⟨_, rfl, _, rfl, i, hs, rfl, hi0, hi1, fun n H1 e1 h0 h1 => .inl ⟨_, rfl, _, _, rfl, ?_⟩⟩
  have hr0 : 0 ≤ n % (m + 1) := Int.emod_nonneg _ (by omega)
  have hr1 : n % (m + 1) < m + 1 := Int.emod_lt_of_pos _ (by omega)
  refine ⟨_, rfl, .inl ⟨_, rfl, _, rfl, _, _, rfl, rfl, n, m + 1, rfl, rfl, by show (0 : Int) < m + 1; omega, n % (m + 1), rfl, by omega, by omega, ?_⟩⟩
  have hN : (n % (m + 1)).toNat ≤ 10 ∧ ((n % (m + 1)).toNat : Int) ≤ m := by omega
  generalize (n % (m + 1)).toNat = N at hN
  refine for_it walk_rng (fun j σ H' => Same H H' ∧ ∃ v z, σ = [some v_script, some (.int i), some (.str (tx L)), some (.int m), some (.int n), some (.str (tx v)), z] ∧ v.length = j ∧ ∀ c ∈ v, c ∈ L) ⟨e1, [], _, rfl, rfl, fun c hc => by cases hc⟩ (fun _ _ _ _ _ => trivial) ?_ ?_
  · rintro j x σ H2 H3 hj ⟨e, v, z, rfl, hv, hvL⟩ ⟨rfl, rfl⟩
    have hd0 : (0 : Int) < 7 + 11 * (j : Int) := by omega
    obtain ⟨k, hk⟩ : ∃ k, k = (n / (7 + 11 * (j : Int))) % ((tx L).length : Int) := ⟨_, rfl⟩
    have hLn : (0 : Int) < ((tx L).length : Int) := by rw [tx_len]; omega
    have hk0 : 0 ≤ k := by rw [hk]; exact Int.emod_nonneg _ (by omega)
    have hk1 : k < (L.length : Int) := by rw [hk, ← tx_len]; exact Int.emod_lt_of_pos _ hLn
    have ec : L[k.toNat]? = some (L[k.toNat]'(by omega)) := List.getElem?_eq_getElem (by omega)
    generalize L[k.toNat]'(by omega) = c at ec
    refine ⟨_, rfl, _, rfl, _, rfl, _, rfl, _, _, rfl, rfl, .inl ⟨by decide, by decide⟩, _, _, rfl, rfl, n, _, rfl, rfl, ⟨hd0, by omega⟩, .inl ⟨_, rfl, _, rfl, _, rfl, szS (by omega), _, _, rfl, rfl, hLn, _, _, c, rfl, rfl, szS (by omega), by rw [← hk]; exact atI_int hk0 (by rw [tx_cps]; exact ec), _, _, rfl, rfl, ?_, ?_⟩⟩
    · rw [tx_one, tx_len, tx_len]; exact sz_small (by simp; omega)
    · refine ⟨e, v ++ [c], _, by rw [tx_one, tx_app]; rfl, by simp [hv], fun d hd => ?_⟩
      rcases List.mem_append.mp hd with h | h
      · exact hvL d h
      · rw [List.mem_singleton.mp h]; exact List.mem_of_getElem? ec
  · rintro σ H2 ⟨e, v, z, rfl, hv, hvL⟩
    exact ⟨_, rfl, hq v H2 e hvL (by omega)⟩

def p_l_rows (K : PySem.W.Frag) (a : Ad) (x y z u : V) (H : Hp) (Q : VK) : Prop := ∃ (i : Int) (L : Tx), ScAt K H x ∧ y = .int i ∧ 0 ≤ i ∧ i ≤ 500 ∧ z = .str (tx L) ∧ L ∈ menu ∧ u = .int 3 ∧ ∀ v H' R, Same H H' → RowsAt K H' v R → okRows L R → Q v H'
abbrev N_l_rows : List Str := ["script", "at", "letters", "most", "many", "found", "thin", "state", "row", "spot", "letter", "seed", "out"]
theorem sc_l_rows : FnScope N_l_rows ["script", "at", "letters", "most"] (defScope s_l_rows) := ⟨rfl, rfl, rfl, by decide +kernel, rfl, by decide +kernel, by decide +kernel⟩
theorem ok_l_rows {fa : Addr} {fd : FuncData} (T : Txt K mg a) (F : FnP K "_law_rows" "_law_rows" s_l_rows fa fd) (g : mg "_law_rows" = some (.ref fa)) (c_l_number : Cl P w K mg base 1 "_law_number" (sq2 (p_l_number K a))) : Cl P w K mg base 2 "_law_rows" (sq4 (p_l_rows K a)) := by
  refine cl_of F g (fun _ _ _ _ _ _ us hl => match us, hl with | [_, _, _, _], _ => rfl) sc_l_rows (fun vs H Q h => sq4_len h) fun vs H Q h cdv A outer s hr => ?_
  obtain ⟨v_script, v_at, v_letters, v_most, rfl, h⟩ := sq4_inv h
  refine ⟨_, (pss_cons (ps_par (i := 4) (j := 5) (by rfl) sc_l_rows.nd rfl rfl (by decide) rfl rfl (pa_cons (pe_op op_add pe_int (pe_op op_mod (pe_callTy call_int1 (by rfl) T.fInt (by decide +kernel) (pa_cons (pe_cl c_l_number hr (pa_cons (pv 0) (pa_cons (pv 1) pa_nil))) pa_nil)) (pv 3))) (pa_cons (pe_lst pa_nil) pa_nil)) (by rfl))
      (pss_cons (ps_set (i := 6) sc_l_rows.nd rfl (Or.inl rfl) (pe_op op_add pe_int (pe_op op_mod (pe_callTy call_int1 (by rfl) T.fInt (by decide +kernel) (pa_cons (pe_cl c_l_number hr (pa_cons (pv 0) (pa_cons (pe_op op_add (pv 1) pe_int) pa_nil))) pa_nil)) pe_int)))
      (pss_cons (ps_for PassesOwn.never rfl (pi_range1 (by rfl) T.fRange (pa_cons (pv 4) pa_nil)) (pg_name (i := 7) sc_l_rows.nd rfl (Or.inl rfl)) (pss_cons (ps_set (i := 8) sc_l_rows.nd rfl (Or.inl rfl) (pe_lst pa_nil))
      (pss_cons (ps_for PassesOwn.never rfl (pi_enumS T.fEnum (pa_cons (pv 2) pa_nil)) (pg_tup (by rfl) (pgs_cons (pg_name (i := 9) sc_l_rows.nd rfl (Or.inl rfl)) (pgs_cons (pg_name (i := 10) sc_l_rows.nd rfl (Or.inl rfl)) pgs_nil))) (pss_cons (ps_set (i := 11) sc_l_rows.nd rfl (Or.inl rfl) (pe_callTy call_int1 (by rfl) T.fInt (by decide +kernel) (pa_cons (pe_cl c_l_number hr (pa_cons (pv 0) (pa_cons (pe_op op_add (pe_op op_add (pe_op op_add (pv 1) pe_int) (pe_op op_mul pe_int (pv 7))) (pv 9)) pa_nil))) pa_nil)))
      (pss_cons (ps_set (i := 12) sc_l_rows.nd rfl (Or.inl rfl) (pe_ix ix_str (pv 2) (pe_op op_mod (pe_callTy call_int1 (by rfl) T.fInt (by decide +kernel) (pa_cons (pe_op op_fdiv (pv 11) pe_int) pa_nil)) (pe_callB call_len_str (by rfl) T.fLen (by decide +kernel) (pa_cons (pv 2) pa_nil))) (fun _ _ => rfl)))
      (pss_cons (ps_if (pt_cmpR op_eq (pe_op op_mod (pe_callTy call_int1 (by rfl) T.fInt (by decide +kernel) (pa_cons (pv 11) pa_nil)) (pv 6)) pe_int rfl) (pss_one (ps_set (i := 12) sc_l_rows.nd rfl (Or.inl rfl) pe_str)) pss_nil)
      (pss_cons (ps_set (i := 12) sc_l_rows.nd rfl (Or.inl rfl) (pe_ifExp (pt_cmpR op_eq (pe_op op_mod (pe_callTy call_int1 (by rfl) T.fInt (by decide +kernel) (pa_cons (pe_op op_fdiv (pv 11) pe_int) pa_nil)) pe_int) pe_int rfl) (pv 10) (pv 12)))
      (pss_one (ps_expr (pe_bm PySem.F.plainAttrs_list PySem.F.slot_list_append PySem.F.type_list_append mt_append (pv 8) (pa_cons (pe_tup (pa_cons (pe_op op_mod (pe_callTy call_int1 (by rfl) T.fInt (by decide +kernel) (pa_cons (pe_op op_fdiv (pv 11) pe_int) pa_nil)) (pv 4)) (pa_cons (pv 12) pa_nil))) pa_nil)))))))))
      (pss_one (ps_expr (pe_bm PySem.F.plainAttrs_list PySem.F.slot_list_append PySem.F.type_list_append mt_append (pv 5) (pa_cons (pe_callTy call_tuple_of (by rfl) T.fTuple (by decide +kernel) (pa_cons (pv 8) pa_nil)) pa_nil)))))))
      (pss_one (ps_ret (pe_callTy call_tuple_of (by rfl) T.fTuple (by decide +kernel) (pa_cons (pv 5) pa_nil))))))), ?_⟩
  obtain ⟨i, L, hs, rfl, hi0, hi1, rfl, hL, rfl, hq⟩ := h
  have hLl := (menu_ok L hL).1
  refine ⟨_, rfl, _, rfl, i, hs, rfl, hi0, by omega, fun n H1 e1 h0 h1 => .inl ⟨_, rfl, _, rfl, _, _, rfl, rfl, by show (0 : Int) < 3; decide, ?_⟩⟩
  refine ⟨_, _, rfl, rfl, sz_small (by simp), fun f hf => ?_⟩
  have hf0 : H f = none := Same.free e1 hf
  have ef : Same H (upd H1 f (.lst [])) := e1.trans (Same.new hf)
  refine ⟨.int (1 + n % 3), .ref f, rfl, ?_⟩
  obtain ⟨N, hN⟩ : ∃ N : Nat, (1 + n % 3) = (N : Int) := ⟨(1 + n % 3).toNat, by omega⟩
  have hN1 : 1 ≤ N ∧ N ≤ 3 := by omega
  rw [hN]
  refine ⟨_, rfl, _, rfl, _, _, rfl, rfl, i + 1, hs.same ef, rfl, by omega, by omega, fun n2 H2 e2 h20 h21 => .inl ⟨_, rfl, _, _, rfl, rfl, by show (0 : Int) < 5; decide, _, _, rfl, rfl, ?_⟩⟩
  have hth0 : 0 < 2 + n2 % 5 := by omega
  refine ⟨_, rfl, (N : Int), rfl, by omega, by omega, ?_⟩
  rw [show ((N : Int)).toNat = N from Int.toNat_natCast N]
  refine for_it walk_rng (fun s σ H' => Same H H' ∧ (∃ z1 z2 z3 z4 z5 z6, σ = [some v_script, some (.int i), some (.str (tx L)), some (.int 3), some (.int N), some (.ref f), some (.int (2 + n2 % 5)), z1, z2, z3, z4, z5, z6]) ∧ ∃ vs R, H' f = some (.lst vs) ∧ Paired (RowAt K H') vs R ∧ R.length = s ∧ ∀ r ∈ R, okRow L N r) ⟨ef.trans e2, ⟨_, _, _, _, _, _, rfl⟩, [], [], e2 _ _ upd_same, .nil, rfl, fun r hr => by cases hr⟩ (fun _ _ _ _ _ => trivial) ?_ ?_
  · rintro s x σ H3 H4 hs3 ⟨e, ⟨z1, z2, z3, z4, z5, z6, rfl⟩, vs, R, hf3, hp, hRl, hok⟩ ⟨rfl, rfl⟩
    have hvl := paired_len hp
    refine ⟨sz_small (by simp), fun g hg => ?_⟩
    have eg : Same H4 (upd H4 g (.lst [])) := Same.new hg
    have nfg : f ≠ g := fun z => by subst z; rw [hf3] at hg; cases hg
    refine ⟨_, rfl, tx L, rfl, for_it walk_en (fun j σ H' => Same H4 H' ∧ (∃ z3 z4 z5 z6, σ = [some v_script, some (.int i), some (.str (tx L)), some (.int 3), some (.int N), some (.ref f), some (.int (2 + n2 % 5)), some (.int (s : Nat)), some (.ref g), z3, z4, z5, z6]) ∧ ∃ ts r, H' g = some (.lst ts) ∧ Paired (TurnAt K H') ts r ∧ r.length = j ∧ ∀ t ∈ r, okTurn L N t) ⟨eg, ⟨_, _, _, _, rfl⟩, [], [], upd_same, .nil, rfl, fun t ht => by cases ht⟩ (fun _ _ _ _ _ => trivial) ?_ ?_⟩
    · rintro j x σ H5 H6 hj ⟨e5, ⟨z3, z4, z5, z6, rfl⟩, ts, r, hg5, hpt, hrl, hokt⟩ ⟨T0, y, z, rfl, hT, rfl, hy, hz⟩
      cases Option.some.inj hy
      obtain ⟨c, hc, rfl⟩ : ∃ c, L[j]? = some c ∧ z = .str (tx [c]) := by
        cases hc : L[j]? with
        | none => simp [tx, hc] at hz
        | some c => refine ⟨c, rfl, ?_⟩; simp [tx, hc] at hz; exact hz.symm
      have hcm := List.mem_of_getElem? hc
      have hjl : j < L.length := (List.getElem?_eq_some_iff.mp hc).1
      have htl := paired_len hpt
      have e6 : Same H5 (upd H5 T0 (.tup [.int (j : Nat), .str (tx [c])])) := Same.new hT
      refine ⟨_, _, rfl, .inl (.inl upd_same), rfl, _, _, rfl, _, _, rfl, rfl, ?_⟩
      have eS := (e.trans e5).trans e6
      refine ⟨_, rfl, _, rfl, _, _, rfl, rfl, _, rfl, _, _, rfl, rfl, .inl ⟨by decide, by decide⟩, _, _, rfl, rfl, _, rfl, _, _, rfl, rfl, _, hs.same eS, rfl, by omega, by omega, fun sd H7 e7 hs0 hs1 => .inl ⟨_, rfl, ?_⟩⟩
      have e57 := e6.trans e7
      -- out
      obtain ⟨k, hk⟩ : ∃ k, k = (sd / 9) % ((tx L).length : Int) := ⟨_, rfl⟩
      have hLn : (0 : Int) < ((tx L).length : Int) := by rw [tx_len]; omega
      have hk0 : 0 ≤ k := by rw [hk]; exact Int.emod_nonneg _ (by omega)
      have hk1 : k < (L.length : Int) := by rw [hk, ← tx_len]; exact Int.emod_lt_of_pos _ hLn
      have ec : L[k.toNat]? = some (L[k.toNat]'(by omega)) := List.getElem?_eq_getElem (by omega)
      generalize L[k.toNat]'(by omega) = d at ec
      have hdm := List.mem_of_getElem? ec
      refine ⟨_, rfl, _, rfl, _, _, rfl, rfl, ⟨by decide, by decide⟩, .inl ⟨_, rfl, _, rfl, _, rfl, szS (by omega), _, _, rfl, rfl, hLn, _, _, d, rfl, rfl, szS (by omega), by rw [← hk]; exact atI_int hk0 (by rw [tx_cps]; exact ec), ?_⟩⟩
      refine ⟨_, rfl, .inl ⟨_, rfl, _, rfl, _, _, rfl, rfl, hth0, rfl, _, rfl, ?_⟩⟩
      have hnm : ∀ q : Int, 0 ≤ q % (N : Int) ∧ q % (N : Int) < N := fun q => ⟨Int.emod_nonneg _ (by omega), Int.emod_lt_of_pos _ (by omega)⟩
      have fin : ∀ (t8 : Addr) (o : Tx) (q : Int), (o = [] ∨ ∃ c ∈ L, o = [c]) → H7 t8 = none → (Same H4 (upd (upd H7 t8 (.tup [.int (q % (N : Int)), .str (tx o)])) g (.lst (ts ++ [.ref t8]))) ∧ ∃ ts' r', (upd (upd H7 t8 (.tup [.int (q % (N : Int)), .str (tx o)])) g (.lst (ts ++ [.ref t8]))) g = some (.lst ts') ∧ Paired (TurnAt K (upd (upd H7 t8 (.tup [.int (q % (N : Int)), .str (tx o)])) g (.lst (ts ++ [.ref t8])))) ts' r' ∧ r'.length = j + 1 ∧ ∀ t ∈ r', okTurn L N t) := by
        intro t8 o q ho ht8
        have e8 : Same H7 (upd H7 t8 (.tup [.int (q % (N : Int)), .str (tx o)])) := Same.new ht8
        have hg8 := e8 _ _ (e57 _ _ hg5)
        have tsp : TS K (upd H7 t8 (.tup [.int (q % (N : Int)), .str (tx o)])) (upd (upd H7 t8 (.tup [.int (q % (N : Int)), .str (tx o)])) g (.lst (ts ++ [.ref t8]))) := TS.put (noTup_lst hg8)
        refine ⟨Same.put ((e5.trans e57).trans e8) hg, ts ++ [.ref t8], r ++ [(q % (N : Int), o)], upd_same, paired_app (Paired.mapP hpt fun _ _ z => z.mono ((TS.of (e57.trans e8)).trans tsp)) (.cons ⟨t8, rfl, tsp _ _ (.inl (.inl upd_same))⟩ .nil), by simp [hrl], fun t ht => ?_⟩
        rcases List.mem_append.mp ht with h | h
        · exact hokt t h
        · rw [List.mem_singleton.mp h]; exact ⟨hnm q, ho⟩
      have g7 := e57 _ _ hg5
      cases hz0 : decide (V.int (sd % (2 + n2 % 5)) = V.int 0) with
      | true =>
        refine iteT ?_
        refine ⟨_, rfl, _, _, rfl, rfl, ⟨by decide, by decide⟩, .inl ⟨_, rfl, _, _, rfl, rfl, by show (0 : Int) < 3; decide, rfl, _, rfl, ?_⟩⟩
        cases hz1 : decide (V.int (sd / 81 % 3) = V.int 0) with
        | true =>
          refine iteT ⟨_, rfl, ⟨_, rfl, .inl ⟨rfl, _, .inl (.inl g7)⟩, _, rfl, _, _, rfl, rfl, ⟨by decide, by decide⟩, .inl ⟨_, rfl, _, rfl, _, _, rfl, rfl, by show (0 : Int) < (N : Int); omega, _, rfl, sz_small (by simp), fun t8 ht8 => ⟨_, _, _, rfl, rfl, Same.new ht8 _ _ g7, sz_smallT (by omega), ?_⟩⟩⟩⟩
          have z8 := fin t8 ([c]) (sd / 500) (.inr ⟨c, hcm, rfl⟩) ht8
          exact ⟨z8.1, ⟨_, _, _, _, rfl⟩, z8.2⟩
        | false =>
          refine iteF ⟨_, rfl, ⟨_, rfl, .inl ⟨rfl, _, .inl (.inl g7)⟩, _, rfl, _, _, rfl, rfl, ⟨by decide, by decide⟩, .inl ⟨_, rfl, _, rfl, _, _, rfl, rfl, by show (0 : Int) < (N : Int); omega, _, rfl, sz_small (by simp), fun t8 ht8 => ⟨_, _, _, rfl, rfl, Same.new ht8 _ _ g7, sz_smallT (by omega), ?_⟩⟩⟩⟩
          have z8 := fin t8 ([]) (sd / 500) (.inl rfl) ht8
          exact ⟨z8.1, ⟨_, _, _, _, rfl⟩, z8.2⟩
      | false =>
        refine iteF ?_
        refine ⟨_, rfl, _, _, rfl, rfl, ⟨by decide, by decide⟩, .inl ⟨_, rfl, _, _, rfl, rfl, by show (0 : Int) < 3; decide, rfl, _, rfl, ?_⟩⟩
        cases hz1 : decide (V.int (sd / 81 % 3) = V.int 0) with
        | true =>
          refine iteT ⟨_, rfl, ⟨_, rfl, .inl ⟨rfl, _, .inl (.inl g7)⟩, _, rfl, _, _, rfl, rfl, ⟨by decide, by decide⟩, .inl ⟨_, rfl, _, rfl, _, _, rfl, rfl, by show (0 : Int) < (N : Int); omega, _, rfl, sz_small (by simp), fun t8 ht8 => ⟨_, _, _, rfl, rfl, Same.new ht8 _ _ g7, sz_smallT (by omega), ?_⟩⟩⟩⟩
          have z8 := fin t8 ([c]) (sd / 500) (.inr ⟨c, hcm, rfl⟩) ht8
          exact ⟨z8.1, ⟨_, _, _, _, rfl⟩, z8.2⟩
        | false =>
          refine iteF ⟨_, rfl, ⟨_, rfl, .inl ⟨rfl, _, .inl (.inl g7)⟩, _, rfl, _, _, rfl, rfl, ⟨by decide, by decide⟩, .inl ⟨_, rfl, _, rfl, _, _, rfl, rfl, by show (0 : Int) < (N : Int); omega, _, rfl, sz_small (by simp), fun t8 ht8 => ⟨_, _, _, rfl, rfl, Same.new ht8 _ _ g7, sz_smallT (by omega), ?_⟩⟩⟩⟩
          have z8 := fin t8 ([d]) (sd / 500) (.inr ⟨d, hdm, rfl⟩) ht8
          exact ⟨z8.1, ⟨_, _, _, _, rfl⟩, z8.2⟩
    · rintro σ H5 ⟨e5, ⟨z3, z4, z5, z6, rfl⟩, ts, r, hg5, hpt, hrl, hokt⟩
      have htl := paired_len hpt
      have hsz : (tx L).cps.size = L.length := by simp [tx]
      have hf5 := e5 _ _ hf3
      refine ⟨_, rfl, .inl ⟨rfl, _, .inl (.inl hf5)⟩, _, rfl, _, _, rfl, .inl ⟨.inl (.inl hg5), fun t9 ht9 => ⟨_, _, _, rfl, rfl, Same.new ht9 _ _ hf5, sz_smallT (by omega), ?_⟩⟩⟩
      have e9 : Same H5 (upd H5 t9 (.tup ts)) := Same.new ht9
      have tsp : TS K (upd H5 t9 (.tup ts)) (upd (upd H5 t9 (.tup ts)) f (.lst (vs ++ [.ref t9]))) := TS.put (noTup_lst (e9 _ _ hf5))
      refine ⟨Same.put ((e.trans e5).trans e9) hf0, ⟨_, _, _, _, _, _, rfl⟩, vs ++ [.ref t9], R ++ [r], upd_same, paired_app (Paired.mapP hp fun _ _ z => z.mono ((TS.of (e5.trans e9)).trans tsp)) (.cons ⟨t9, ts, rfl, tsp _ _ (.inl (.inl upd_same)), Paired.mapP hpt fun _ _ z => z.mono ((TS.of e9).trans tsp)⟩ .nil), by simp [hRl], fun r' hr' => ?_⟩
      rcases List.mem_append.mp hr' with h | h
      · exact hok r' h
      · rw [List.mem_singleton.mp h]; exact ⟨by rw [hrl, hsz], hokt⟩
  · rintro σ H3 ⟨e, ⟨z1, z2, z3, z4, z5, z6, rfl⟩, vs, R, hf3, hp, hRl, hok⟩
    refine ⟨_, rfl, _, _, rfl, .inl ⟨.inl (.inl hf3), fun t ht => ?_⟩⟩
    have et : Same H3 (upd H3 t (.tup vs)) := Same.new ht
    exact hq _ _ R (e.trans et) ⟨t, vs, rfl, .inl (.inl upd_same), Paired.mapP hp fun _ _ z => z.mono (TS.of et)⟩ ⟨by omega, by omega, fun r hr => by rw [hRl]; exact hok r hr⟩
end K5

set_option Elab.async false
set_option linter.all false
set_option maxRecDepth 100000
set_option maxHeartbeats 4000000
/-! the law's own steps, part six: the plan, and what is reached. -/
namespace K5
open PySem PySem.Spec PyProof.Rows L2
variable {P : Program} {w : World} {K : PySem.W.Frag} {mg : Str → Option Value} {base : Heap} {a : Ad}

theorem q_nil : (Str.ofString "") = tx [] := by decide +kernel
theorem okc_eq {L p : Tx} (h : ∀ c ∈ p, c ∈ L) (hl : (p.length : Int) ≤ 4) : (∀ c ∈ p, c ∈ L) ∧ p.length ≤ 4 := ⟨h, by omega⟩

def p_l_condition (K : PySem.W.Frag) (a : Ad) (x y z : V) (H : Hp) (Q : VK) : Prop := ∃ (i : Int) (L : Tx), ScAt K H x ∧ y = .int i ∧ 0 ≤ i ∧ i ≤ 500 ∧ z = .str (tx L) ∧ L ∈ menu ∧ ∀ v H' c, Same H H' → CondAt K H' v c → okCond L c → Q v H'
abbrev N_l_condition : List Str := ["script", "at", "letters", "seed", "word", "signs", "text", "spot", "texts"]
theorem sc_l_condition : FnScope N_l_condition ["script", "at", "letters"] (defScope s_l_condition) := ⟨rfl, rfl, rfl, by decide +kernel, rfl, by decide +kernel, by decide +kernel⟩
theorem ok_l_condition {fa : Addr} {fd : FuncData} (T : Txt K mg a) (F : FnP K "_law_condition" "_law_condition" s_l_condition fa fd) (g : mg "_law_condition" = some (.ref fa)) (c_l_number : Cl P w K mg base 1 "_law_number" (sq2 (p_l_number K a))) (c_l_value : Cl P w K mg base 2 "_law_value" (sq4 (p_l_value K a))) : Cl P w K mg base 3 "_law_condition" (sq3 (p_l_condition K a)) := by
  refine cl_of F g (fun _ _ _ _ _ _ us hl => match us, hl with | [_, _, _], _ => rfl) sc_l_condition (fun vs H Q h => sq3_len h) fun vs H Q h cdv A outer s hr => ?_
  obtain ⟨v_script, v_at, v_letters, rfl, h⟩ := sq3_inv h
  refine ⟨_, (pss_cons (ps_set (i := 3) sc_l_condition.nd rfl (Or.inl rfl) (pe_callTy call_int1 (by rfl) T.fInt (by decide +kernel) (pa_cons (pe_cl c_l_number hr (pa_cons (pv 0) (pa_cons (pv 1) pa_nil))) pa_nil)))
      (pss_cons (ps_set (i := 4) sc_l_condition.nd rfl (Or.inl rfl) (pe_ix ix_tup (pe_tup (pa_cons pe_str (pa_cons pe_str (pa_cons pe_str (pa_cons pe_str (pa_cons pe_str pa_nil)))))) (pe_op op_mod (pe_callTy call_int1 (by rfl) T.fInt (by decide +kernel) (pa_cons (pv 3) pa_nil)) pe_int) (fun _ _ => rfl)))
      (pss_cons (ps_if (pt_cmpR op_eq (pv 4) pe_str rfl) (pss_cons (ps_par (i := 5) (j := 6) (by rfl) sc_l_condition.nd rfl rfl (by decide) rfl rfl (pa_cons (pe_op op_add_str (pv 2) pe_str) (pa_cons pe_str pa_nil)) (by rfl))
      (pss_cons (ps_for PassesOwn.never rfl (pi_range1 (by rfl) T.fRange (pa_cons (pe_op op_mod (pe_callTy call_int1 (by rfl) T.fInt (by decide +kernel) (pa_cons (pe_op op_fdiv (pv 3) pe_int) pa_nil)) pe_int) pa_nil)) (pg_name (i := 7) sc_l_condition.nd rfl (Or.inl rfl)) (pss_one (ps_set (i := 6) sc_l_condition.nd rfl (Or.inl rfl) (pe_op op_add_str (pv 6) (pe_ix ix_str (pv 5) (pe_op op_mod (pe_callTy call_int1 (by rfl) T.fInt (by decide +kernel) (pa_cons (pe_op op_fdiv (pv 3) (pe_op op_add pe_int (pe_op op_mul pe_int (pv 7)))) pa_nil)) (pe_callB call_len_str (by rfl) T.fLen (by decide +kernel) (pa_cons (pv 5) pa_nil))) (fun _ _ => rfl))))))
      (pss_one (ps_ret (pe_tup (pa_cons (pv 4) (pa_cons (pv 6) pa_nil))))))) pss_nil)
      (pss_cons (ps_set (i := 8) sc_l_condition.nd rfl (Or.inl rfl) (pe_lst (pa_cons (pe_cl c_l_value hr (pa_cons (pv 0) (pa_cons (pe_op op_add (pv 1) pe_int) (pa_cons (pv 2) (pa_cons pe_int pa_nil))))) (pa_cons (pe_cl c_l_value hr (pa_cons (pv 0) (pa_cons (pe_op op_add (pv 1) pe_int) (pa_cons (pv 2) (pa_cons pe_int pa_nil))))) pa_nil))))
      (pss_one (ps_ret (pe_ifExp (pt_cmpR op_eq (pv 4) pe_str rfl) (pe_tup (pa_cons (pv 4) (pa_cons (pe_ix ix_list (pv 8) pe_int (fun _ _ => rfl)) (pa_cons (pe_ix ix_list (pv 8) pe_int (fun _ _ => rfl)) pa_nil)))) (pe_tup (pa_cons (pv 4) (pa_cons (pe_ix ix_list (pv 8) pe_int (fun _ _ => rfl)) pa_nil)))))))))), ?_⟩
  obtain ⟨i, L, hs, rfl, hi0, hi1, rfl, hL, hq⟩ := h
  have hLl := (menu_ok L hL).1
  refine ⟨_, rfl, _, rfl, i, hs, rfl, hi0, by omega, fun n H1 e1 h0 h1 => .inl ⟨_, rfl, ?_⟩⟩
  obtain ⟨wd, hwd, hcase⟩ : ∃ wd : Str, atI [V.str "equal", .str "begins", .str "between", .str "like", .str "like"] (n % 5) = some (.str wd) ∧ (wd = "like" ∨ wd = "between" ∨ wd = "equal" ∨ wd = "begins") := by
    have h : n % 5 = 0 ∨ n % 5 = 1 ∨ n % 5 = 2 ∨ n % 5 = 3 ∨ n % 5 = 4 := by omega
    rcases h with h | h | h | h | h <;> rw [h]
    · exact ⟨_, rfl, .inr (.inr (.inl rfl))⟩
    · exact ⟨_, rfl, .inr (.inr (.inr rfl))⟩
    · exact ⟨_, rfl, .inr (.inl rfl)⟩
    · exact ⟨_, rfl, .inl rfl⟩
    · exact ⟨_, rfl, .inl rfl⟩
  refine ⟨sz_small (by simp), fun t ht => ?_⟩
  have e2 : Same H (upd H1 t (.tup [V.str "equal", .str "begins", .str "between", .str "like", .str "like"])) := e1.trans (Same.new ht)
  refine ⟨_, rfl, .inl ⟨_, rfl, _, _, rfl, rfl, by show (0 : Int) < 5; decide, _, _, _, .str wd, rfl, rfl, .inl (.inl upd_same), hwd, ?_⟩⟩
  generalize upd H1 t (.tup [V.str "equal", .str "begins", .str "between", .str "like", .str "like"]) = H2 at e2
  rcases hcase with rfl | hcase
  · refine ⟨_, rfl, rfl, _, rfl, iteT ?_⟩
    refine ⟨_, rfl, _, _, rfl, rfl, by rw [q_both, tx_len, tx_len]; exact sz_small (by simp; omega), .str (tx (L ++ [63, 42])), .str (tx []), by rw [q_both, tx_app, q_nil], ?_⟩
    refine ⟨_, rfl, _, _, rfl, rfl, ⟨by decide, by decide⟩, .inl ⟨_, rfl, _, _, rfl, rfl, by show (0 : Int) < 5; decide, n / 5 % 5, rfl, by omega, by omega, ?_⟩⟩
    have hN : (n / 5 % 5).toNat ≤ 4 := by omega
    generalize (n / 5 % 5).toNat = N at hN
    refine for_it walk_rng (fun j σ H' => Same H H' ∧ ∃ v z z2, σ = [some v_script, some (.int i), some (.str (tx L)), some (.int n), some (.str "like"), some (.str (tx (L ++ [63, 42]))), some (.str (tx v)), z, z2] ∧ v.length = j ∧ ∀ c ∈ v, c ∈ L ++ [63, 42]) ⟨e2, [], _, _, rfl, rfl, fun c hc => by cases hc⟩ (fun _ _ _ _ _ => trivial) ?_ ?_
    · rintro j x σ H2 H3 hj ⟨e, v, z, z2, rfl, hv, hvL⟩ ⟨rfl, rfl⟩
      have hd0 : (0 : Int) < 30 + 7 * (j : Int) := by omega
      obtain ⟨k, hk⟩ : ∃ k, k = (n / (30 + 7 * (j : Int))) % ((tx (L ++ [63, 42])).length : Int) := ⟨_, rfl⟩
      have hLn : (0 : Int) < ((tx (L ++ [63, 42])).length : Int) := by rw [tx_len]; simp; omega
      have hk0 : 0 ≤ k := by rw [hk]; exact Int.emod_nonneg _ (by omega)
      have hk1 : k < ((L ++ [63, 42]).length : Int) := by rw [hk, ← tx_len]; exact Int.emod_lt_of_pos _ hLn
      have ec : (L ++ [63, 42])[k.toNat]? = some ((L ++ [63, 42])[k.toNat]'(by omega)) := List.getElem?_eq_getElem (by omega)
      generalize (L ++ [63, 42])[k.toNat]'(by omega) = c at ec
      refine ⟨_, rfl, _, rfl, _, rfl, _, rfl, _, _, rfl, rfl, .inl ⟨by decide, by decide⟩, _, _, rfl, rfl, n, _, rfl, rfl, ⟨hd0, by omega⟩, .inl ⟨_, rfl, _, rfl, _, rfl, szS (by simp; omega), _, _, rfl, rfl, hLn, _, _, c, rfl, rfl, szS (by simp; omega), by rw [← hk]; exact atI_int hk0 (by rw [tx_cps]; exact ec), _, _, rfl, rfl, ?_, ?_⟩⟩
      · rw [tx_one, tx_len, tx_len]; exact sz_small (by simp; omega)
      · refine ⟨e, v ++ [c], _, _, by rw [tx_one, tx_app]; rfl, by simp [hv], fun d hd => ?_⟩
        rcases List.mem_append.mp hd with h | h
        · exact hvL d h
        · rw [List.mem_singleton.mp h]; exact List.mem_of_getElem? ec
    · rintro σ H2 ⟨e, v, z, z2, rfl, hv, hvL⟩
      refine ⟨_, rfl, _, rfl, sz_small (by simp), fun t1 ht1 => hq _ _ (.like v) (e.trans (Same.new ht1)) ⟨t1, rfl, .inl (.inl upd_same)⟩ ⟨fun c hc => ?_, by omega⟩⟩
      have := hvL c hc
      simpa using this
  · have nl : decide (V.str wd = V.str "like") = false := by rcases hcase with rfl | rfl | rfl <;> rfl
    refine ⟨_, rfl, rfl, _, rfl, ?_⟩
    rw [nl]
    refine iteF ?_
    refine ⟨_, rfl, _, rfl, _, _, rfl, rfl, _, rfl, i + 1, 4, L, hs.same e2, rfl, by omega, by omega, rfl, hL, rfl, by decide, by decide, fun v1 H3 e3 hm1 hl1 => ?_⟩
    refine ⟨_, rfl, _, rfl, _, _, rfl, rfl, _, rfl, i + 2, 4, L, hs.same (e2.trans e3), rfl, by omega, by omega, rfl, hL, rfl, by decide, by decide, fun v2 H4 e4 hm2 hl2 => ?_⟩
    refine ⟨sz_small (by simp), fun l hl => ?_⟩
    have e5 : Same H (upd H4 l (.lst [V.str (tx v1), .str (tx v2)])) := ((e2.trans e3).trans e4).trans (Same.new hl)
    have hll : SqL K (upd H4 l (.lst [V.str (tx v1), .str (tx v2)])) l [V.str (tx v1), .str (tx v2)] := .inl (.inl upd_same)
    generalize upd H4 l (.lst [V.str (tx v1), .str (tx v2)]) = H5 at e5 hll
    rcases hcase with rfl | rfl | rfl
    · exact ⟨_, rfl, rfl, _, rfl, iteT ⟨_, rfl, _, rfl, _, _, 0, _, rfl, rfl, hll, rfl, _, rfl, _, _, 1, _, rfl, rfl, hll, rfl, sz_small (by simp), fun t1 ht1 => hq _ _ (.bet v1 v2) (e5.trans (Same.new ht1)) ⟨t1, rfl, .inl (.inl upd_same)⟩ ⟨okc_eq hm1 hl1, okc_eq hm2 hl2⟩⟩⟩
    · exact ⟨_, rfl, rfl, _, rfl, iteF ⟨_, rfl, _, rfl, _, _, 0, _, rfl, rfl, hll, rfl, sz_small (by simp), fun t1 ht1 => hq _ _ (.eq v1) (e5.trans (Same.new ht1)) ⟨t1, rfl, .inl (.inl upd_same)⟩ (okc_eq hm1 hl1)⟩⟩
    · exact ⟨_, rfl, rfl, _, rfl, iteF ⟨_, rfl, _, rfl, _, _, 0, _, rfl, rfl, hll, rfl, sz_small (by simp), fun t1 ht1 => hq _ _ (.beg v1) (e5.trans (Same.new ht1)) ⟨t1, rfl, .inl (.inl upd_same)⟩ (okc_eq hm1 hl1)⟩⟩

def p_l_plan (K : PySem.W.Frag) (a : Ad) (x y : V) (H : Hp) (Q : VK) : Prop := ∃ L, ScAt K H x ∧ y = .str (tx L) ∧ L ∈ menu ∧ ∀ v H' S, Same H H' → PlanAt K H' v S → OkPlan S → S.L = L → Q v H'
abbrev N_l_plan : List Str := ["script", "letters", "index", "rows", "question", "condition", "seed"]
theorem sc_l_plan : FnScope N_l_plan ["script", "letters"] (defScope s_l_plan) := ⟨rfl, rfl, rfl, by decide +kernel, rfl, by decide +kernel, by decide +kernel⟩
theorem ok_l_plan {fa : Addr} {fd : FuncData} (T : Txt K mg a) (F : FnP K "_law_plan" "_law_plan" s_l_plan fa fd) (g : mg "_law_plan" = some (.ref fa)) (c_l_rows : Cl P w K mg base 2 "_law_rows" (sq4 (p_l_rows K a))) (c_l_condition : Cl P w K mg base 3 "_law_condition" (sq3 (p_l_condition K a))) (c_l_number : Cl P w K mg base 1 "_law_number" (sq2 (p_l_number K a))) : Cl P w K mg base 4 "_law_plan" (sq2 (p_l_plan K a)) := by
  refine cl_of F g (fun _ _ _ _ _ _ us hl => match us, hl with | [_, _], _ => rfl) sc_l_plan (fun vs H Q h => sq2_len h) fun vs H Q h cdv A outer s hr => ?_
  obtain ⟨v_script, v_letters, rfl, h⟩ := sq2_inv h
  refine ⟨_, (pss_cons (ps_par (i := 2) (j := 3) (by rfl) sc_l_plan.nd rfl rfl (by decide) rfl rfl (pa_cons (pe_cl c_l_rows hr (pa_cons (pv 0) (pa_cons pe_int (pa_cons (pv 1) (pa_cons pe_int pa_nil))))) (pa_cons (pe_cl c_l_rows hr (pa_cons (pv 0) (pa_cons pe_int (pa_cons (pv 1) (pa_cons pe_int pa_nil))))) pa_nil)) (by rfl))
      (pss_cons (ps_par (i := 4) (j := 5) (by rfl) sc_l_plan.nd rfl rfl (by decide) rfl rfl (pa_cons (pe_cl c_l_condition hr (pa_cons (pv 0) (pa_cons pe_int (pa_cons (pv 1) pa_nil)))) (pa_cons (pe_cl c_l_condition hr (pa_cons (pv 0) (pa_cons pe_int (pa_cons (pv 1) pa_nil)))) pa_nil)) (by rfl))
      (pss_cons (ps_set (i := 6) sc_l_plan.nd rfl (Or.inl rfl) (pe_callTy call_int1 (by rfl) T.fInt (by decide +kernel) (pa_cons (pe_cl c_l_number hr (pa_cons (pv 0) (pa_cons pe_int pa_nil))) pa_nil)))
      (pss_cons (ps_if (pt_cmpR op_eq (pe_op op_mod (pe_callTy call_int1 (by rfl) T.fInt (by decide +kernel) (pa_cons (pv 6) pa_nil)) pe_int) pe_int rfl) (pss_one (ps_set (i := 4) sc_l_plan.nd rfl (Or.inl rfl) (pv 5))) pss_nil)
      (pss_cons (ps_if (pt_cmpR op_eq (pe_op op_mod (pe_callTy call_int1 (by rfl) T.fInt (by decide +kernel) (pa_cons (pe_op op_fdiv (pv 6) pe_int) pa_nil)) pe_int) pe_int rfl) (pss_one (ps_set (i := 2) sc_l_plan.nd rfl (Or.inl rfl) (pv 3))) pss_nil)
      (pss_one (ps_ret (pe_tup (pa_cons (pv 1) (pa_cons (pv 2) (pa_cons (pv 4) (pa_cons (pv 3) (pa_cons (pv 5) pa_nil))))))))))))), ?_⟩
  obtain ⟨L, hs, rfl, hL, hq⟩ := h
  refine ⟨_, rfl, _, rfl, 10, L, hs, rfl, by decide, by decide, rfl, hL, rfl, fun w1 H1 R1 e1 hR1 ok1 => ?_⟩
  refine ⟨_, rfl, _, rfl, 40, L, hs.same e1, rfl, by decide, by decide, rfl, hL, rfl, fun w2 H2 R2 e2 hR2 ok2 => ⟨_, _, rfl, ?_⟩⟩
  have e12 := e1.trans e2
  refine ⟨_, rfl, _, rfl, 70, L, hs.same e12, rfl, by decide, by decide, rfl, hL, fun w3 H3 c3 e3 hc3 ok3 => ?_⟩
  have e13 := e12.trans e3
  refine ⟨_, rfl, _, rfl, 74, L, hs.same e13, rfl, by decide, by decide, rfl, hL, fun w4 H4 c4 e4 hc4 ok4 => ⟨_, _, rfl, ?_⟩⟩
  have e14 := e13.trans e4
  refine ⟨_, rfl, 80, hs.same e14, rfl, by decide, by decide, fun n H5 e5 h0 h1 => .inl ⟨_, rfl, ?_⟩⟩
  have e15 := e14.trans e5
  have fR1 := hR1.same (((e2.trans e3).trans e4).trans e5)
  have fR2 := hR2.same ((e3.trans e4).trans e5)
  have fc3 := hc3.same (e4.trans e5)
  have fc4 := hc4.same e5
  have fin : ∀ (u1 u2 : V) (Ra : Rows) (ca : Cond) (t : Addr), RowsAt K H5 u1 Ra → okRows L Ra → CondAt K H5 u2 ca → okCond L ca → H5 t = none → Q (.ref t) (upd H5 t (.tup [.str (tx L), u1, u2, w2, w4])) := fun u1 u2 Ra ca t h1 h2 h3 h4 ht =>
    have et : Same H5 (upd H5 t (.tup [.str (tx L), u1, u2, w2, w4])) := Same.new ht
    hq _ _ ⟨L, Ra, ca, R2, c4⟩ (e15.trans et) ⟨t, u1, u2, w2, w4, rfl, .inl (.inl upd_same), h1.same et, h3.same et, fR2.same et, fc4.same et⟩ ⟨hL, h2, ok2, h4, ok4⟩ rfl
  refine ⟨_, rfl, .inl ⟨_, rfl, _, _, rfl, rfl, by show (0 : Int) < 3; decide, rfl, _, rfl, ?_⟩⟩
  cases hz0 : decide (V.int (n % 3) = V.int 0) with
  | true =>
    refine iteT ⟨_, rfl, _, rfl, _, _, rfl, rfl, ⟨by decide, by decide⟩, .inl ⟨_, rfl, _, _, rfl, rfl, by show (0 : Int) < 4; decide, rfl, _, rfl, ?_⟩⟩
    cases hz1 : decide (V.int (n / 3 % 4) = V.int 0) with
    | true => exact iteT ⟨_, rfl, _, rfl, _, rfl, _, rfl, _, rfl, _, rfl, sz_small (by simp), fun t ht => fin _ _ R2 c4 t fR2 ok2 fc4 ok4 ht⟩
    | false => exact iteF ⟨_, rfl, _, rfl, _, rfl, _, rfl, _, rfl, sz_small (by simp), fun t ht => fin _ _ R1 c4 t fR1 ok1 fc4 ok4 ht⟩
  | false =>
    refine iteF ⟨_, rfl, _, _, rfl, rfl, ⟨by decide, by decide⟩, .inl ⟨_, rfl, _, _, rfl, rfl, by show (0 : Int) < 4; decide, rfl, _, rfl, ?_⟩⟩
    cases hz1 : decide (V.int (n / 3 % 4) = V.int 0) with
    | true => exact iteT ⟨_, rfl, _, rfl, _, rfl, _, rfl, _, rfl, _, rfl, sz_small (by simp), fun t ht => fin _ _ R2 c3 t fR2 ok2 fc3 ok3 ht⟩
    | false => exact iteF ⟨_, rfl, _, rfl, _, rfl, _, rfl, _, rfl, sz_small (by simp), fun t ht => fin _ _ R1 c3 t fR1 ok1 fc3 ok3 ht⟩
end K5

set_option Elab.async false
set_option linter.all false
set_option maxRecDepth 100000
set_option maxHeartbeats 4000000
/-! the law's own steps, part seven: what is reached. -/
namespace K5
open PySem PySem.Spec PyProof.Rows L2
variable {P : Program} {w : World} {K : PySem.W.Frag} {mg : Str → Option Value} {base : Heap} {a : Ad}

/-- the spots that were met so far: a dict and a list of its keys -/
structure RInv (P : Program) (w : World) (K : PySem.W.Frag) (H : Hp) (d l : Addr) (S : Plan) (xs : List NIt) : Prop where
  d : H d = some (DNO P w d xs)
  l : H l = some (.lst (keysV xs))
  ks : KeysOk K H xs
  ne : xs ≠ []
  sp : ∀ x ∈ xs, isSpot S x.1 = true
  vl : ∀ x ∈ xs, ∃ k : Int, x.2.2 = .int k
theorem RInv.same {H H' : Hp} {d l : Addr} {S : Plan} {xs : List NIt} (e : Same H H') (h : RInv P w K H d l S xs) : RInv P w K H' d l S xs := ⟨e _ _ h.d, e _ _ h.l, h.ks.mono (TS.of e), h.ne, h.sp, h.vl⟩
theorem keysV_len (xs : List NIt) : (keysV xs).length = xs.length := by unfold keysV; simp

def p_l_reach (Pr : Program) (wo : World) (K : PySem.W.Frag) (a : Ad) (x y : V) (H : Hp) (Q : VK) : Prop := ∃ S, PlanAt K H x S ∧ OkPlan S ∧ y = .int 120 ∧ (∀ H', Same H H' → Q .non H') ∧
  ∀ d H' xs, H d = none → Same H H' → H' d = some (DNO Pr wo d xs) → KeysOk K H' xs → xs ≠ [] → xs.length ≤ 120 → (∀ x ∈ xs, isSpot S x.1 = true) → Q (.ref d) H'
abbrev N_l_reach : List Str := ["plan", "most", "found", "at", "line", "letter", "late"]
theorem sc_l_reach : FnScope N_l_reach ["plan", "most"] (defScope s_l_reach) := ⟨rfl, rfl, rfl, by decide +kernel, rfl, by decide +kernel, by decide +kernel⟩
theorem ok_l_reach {fa : Addr} {fd : FuncData} (T : Txt K mg a) (F : FnP K "_law_reach" "_law_reach" s_l_reach fa fd) (g : mg "_law_reach" = some (.ref fa)) (c_l_first_spot : Cl P w K mg base 3 "_law_first_spot" (sq1 (p_l_first_spot K a))) (c_l_next_spot : Cl P w K mg base 3 "_law_next_spot" (sq3 (p_l_next_spot K a))) : Cl P w K mg base 4 "_law_reach" (sq2 (p_l_reach P w K a)) := by
  refine cl_of F g (fun _ _ _ _ _ _ us hl => match us, hl with | [_, _], _ => rfl) sc_l_reach (fun vs H Q h => sq2_len h) fun vs H Q h cdv A outer s hr => ?_
  obtain ⟨v_plan, v_most, rfl, h⟩ := sq2_inv h
  refine ⟨_, (pss_cons (ps_par (i := 2) (j := 3) (by rfl) sc_l_reach.nd rfl rfl (by decide) rfl rfl (pa_cons (pe_disp1N hr (pe_cl c_l_first_spot hr (pa_cons (pv 0) pa_nil)) pe_int) (pa_cons pe_int pa_nil)) (by rfl))
      (pss_cons (ps_set (i := 4) sc_l_reach.nd rfl (Or.inl rfl) (pe_callTy (call_listN rfl) (by rfl) T.fList (by decide +kernel) (pa_cons (pv 2) pa_nil)))
      (pss_cons (ps_while PassesOwn.never (pt_cmpR op_lt (pv 3) (pe_callB call_len_seq (by rfl) T.fLen (by decide +kernel) (pa_cons (pv 4) pa_nil)) rfl) (pss_cons (ps_for PassesOwn.never rfl (pi_str (pe_ix ix_tup (pv 0) pe_int (fun _ _ => rfl))) (pg_name (i := 5) sc_l_reach.nd rfl (Or.inl rfl)) (pss_cons (ps_set (i := 6) sc_l_reach.nd rfl (Or.inl rfl) (pe_cl c_l_next_spot hr (pa_cons (pv 0) (pa_cons (pe_ix ix_list (pv 4) (pv 3) (fun _ _ => rfl)) (pa_cons (pv 5) pa_nil)))))
      (pss_one (ps_if (pt_cmpR (op_notInN hr) (pv 6) (pv 2) rfl) (pss_cons (ps_asg (pe_op op_add (pe_getN hr (pv 2) (pe_ix ix_list (pv 4) (pv 3) (fun _ _ => rfl)) (fun _ _ => rfl)) pe_int) (pg_sub (pv 2) (pv 6) (set_N hr)))
      (pss_one (ps_expr (pe_bm PySem.F.plainAttrs_list PySem.F.slot_list_append PySem.F.type_list_append mt_append (pv 4) (pa_cons (pv 6) pa_nil))))) pss_nil))))
      (pss_cons (ps_if (pt_cmpR op_gt (pe_callB call_len_seq (by rfl) T.fLen (by decide +kernel) (pa_cons (pv 4) pa_nil)) (pv 1) rfl) (pss_one (ps_ret pe_non)) pss_nil)
      (pss_one (ps_set (i := 3) sc_l_reach.nd rfl (Or.inl rfl) (pe_op op_add (pv 3) pe_int))))))
      (pss_one (ps_ret (pv 2)))))), ?_⟩
  obtain ⟨S, hP, ok, rfl, hq1, hq2⟩ := h
  have hP0 := hP
  obtain ⟨b, w1, w2, w3, w4, rfl, hb0, _⟩ := hP
  have hL4 := menu_len ok.L
  intro d hd
  have ed : Same H (upd H d (DNO P w d [])) := Same.new hd
  refine ⟨_, rfl, S, hP0.same ed, ok, fun v H1 e1 sp => ?_⟩
  obtain ⟨a0, ea0⟩ : ∃ a0, v = .ref a0 := let ⟨a0, _, _, ea, _⟩ := sp; ⟨a0, ea⟩
  subst ea0
  have hd1 : H1 d = some (DNO P w d []) := e1 _ _ upd_same
  refine ⟨hd1, a0, first S, rfl, sp, _, _, rfl, ?_⟩
  have e2 : Same H (upd H1 d (DNO P w d [(first S, a0, .int 0)])) := Same.put (ed.trans e1) hd
  have ts2 : TS K H1 (upd H1 d (DNO P w d [(first S, a0, .int 0)])) := TS.put (noTup_ext hd1)
  have hko : KeysOk K (upd H1 d (DNO P w d [(first S, a0, .int 0)])) [(first S, a0, .int 0)] := ⟨fun x hx => by rw [List.mem_singleton.mp hx]; exact sp.mono ts2, by simp⟩
  have hd2 : (upd H1 d (DNO P w d [(first S, a0, .int 0)])) d = some (DNO P w d [(first S, a0, .int 0)]) := upd_same
  refine ⟨_, rfl, d, _, rfl, ⟨.inl hd2, hko⟩, by simp, fun l hl => ?_⟩
  have hl0 : H l = none := Same.free e2 hl
  have nld : l ≠ d := fun z => by subst z; cases hl.symm.trans hd2
  have e3 : Same (upd H1 d (DNO P w d [(first S, a0, .int 0)])) (upd (upd H1 d (DNO P w d [(first S, a0, .int 0)])) l (.lst (keysV [(first S, a0, .int 0)]))) := Same.new hl
  have i0 : RInv P w K (upd (upd H1 d (DNO P w d [(first S, a0, .int 0)])) l (.lst (keysV [(first S, a0, .int 0)]))) d l S [(first S, a0, .int 0)] := ⟨e3 _ _ hd2, upd_same, hko.mono (TS.of e3), by simp, fun x hx => by rw [List.mem_singleton.mp hx]; exact isSpot_first ok, fun x hx => by rw [List.mem_singleton.mp hx]; exact ⟨0, rfl⟩⟩
  refine ⟨fun m σ H' => ∃ (i : Nat) (xs : List NIt) (z5 z6 : Option V), m = 121 - i ∧ σ = [some (.ref b), some (.int 120), some (.ref d), some (.int (i : Nat)), some (.ref l), z5, z6] ∧ Same H H' ∧ RInv P w K H' d l S xs ∧ xs.length ≤ 120, ⟨_, 0, _, _, _, rfl, rfl, e2.trans e3, i0, by simp⟩, ?_⟩
  rintro m σ H4 ⟨i, xs, z5, z6, rfl, rfl, e4, hi, hxl⟩
  refine ⟨_, rfl, _, rfl, _, _, rfl, .inl (.inl (.inl hi.l)), _, _, rfl, rfl, _, rfl, ?_⟩
  rw [keysV_len]
  by_cases hlt : i < xs.length
  · rw [decide_eq_true (show (i : Int) < (xs.length : Int) by omega)]
    refine iteT ⟨fun σ' H' => ∃ (xs : List NIt) (z5 z6 : Option V), σ' = [some (.ref b), some (.int 120), some (.ref d), some (.int ((i : Nat) + 1)), some (.ref l), z5, z6] ∧ Same H H' ∧ RInv P w K H' d l S xs ∧ xs.length ≤ 120, ?_, ?_⟩
    · rintro σ' H' ⟨xs', z5, z6, rfl, e', hi', hl'⟩
      exact ⟨121 - (i + 1), by omega, i + 1, xs', z5, z6, rfl, by simp, e', hi', hl'⟩
    refine ⟨_, rfl, _, _, 0, _, rfl, rfl, SqT.same e4 hb0, rfl, _, rfl, for_it (walk_str (z := tx S.L)) (fun j σ H' => Same H H' ∧ ∃ (xs : List NIt) (z5 z6 : Option V), σ = [some (.ref b), some (.int 120), some (.ref d), some (.int (i : Nat)), some (.ref l), z5, z6] ∧ RInv P w K H' d l S xs ∧ i < xs.length ∧ xs.length ≤ 120 + j) ⟨e4, xs, _, _, rfl, hi, hlt, by omega⟩ (fun _ _ _ _ _ => trivial) ?_ ?_⟩
    · rintro j x σ H5 H6 hj ⟨e5, xs, z5, z6, rfl, hi, hlt, hxl⟩ ⟨rfl, c, hc, rfl⟩
      have hc2 : S.L[j]? = some c := by simpa [tx] using hc
      have hcm := List.mem_of_getElem? hc2
      have hjL : j < S.L.length := (List.getElem?_eq_some_iff.mp hc2).1
      have ex : xs[i]? = some xs[i] := List.getElem?_eq_getElem hlt
      have hxm : xs[i] ∈ xs := List.getElem_mem hlt
      generalize xs[i] = x at ex hxm
      have hkx : atI (keysV xs) (i : Int) = some (.ref x.2.1) := atI_get (by unfold keysV; rw [List.getElem?_map, ex]; rfl)
      refine ⟨_, rfl, _, rfl, _, rfl, _, _, _, _, rfl, rfl, .inl (.inl hi.l), hkx, _, rfl, S, x.1, c, hP0.same e5, ok, hi.ks.1 x hxm, hi.sp x hxm, rfl, hcm, fun v H7 e7 sp7 => ?_⟩
      obtain ⟨a4, ea4⟩ : ∃ a4, v = .ref a4 := let ⟨a4, _, _, ea, _⟩ := sp7; ⟨a4, ea⟩
      subst ea4
      have hi7 := hi.same e7
      refine ⟨_, rfl, _, rfl, a4, d, next S x.1 c, xs, rfl, rfl, sp7, ⟨.inl hi7.d, hi7.ks⟩, _, rfl, ?_⟩
      rw [if_pos rfl]
      by_cases hin : next S x.1 c ∈ xs.map (·.1)
      · rw [decide_eq_true hin]
        exact iteF ⟨e5.trans e7, xs, _, _, rfl, hi7, hlt, by omega⟩
      · rw [decide_eq_false hin]
        obtain ⟨k, hk⟩ := hi.vl x hxm
        refine iteT ⟨_, rfl, _, rfl, _, rfl, _, _, _, _, rfl, rfl, .inl (.inl hi7.l), hkx, x.2.1, d, x.2.1, x.1, xs, .int k, rfl, rfl, hi7.ks.1 x hxm, ⟨.inl hi7.d, hi7.ks⟩, by rw [← hk]; exact hxm, _, _, rfl, rfl, ?_⟩
        refine ⟨_, rfl, _, rfl, a4, d, next S x.1 c, xs, rfl, rfl, sp7, hi7.d, hi7.ks, by omega, hin, ?_⟩
        have t8 : TS K H7 (upd H7 d (DNO P w d (xs ++ [(next S x.1 c, a4, .int (k + 1))]))) := TS.put (noTup_ext hi7.d)
        have hl8 : (upd H7 d (DNO P w d (xs ++ [(next S x.1 c, a4, .int (k + 1))]))) l = some (.lst (keysV xs)) := by rw [upd_ne nld]; exact hi7.l
        have t9 : TS K (upd H7 d (DNO P w d (xs ++ [(next S x.1 c, a4, .int (k + 1))]))) (upd (upd H7 d (DNO P w d (xs ++ [(next S x.1 c, a4, .int (k + 1))]))) l (.lst (keysV xs ++ [.ref a4]))) := TS.put (noTup_lst hl8)
        refine ⟨_, rfl, .inl ⟨rfl, _, .inl (.inl hl8)⟩, _, rfl, _, _, _, rfl, rfl, hl8, sz_smallT (by rw [keysV_len]; omega), ?_⟩
        refine ⟨Same.put (Same.put (e5.trans e7) hd) hl0, xs ++ [(next S x.1 c, a4, .int (k + 1))], _, _, rfl, ⟨by rw [upd_ne nld.symm, upd_same]; rfl, by rw [upd_same]; unfold keysV; rw [List.map_append]; rfl, ?_, by simp, ?_, ?_⟩, by rw [List.length_append]; omega, by rw [List.length_append]; simp; omega⟩
        · refine ⟨fun y hy => ?_, ?_⟩
          · rcases List.mem_append.mp hy with h | h
            · exact (hi7.ks.1 y h).mono (t8.trans t9)
            · rw [List.mem_singleton.mp h]; exact sp7.mono (t8.trans t9)
          · rw [List.map_append]
            exact List.nodup_append.mpr ⟨hi7.ks.2, by simp, fun p hp q hq => by simp at hq; subst hq; exact fun z => hin (z ▸ hp)⟩
        · intro y hy
          rcases List.mem_append.mp hy with h | h
          · exact hi.sp y h
          · rw [List.mem_singleton.mp h]; exact isSpot_next ok (hi.sp x hxm) hcm
        · intro y hy
          rcases List.mem_append.mp hy with h | h
          · exact hi.vl y h
          · rw [List.mem_singleton.mp h]; exact ⟨_, rfl⟩
    · rintro σ H5 ⟨e5, xs, z5, z6, rfl, hi, hlt, hxl⟩
      refine ⟨_, rfl, _, _, rfl, .inl (.inl (.inl hi.l)), _, rfl, _, _, rfl, rfl, _, rfl, ?_⟩
      rw [keysV_len]
      by_cases hbig : 120 < xs.length
      · rw [decide_eq_true (show (120 : Int) < (xs.length : Int) by omega)]
        exact iteT (hq1 H5 e5)
      · rw [decide_eq_false (show ¬ (120 : Int) < (xs.length : Int) by omega)]
        exact iteF ⟨_, rfl, _, _, rfl, rfl, xs, _, _, rfl, e5, hi, by omega⟩
  · rw [decide_eq_false (show ¬ (i : Int) < (xs.length : Int) by omega)]
    exact iteF ⟨_, rfl, hq2 d H4 xs hd e4 hi.d hi.ks hi.ne hxl hi.sp⟩
end K5

set_option Elab.async false
set_option linter.all false
set_option maxRecDepth 100000
set_option maxHeartbeats 8000000
/-! the law. -/
namespace K5
open PySem PySem.Spec PyProof.Rows L2
variable {P : Program} {w : World} {K : PySem.W.Frag} {mg : Str → Option Value} {base : Heap} {a : Ad}

theorem tSeq_go {t u : L2.TS} {D : Ends} {σ : L2.St} {H : Hp} (Post : L2.St → Hp → Prop) (h1 : ∀ N : L2.St → Hp → Prop, (∀ σ' H', Post σ' H' → N σ' H') → t { D with nx := N } σ H) (h2 : ∀ σ' H', Post σ' H' → u D σ' H') : tSeq t u D σ H := h1 (u D) h2
theorem gN {i : Nat} {v : V} {σ : L2.St} {H : Hp} {Q : L2.St → Hp → Prop} (h : Q (σ.set i (some v)) H) : gName i v σ H Q := h
theorem tIf_go {c : TT} {t u' u : L2.TS} {D : Ends} {σ : L2.St} {H : Hp} (Post : L2.St → Hp → Prop) (h1 : ∀ N : L2.St → Hp → Prop, (∀ σ' H', Post σ' H' → N σ' H') → tIfS c t u' { D with nx := N } σ H) (h2 : ∀ σ' H', Post σ' H' → u D σ' H') : tSeq (tIfS c t u') u D σ H := h1 (u D) h2
theorem tDrop_go {te : TE} {u : L2.TS} {D : Ends} {σ : L2.St} {H : Hp} (Post : L2.St → Hp → Prop) (h1 : ∀ N : L2.St → Hp → Prop, (∀ σ' H', Post σ' H' → N σ' H') → tDrop te { D with nx := N } σ H) (h2 : ∀ σ' H', Post σ' H' → u D σ' H') : tSeq (tDrop te) u D σ H := h1 (u D) h2
theorem tLc_go {wi : TI} {g : TG} {tt : TT} {te : TE} {vs : List Nat} {g2 : TG} {u : L2.TS} {D : Ends} {σ : L2.St} {H : Hp} (Post : L2.St → Hp → Prop) (h1 : ∀ N : L2.St → Hp → Prop, (∀ σ' H', Post σ' H' → N σ' H') → tAsg (tLc wi g tt te vs) g2 { D with nx := N } σ H) (h2 : ∀ σ' H', Post σ' H' → u D σ' H') : tSeq (tAsg (tLc wi g tt te vs) g2) u D σ H := h1 (u D) h2
theorem cutL (v : Tx) : cutS (tx v) (some (-1)) none = tx (v.drop (v.length - 1)) := by
  unfold cutS
  rw [tx_cps, tx_len, HT.sIx_none]
  have e : HT.sIx v.length 0 (some (-1)) = v.length - 1 := by
    show (if (-1 : Int) < 0 then ((-1 : Int) + (v.length : Int)).toNat else min (-1 : Int).toNat v.length) = _
    rw [if_pos (by decide)]
    omega
  rw [e, List.take_of_length_le (by rw [List.length_drop]; omega)]
  rfl
theorem no_mark : ∀ L ∈ menu, 63 ∉ L := by decide
theorem spots_keys {H : Hp} : ∀ {xs : List NIt}, (∀ x ∈ xs, SpotAt K H (.ref x.2.1) x.1) → Spots K H (keysV xs) (xs.map (·.1))
  | [], _ => .nil
  | x :: xs, h => .cons (h x (by simp)) (spots_keys fun y hy => h y (List.mem_cons_of_mem _ hy))
/-- a pair of truths, or of nothing -/
def KOpt (K : PySem.W.Frag) (H : Hp) (v : V) : Option Kind → Prop
  | some k => KindAt K H v k
  | none => ∃ b, v = .ref b ∧ SqT K H b [.non, .non]
def kdO : Option Kind → PyData
  | some k => kdD k
  | none => .tuple [.none, .none]
theorem KOpt.mono {H H' : Hp} {v : V} (t : TS K H H') : ∀ {o : Option Kind}, KOpt K H v o → KOpt K H' v o
  | some _, h => KindAt.mono t h
  | none, ⟨b, e, q⟩ => ⟨b, e, t _ _ q⟩
theorem KOpt.dp {H : Hp} {v : V} : ∀ {o : Option Kind}, KOpt K H v o → Dp K H v (kdO o)
  | some _, h => KindAt.dp h
  | none, ⟨b, e, q⟩ => by subst e; exact .tup q (.cons .non (.cons .non .nil))
theorem eqv_kdO (o : Option Kind) (k : Kind) : PyData.eqv (kdO o) (kdD k) = decide (o = some k) := by
  cases o with
  | some j =>
    show PyData.eqv (kdD j) (kdD k) = _
    rw [eqv_kd]
    by_cases h : j = k
    · subst h; simp
    · simp [h]
  | none =>
    obtain ⟨k1, k2⟩ := k
    show PyData.eqv (.tuple [.none, .none]) (.tuple [.bool k1, .bool k2]) = _
    rw [PyData.eqv, PyData.eqvAll, PyData.eqvAll, PyData.eqvAll]
    cases k1 <;> cases k2 <;> simp [PyData.eqv]
theorem shaped_kdO (o : Option Kind) : SeqAt.shaped (kdO o) = true := by
  cases o with
  | some k => exact shaped_kd k
  | none => decide +kernel
theorem shaped_3 (a b c : Bool) : SeqAt.shaped (.list [.bool a, .bool b, .bool c]) = true := by cases a <;> cases b <;> cases c <;> decide +kernel
theorem eqv_3 (a b c : Bool) : PyData.eqv (.list [.bool a, .bool b, .bool c]) (.list [.bool a, .bool b, .bool c]) = true := by
  rw [PyData.eqv, PyData.eqvAll, PyData.eqvAll, PyData.eqvAll, PyData.eqvAll]
  cases a <;> cases b <;> cases c <;> simp [PyData.eqv]
theorem MachAt.put {C lg : Addr} {H : Hp} {v : V} {L : Tx} {R : Rows} {gs gs' : List V} (h : MachAt K C H v L R) (hg : H lg = some (.lst gs)) : MachAt K C (upd H lg (.lst gs')) v L R := by
  obtain ⟨o, dx, r, ev, hs, hr⟩ := h
  exact ⟨o, dx, r, ev, Slt.put hs hg, hr.mono (TS.put (noTup_lst hg))⟩
theorem Args.put {H : Hp} {lg : Addr} {i q m c : V} {S : Plan} {gs gs' : List V} (h : Args K a H i q m c S) (hg : H lg = some (.lst gs)) : Args K a (upd H lg (.lst gs')) i q m c S :=
  ⟨h.i.put hg, h.q.mono (TS.put (noTup_lst hg)), h.m.put hg, h.c.mono (TS.put (noTup_lst hg)), h.ok⟩
theorem nf_self {C : Addr} : PySem.W.notFirst K C (.ref C) = true := by
  unfold PySem.W.notFirst
  simp
def showsOf (K : PySem.W.Frag) (a : Ad) : List (Addr × Sq) := [(a.cE, sq5 (p_Exact_shows K a)), (a.cO, sq5 (p_More_shows K a)), (a.cS, sq5 (p_Misses_shows K a))]
/-- what the value makes of the spots, if it is one -/
def optK (S : Plan) (v : Tx) : Option Kind := if isValue S.L v = true then some (kind S (spotOf S v)) else none
theorem due_more (S : Plan) (ss : List Spot) (v : Tx) : moreShows S ss v = (decide (optK S v = some (true, false)) && closedK S ss same3) := by
  unfold optK
  cases h : isValue S.L v with
  | true => rw [more_due h, if_pos rfl]; simp
  | false => rw [more_bad h, if_neg Bool.false_ne_true]; simp
theorem due_misses (S : Plan) (v : Tx) : missesShows S v = decide (optK S v = some (false, true)) := by
  unfold optK
  cases h : isValue S.L v with
  | true => rw [misses_due h, if_pos rfl]; simp
  | false => rw [misses_bad h, if_neg Bool.false_ne_true]; simp
theorem val_yes {L v : Tx} (h : ∀ c ∈ v, c ∈ L) : isValue L v = true := List.all_eq_true.mpr fun c hc => decide_eq_true (h c hc)
theorem val_no {L v : Tx} (h : 63 ∉ L) : isValue L (v ++ [63]) = false := Bool.eq_false_iff.mpr fun q => by
  have := List.all_eq_true.mp q 63 (by simp)
  exact h (of_decide_eq_true this)

def p_law (K : PySem.W.Frag) (a : Ad) (x : V) (H : Hp) (Q : VK) : Prop := ScAt K H x ∧ ∀ H', Q (.bl true) H'
def spL (K : PySem.W.Frag) : Sp := ofSq (sq1 (p_law K ⟨0, 0, 0, 0, 0, 0⟩))
abbrev N_law : List Str := ["script", "letters", "plan", "index", "machine", "spots", "turn", "value", "given", "first", "kind", "spot", "letter", "rows", "same", "due", "told", "row"]
theorem sc_law : FnScope N_law ["script"] (defScope s_law) := ⟨rfl, rfl, rfl, by decide +kernel, rfl, by decide +kernel, by decide +kernel⟩
theorem ok_law {fa : Addr} {fd : FuncData} (T : Txt K mg a) (F : FnP K "law" "law" s_law fa fd) (c_l_letters : Cl P w K mg base 2 "_law_letters" (sq2 (p_l_letters K a))) (c_l_plan : Cl P w K mg base 4 "_law_plan" (sq2 (p_l_plan K a))) (c_Machine_init : Ck P w K mg base 4 "Machine" a.cM (sq3 (p_Machine_init K a))) (c_l_reach : Cl P w K mg base 4 "_law_reach" (sq2 (p_l_reach P w K a))) (c_l_value : Cl P w K mg base 2 "_law_value" (sq4 (p_l_value K a))) (c_l_number : Cl P w K mg base 1 "_law_number" (sq2 (p_l_number K a))) (c_l_bent : Cl P w K mg base 2 "_law_bent" (sq3 (p_l_bent K a))) (c_l_first_spot : Cl P w K mg base 3 "_law_first_spot" (sq1 (p_l_first_spot K a))) (c_l_next_spot : Cl P w K mg base 3 "_law_next_spot" (sq3 (p_l_next_spot K a))) (c_l_kind : Cl P w K mg base 2 "_law_kind" (sq2 (p_l_kind K a))) (c_Exact_init : Ck P w K mg base 1 "Exact" a.cE (sq2 (p_Exact_init K a))) (c_More_init : Ck P w K mg base 1 "More" a.cO (sq3 (p_More_init K a))) (c_Misses_init : Ck P w K mg base 1 "Misses" a.cS (sq2 (p_Misses_init K a))) (c_l_are_closed : Cl P w K mg base 4 "_law_are_closed" (sq3 (p_l_are_closed K a))) (c_Exact_eq : Ml P w K mg base 1 a.cE "__eq__" (sq2 (p_Exact_eq K a))) (c_More_eq : Ml P w K mg base 1 a.cO "__eq__" (sq2 (p_More_eq K a))) (c_Misses_eq : Ml P w K mg base 1 a.cS "__eq__" (sq2 (p_Misses_eq K a))) (c_shows : ∀ p ∈ showsOf K a, Ml P w K mg base 7 p.1 "shows" p.2) : FnOk P w K mg base CX0 8 fa fd ["script"] (ofSq (sq1 (p_law K a))) := by
  refine fn_of_body F sc_law (fun vs H Q h => sq1_len h) fun vs H Q h cdv A outer s hr => ?_
  obtain ⟨v_script, rfl, h⟩ := sq1_inv h
  refine ⟨_, (pss_cons (ps_set (i := 1) sc_law.nd rfl (Or.inl rfl) (pe_cl c_l_letters hr (pa_cons (pv 0) (pa_cons pe_int pa_nil))))
      (pss_cons (ps_set (i := 2) sc_law.nd rfl (Or.inr rfl) (pe_cl c_l_plan hr (pa_cons (pv 0) (pa_cons (pv 1) pa_nil))))
      (pss_cons (ps_asg (pe_tup (pa_cons (pe_ck c_Machine_init hr (pa_cons (pv 1) (pa_cons (pe_ix ix_tup (pv 2) pe_int (fun _ _ => rfl)) pa_nil))) (pa_cons (pe_ck c_Machine_init hr (pa_cons (pv 1) (pa_cons (pe_ix ix_tup (pv 2) pe_int (fun _ _ => rfl)) pa_nil))) pa_nil))) (pg_tup (by rfl) (pgs_cons (pg_name (i := 3) sc_law.nd rfl (Or.inr rfl)) (pgs_cons (pg_name (i := 4) sc_law.nd rfl (Or.inr rfl)) pgs_nil))))
      (pss_cons (ps_set (i := 5) sc_law.nd rfl (Or.inl rfl) (pe_cl c_l_reach hr (pa_cons (pv 2) (pa_cons pe_int pa_nil))))
      (pss_cons (ps_if (pt_cmpR op_isN (pv 5) pe_non rfl) (pss_one (ps_ret pe_bl)) pss_nil)
      (pss_cons (ps_for PassesOwn.never rfl (pi_range1 (by rfl) T.fRange (pa_cons pe_int pa_nil)) (pg_name (i := 6) sc_law.nd rfl (Or.inl rfl)) (pss_cons (ps_set (i := 7) sc_law.nd rfl (Or.inl rfl) (pe_cl c_l_value hr (pa_cons (pv 0) (pa_cons (pe_op op_add pe_int (pv 6)) (pa_cons (pv 1) (pa_cons pe_int pa_nil))))))
      (pss_cons (ps_if (pt_cmpR op_eq (pe_op op_mod (pe_callTy call_int1 (by rfl) T.fInt (by decide +kernel) (pa_cons (pe_cl c_l_number hr (pa_cons (pv 0) (pa_cons (pe_op op_add pe_int (pv 6)) pa_nil))) pa_nil)) pe_int) pe_int rfl) (pss_one (ps_set (i := 7) sc_law.nd rfl (Or.inl rfl) (pe_op op_add_str (pv 7) pe_str))) pss_nil)
      (pss_cons (ps_set (i := 8) sc_law.nd rfl (Or.inl rfl) (pe_cl c_l_bent hr (pa_cons (pe_callTy call_int1 (by rfl) T.fInt (by decide +kernel) (pa_cons (pe_cl c_l_number hr (pa_cons (pv 0) (pa_cons (pe_op op_add pe_int (pv 6)) pa_nil))) pa_nil)) (pa_cons (pv 2) (pa_cons (pe_callTy (call_listN rfl) (by rfl) T.fList (by decide +kernel) (pa_cons (pv 5) pa_nil)) pa_nil)))))
      (pss_cons (ps_par (i := 9) (j := 10) (by rfl) sc_law.nd rfl rfl (by decide) rfl rfl (pa_cons (pe_callTy call_list_of (by rfl) T.fList (by decide +kernel) (pa_cons (pv 8) pa_nil)) (pa_cons (pe_tup (pa_cons pe_non (pa_cons pe_non pa_nil))) pa_nil)) (by rfl))
      (pss_cons (ps_if (pt_cmpR op_ne (pe_slice sl_str (pv 7) (po_some (pe_un un_neg pe_int)) po_none) pe_str rfl) (pss_cons (ps_set (i := 11) sc_law.nd rfl (Or.inl rfl) (pe_cl c_l_first_spot hr (pa_cons (pv 2) pa_nil)))
      (pss_cons (ps_for PassesOwn.never rfl (pi_str (pv 7)) (pg_name (i := 12) sc_law.nd rfl (Or.inl rfl)) (pss_one (ps_set (i := 11) sc_law.nd rfl (Or.inl rfl) (pe_cl c_l_next_spot hr (pa_cons (pv 2) (pa_cons (pv 11) (pa_cons (pv 12) pa_nil)))))))
      (pss_one (ps_set (i := 10) sc_law.nd rfl (Or.inl rfl) (pe_cl c_l_kind hr (pa_cons (pv 2) (pa_cons (pv 11) pa_nil))))))) pss_nil)
      (pss_cons (ps_set (i := 13) sc_law.nd rfl (Or.inl rfl) (pe_lst (pa_cons (pe_ck c_Exact_init hr (pa_cons (pv 8) pa_nil)) (pa_cons (pe_ck c_More_init hr (pa_cons (pv 8) (pa_cons (pv 7) pa_nil))) (pa_cons (pe_ck c_Misses_init hr (pa_cons (pv 7) pa_nil)) pa_nil)))))
      (pss_cons (ps_expr (pe_bm PySem.F.plainAttrs_list PySem.F.slot_list_append PySem.F.type_list_append mt_append (pv 8) (pa_cons (pe_tup pa_nil) pa_nil)))
      (pss_cons (ps_set (i := 14) sc_law.nd rfl (Or.inl rfl) (pe_lst (pa_cons (pe_tup (pa_cons pe_bl (pa_cons pe_bl pa_nil))) (pa_cons (pe_tup (pa_cons pe_bl (pa_cons pe_bl pa_nil))) pa_nil))))
      (pss_cons (ps_set (i := 15) sc_law.nd rfl (Or.inl rfl) (pe_lst (pa_cons (pe_cl c_l_are_closed hr (pa_cons (pv 2) (pa_cons (pv 9) (pa_cons (pv 14) pa_nil)))) (pa_cons (pe_cmpR (op_eqD hr.units) (pv 10) (pe_tup (pa_cons pe_bl (pa_cons pe_bl pa_nil))) rfl) pa_nil))))
      (pss_cons (ps_expr (pe_bm PySem.F.plainAttrs_list PySem.F.slot_list_insert PySem.F.type_list_insert mt_insert (pv 15) (pa_cons pe_int (pa_cons (pe_and (pe_cmpR (op_eqD hr.units) (pv 10) (pe_tup (pa_cons pe_bl (pa_cons pe_bl pa_nil))) rfl) (pe_one (pe_cl c_l_are_closed hr (pa_cons (pv 2) (pa_cons (pv 9) (pa_cons (pe_op op_cat (pv 14) (pe_lst (pa_cons (pe_tup (pa_cons pe_bl (pa_cons pe_bl pa_nil))) pa_nil))) pa_nil)))))) pa_nil))))
      (pss_cons (ps_setLc (i := 16) (own := [("row", 17)]) (g := gName 17) (tt := tYes) rfl sc_law.nd rfl rfl (sw_true rfl rfl rfl (by decide +kernel)) (pi_list (pv 13)) (blkOk_by (own := [("row", 17)]) (N := N_law) (sc := defScope s_law) (by decide +kernel)) (fun _ _ _ _ _ => pg_name (i := 17) sc_law.nd rfl (Or.inl rfl)) (fun _ _ _ _ _ => pts_nil) (fun _ _ _ _ _ => (pe_mlA c_shows hr (pv 17) (pa_cons (pv 3) (pa_cons (pe_ix (show IxR _ (rIxT K) from ix_tup) (pv 2) pe_int (fun _ _ => rfl)) (pa_cons (pv 4) (pa_cons (pe_ix (show IxR _ (rIxT K) from ix_tup) (pv 2) pe_int (fun _ _ => rfl)) pa_nil)))))))
      (pss_cons (ps_if (PW.pt (pw_or (pt_cmpR (op_neD hr.units) (pv 16) (pv 15) rfl) (pw_or1 (pt_cmpR (op_neD hr.units) (pe_sf T.cl_Exact T.k_Exact_spots (pe_ix ix_list (pv 13) pe_int (fun _ _ => rfl))) (pv 9) rfl)))) (pss_one (ps_ret pe_bl)) pss_nil)
      (pss_cons (ps_if (PW.pt (pw_or (pt_cmpR (op_neO c_Exact_eq T.ne_Exact T.si_Exact.cm hr) (pe_ix ix_list (pv 13) pe_int (fun _ _ => rfl)) (pe_ck c_Exact_init hr (pa_cons (pv 9) pa_nil)) rfl) (pw_or (pt_cmpR (op_neO c_More_eq T.ne_More T.si_More.cm hr) (pe_ix ix_list (pv 13) pe_int (fun _ _ => rfl)) (pe_ck c_More_init hr (pa_cons (pv 9) (pa_cons (pv 7) pa_nil))) rfl) (pw_or1 (pt_cmpR (op_neO c_Misses_eq T.ne_Misses T.si_Misses.cm hr) (pe_ix ix_list (pv 13) pe_int (fun _ _ => rfl)) (pe_ck c_Misses_init hr (pa_cons (pv 7) pa_nil)) rfl))))) (pss_one (ps_ret pe_bl)) pss_nil)
      (pss_cons (ps_if (PW.pt (pw_or (pt_cmpR (op_eqO c_Exact_eq hr) (pe_ix ix_list (pv 13) pe_int (fun _ _ => rfl)) (pe_ck c_Exact_init hr (pa_cons (pv 8) pa_nil)) rfl) (pw_or1 (pt_cmpR (op_eqO c_More_eq hr) (pe_ix ix_list (pv 13) pe_int (fun _ _ => rfl)) (pe_ck c_More_init hr (pa_cons (pv 9) (pa_cons (pe_op op_add_str (pv 7) pe_str) pa_nil))) rfl)))) (pss_one (ps_ret pe_bl)) pss_nil)
      (pss_one (ps_if (PW.pt (pw_or (pt_cmpR (op_eqO c_Misses_eq hr) (pe_ix ix_list (pv 13) pe_int (fun _ _ => rfl)) (pe_ix ix_list (pv 13) pe_int (fun _ _ => rfl)) rfl) (pw_or1 (pt_cmpR (op_eqO c_Exact_eq hr) (pe_ix ix_list (pv 13) pe_int (fun _ _ => rfl)) (pe_ix ix_list (pv 13) pe_int (fun _ _ => rfl)) rfl)))) (pss_one (ps_ret pe_bl)) pss_nil)))))))))))))))))
      (pss_one (ps_ret pe_bl)))))))), ?_⟩
  obtain ⟨hs, hq⟩ := h
  refine ⟨_, rfl, 0, hs, rfl, by decide, by decide, fun L H1 e1 hL => ?_⟩
  refine ⟨_, rfl, _, rfl, L, hs.same e1, rfl, hL, fun vp H2 S e2 hP ok hSL => ?_⟩
  subst hSL
  have hP0 := hP
  have nomark := no_mark S.L ok.L
  obtain ⟨bp, w1, w2, w3, w4, rfl, hb0, hR1, hq1, hR2, hc⟩ := hP
  refine ⟨_, rfl, _, rfl, _, _, 1, _, rfl, rfl, hb0, rfl, fun x1 d1 hx1 hd1 hne1 => ?_⟩
  have m1 := made_same (C := a.cM) hx1 hd1
  refine ⟨x1, d1, S.L, S.R1, rfl, rfl, ok.L, hR1.same m1, ok.R1, (made_at hne1).1, (made_at hne1).2, hne1, fun H3 sb3 ma3 => ⟨rfl, ?_⟩⟩
  have e3 : Same H2 H3 := sb3.same hx1 hd1
  refine ⟨_, rfl, _, rfl, _, _, 3, _, rfl, rfl, SqT.same e3 hb0, rfl, fun x2 d2 hx2 hd2 hne2 => ?_⟩
  have m2 := made_same (C := a.cM) hx2 hd2
  refine ⟨x2, d2, S.L, S.R2, rfl, rfl, ok.L, (hR2.same e3).same m2, ok.R2, (made_at hne2).1, (made_at hne2).2, hne2, fun H4 sb4 ma4 => ⟨rfl, ?_⟩⟩
  have e4 : Same H3 H4 := sb4.same hx2 hd2
  refine ⟨sz_small (by simp), fun t5 ht5 => ?_⟩
  refine ⟨_, _, rfl, .inl (.inl upd_same), rfl, _, _, rfl, _, _, rfl, rfl, ?_⟩
  have e5 : Same H4 (upd H4 t5 (.tup [.ref x1, .ref x2])) := Same.new ht5
  generalize upd H4 t5 (.tup [.ref x1, .ref x2]) = H5 at e5
  have e25 : Same H2 H5 := (e3.trans e4).trans e5
  have eA : Same H H5 := (e1.trans e2).trans e25
  have A5 : Args K a H5 (.ref x1) w2 (.ref x2) w4 S := ⟨(ma3.same e4).same e5, hq1.same e25, ma4.same e5, hc.same e25, ok⟩
  refine ⟨_, rfl, S, hP0.same e25, ok, rfl, fun H6 e6 => ?_, fun d H6 xs hd0 e6 hd6 hko hne hxl hisp => ?_⟩
  · refine ⟨_, rfl, rfl, _, rfl, ?_⟩
    rw [decide_eq_true (rfl : V.non = V.non)]
    exact iteT (hq _)
  refine ⟨_, rfl, rfl, _, rfl, ?_⟩
  rw [decide_eq_false (by simp : ¬ V.ref d = V.non)]
  refine iteF ?_
  have hs6 := (hs.same eA).same e6
  have P6 : PlanAt K H6 (.ref bp) S := (hP0.same e25).same e6
  have b6 := SqT.same (e25.trans e6) hb0
  have A6 := A5.same e6
  clear hP0 hb0 hR1 hq1 hR2 hc m1 m2 ma3 ma4 sb3 sb4 A5 hs
  refine ⟨5, rfl, by decide, by decide, for_it walk_rng (fun i σ H' => Same H6 H' ∧ ∃ z6 z7 z8 z9 z10 z11 z12 z13 z14 z15 z16 z17, σ = [some v_script, some (.str (tx S.L)), some (.ref bp), some (.ref x1), some (.ref x2), some (.ref d), z6, z7, z8, z9, z10, z11, z12, z13, z14, z15, z16, z17]) ⟨Same.refl _, _, _, _, _, _, _, _, _, _, _, _, _, rfl⟩ (fun _ _ _ _ _ => trivial) ?_ (fun _ _ _ => hq _)⟩
  rintro i x σ H7 H7' hi ⟨e7, z6, z7, z8, z9, z10, z11, z12, z13, z14, z15, z16, z17, rfl⟩ ⟨rfl, rfl⟩
  have hi5 : i < 5 := hi
  refine ⟨_, rfl, _, rfl, _, _, rfl, rfl, _, rfl, _, 6, S.L, hs6.same e7, rfl, by omega, by omega, rfl, ok.L, rfl, by decide, by decide, fun v1 H8 e8 hv1 hl1 => ?_⟩
  refine gN ?_
  try dsimp only
  refine tIf_go (fun σ' H' => Same H8 H' ∧ ∃ v, (v = v1 ∨ v = v1 ++ [63]) ∧ σ' = [some v_script, some (.str (tx S.L)), some (.ref bp), some (.ref x1), some (.ref x2), some (.ref d), some (.int (i : Nat)), some (.str (tx v)), z8, z9, z10, z11, z12, z13, z14, z15, z16, z17]) ?_ ?_
  · intro N hN
    refine ⟨_, rfl, _, rfl, _, _, rfl, rfl, _, (hs6.same e7).same e8, rfl, by omega, by omega, fun n9 H9 e9 h0 h1 => .inl ⟨_, rfl, _, _, rfl, rfl, by show (0 : Int) < 9; decide, rfl, _, rfl, ?_⟩⟩
    cases hz : decide (V.int (n9 % 9) = V.int 0) with
    | true =>
      refine iteT ⟨_, rfl, _, _, rfl, rfl, ?_, hN _ _ ⟨e9, v1 ++ [63], .inr rfl, ?_⟩⟩
      · rw [q_mark, tx_len, tx_len]; exact sz_small (by simp; omega)
      · rw [q_mark, tx_app]; rfl
    | false => exact iteF (hN _ _ ⟨e9, v1, .inl rfl, rfl⟩)
  rintro σ H9 ⟨e9, v, hv, rfl⟩
  have hvl : v.length ≤ 7 := by
    rcases hv with rfl | rfl
    · omega
    · rw [List.length_append]; simp; omega
  have e79 := (e7.trans e8).trans e9
  -- given
  refine ⟨_, rfl, _, rfl, _, _, rfl, rfl, _, hs6.same e79, rfl, by omega, by omega, fun n10 H10 e10 h0 h1 => .inl ⟨_, rfl, _, rfl, _, rfl, d, xs, rfl, DN.same (e79.trans e10) ⟨.inl hd6, hko⟩, by omega, fun l1 hl1' => ?_⟩⟩
  have e710 := e79.trans e10
  have el1 : Same H10 (upd H10 l1 (.lst (keysV xs))) := Same.new hl1'
  have e7l := e710.trans el1
  refine ⟨S, n10, l1, keysV xs, xs.map (·.1), rfl, P6.same e7l, ok, rfl, upd_same, Spots.mono (TS.of e7l) (spots_keys hko.1), ?_, ?_, by rw [List.length_map]; omega, fun lg H11 gs ss hlg0 e11 hlg hgs hsl hfit => ?_⟩
  · intro s hs
    obtain ⟨y, hy, rfl⟩ := List.mem_map.mp hs
    exact hisp y hy
  · intro h
    exact hne (List.map_eq_nil_iff.mp h)
  have lg6 : H6 lg = none := Same.free e7l hlg0
  have e711 := e7l.trans e11
  have hgl := paired_len hgs
  clear el1 hl1' hlg0 e7l e710 h0 h1
  -- first, kind
  refine ⟨_, rfl, lg, gs, rfl, .inl (.inl (.inl hlg)), fun lf hlf => ⟨sz_small (by simp), fun tk htk => ⟨_, _, rfl, ?_⟩⟩⟩
  have e12 : Same H11 (upd H11 lf (.lst gs)) := Same.new hlf
  have e13 : Same (upd H11 lf (.lst gs)) (upd (upd H11 lf (.lst gs)) tk (.tup [.non, .non])) := Same.new htk
  have hlf13 : (upd (upd H11 lf (.lst gs)) tk (.tup [.non, .non])) lf = some (.lst gs) := e13 _ _ upd_same
  have htk13 : SqT K (upd (upd H11 lf (.lst gs)) tk (.tup [.non, .non])) tk [.non, .non] := .inl (.inl upd_same)
  have nfg : lf ≠ lg := fun z => by subst z; rw [hlg] at hlf; cases hlf
  have e1113 := e12.trans e13
  generalize upd (upd H11 lf (.lst gs)) tk (.tup [.non, .non]) = H13 at e1113 hlf13 htk13
  clear e12 e13 hlf htk
  have e713 := e711.trans e1113
  have hlg13 := e1113 _ _ hlg
  try dsimp only
  refine tIf_go (fun σ' H' => Same H13 H' ∧ ∃ kv z11 z12, σ' = [some v_script, some (.str (tx S.L)), some (.ref bp), some (.ref x1), some (.ref x2), some (.ref d), some (.int (i : Nat)), some (.str (tx v)), some (.ref lg), some (.ref lf), some kv, z11, z12, z13, z14, z15, z16, z17] ∧ KOpt K H' kv (optK S v)) ?_ ?_
  · intro N hN
    refine ⟨_, rfl, _, rfl, _, rfl, _, rfl, szS (by omega), rfl, _, rfl, ?_⟩
    rw [q_mark, cutL, dec_tx]
    rcases hv with rfl | rfl
    · have hval := val_yes hv1
      have hne2 : ¬ v.drop (v.length - 1) = [63] := fun z => by
        have : 63 ∈ v := List.mem_of_mem_drop (i := v.length - 1) (by rw [z]; simp)
        exact nomark (hv1 63 this)
      rw [decide_eq_false hne2]
      refine iteT ⟨_, rfl, S, P6.same e713, ok, fun vs1 H14 e14 sp1 => ?_⟩
      refine ⟨_, rfl, _, rfl, for_it (walk_str (z := tx v)) (fun j σ H' => Same H13 H' ∧ ∃ z zl, σ = [some v_script, some (.str (tx S.L)), some (.ref bp), some (.ref x1), some (.ref x2), some (.ref d), some (.int (i : Nat)), some (.str (tx v)), some (.ref lg), some (.ref lf), some (.ref tk), some z, zl, z13, z14, z15, z16, z17] ∧ SpotAt K H' z ((v.take j).foldl (next S) (first S))) ⟨e14, _, _, rfl, by simpa using sp1⟩ (fun _ _ _ _ _ => trivial) ?_ ?_⟩
      · rintro j y σ H15 H15' hj ⟨e15, z, zl, rfl, sp⟩ ⟨rfl, c2, hc2, rfl⟩
        have hc3 : v[j]? = some c2 := by simpa [tx] using hc2
        have hsp : isSpot S ((v.take j).foldl (next S) (first S)) = true := isSpot_fold ok _ _ (isSpot_first ok) fun c hc => hv1 c (List.mem_of_mem_take hc)
        refine ⟨_, rfl, _, rfl, _, rfl, S, _, c2, P6.same (e713.trans e15), ok, sp, hsp, rfl, hv1 c2 (List.mem_of_getElem? hc3), fun z2 H16 e16 sp2 => ⟨e15.trans e16, z2, _, rfl, ?_⟩⟩
        rw [spotOf_take hc3]
        exact sp2
      · rintro σ H15 ⟨e15, z, zl, rfl, sp⟩
        have hz : v.take (tx v).cps.size = v := by simp [tx]
        rw [hz] at sp
        have hsp : isSpot S (spotOf S v) = true := isSpot_fold ok v _ (isSpot_first ok) hv1
        refine ⟨_, rfl, _, rfl, S, spotOf S v, P6.same (e713.trans e15), ok, sp, fits_isSpot ok hsp, fun kv H16 e16 kd => hN _ _ ⟨e15.trans e16, kv, _, _, rfl, ?_⟩⟩
        unfold optK
        rw [if_pos hval]
        exact kd
    · have hval := val_no (v := v1) nomark
      have heq : (v1 ++ [63]).drop ((v1 ++ [63]).length - 1) = [63] := by simp
      rw [decide_eq_true heq]
      refine iteF (hN _ _ ⟨Same.refl _, _, _, _, rfl, ?_⟩)
      unfold optK
      rw [hval, if_neg Bool.false_ne_true]
      exact ⟨tk, rfl, htk13⟩
  rintro σ H17 ⟨e17, kv, z11, z12, rfl, hkv⟩
  have hlg17 := e17 _ _ hlg13
  have hlf17 := e17 _ _ hlf13
  have e717 := e713.trans e17
  have hgs17 := Spots.mono (TS.of (e1113.trans e17)) hgs
  have hgl2 : gs.length ≤ 300 := by omega
  -- rows
  refine ⟨_, rfl, fun x3 d3 hx3 hd3 hne3 => ?_⟩
  have m3 := made_same (C := a.cE) hx3 hd3
  refine ⟨x3, d3, lg, gs, rfl, (made_at hne3).1, (made_at hne3).2, hne3, rfl, .inl (.inl (m3 _ _ hlg17)), fun H18 sb3 ex0 => ⟨rfl, ?_⟩⟩
  have e18 := sb3.same hx3 hd3
  have hlg18 := e18 _ _ hlg17
  refine ⟨_, rfl, _, rfl, fun x4 d4 hx4 hd4 hne4 => ?_⟩
  have m4 := made_same (C := a.cO) hx4 hd4
  refine ⟨x4, d4, lg, gs, rfl, (made_at hne4).1, (made_at hne4).2, hne4, rfl, .inl (.inl (m4 _ _ hlg18)), fun H19 sb4 mo0 => ⟨rfl, ?_⟩⟩
  have e19 := sb4.same hx4 hd4
  have hlg19 := e19 _ _ hlg18
  refine ⟨_, rfl, fun x5 d5 hx5 hd5 hne5 => ?_⟩
  refine ⟨x5, d5, rfl, (made_at hne5).1, (made_at hne5).2, hne5, fun H20 sb5 mi0 => ⟨rfl, ?_⟩⟩
  have e20 := sb5.same hx5 hd5
  refine ⟨sz_small (by simp), fun lr hlr => ?_⟩
  have e21 : Same H20 (upd H20 lr (.lst [.ref x3, .ref x4, .ref x5])) := Same.new hlr
  have hlr21 : (upd H20 lr (.lst [.ref x3, .ref x4, .ref x5])) lr = some (.lst [.ref x3, .ref x4, .ref x5]) := upd_same
  have nlr : lr ≠ lg := fun z => by subst z; rw [e20 _ _ hlg19] at hlr; cases hlr
  generalize upd H20 lr (.lst [.ref x3, .ref x4, .ref x5]) = H21 at e21 hlr21
  -- given.append(())
  refine ⟨_, rfl, .inl ⟨rfl, gs, .inl (.inl (e21 _ _ (e20 _ _ hlg19)))⟩, sz_small (by simp), fun te hte => ?_⟩
  have e22 : Same H21 (upd H21 te (.tup [])) := Same.new hte
  have hte22 : SqT K (upd H21 te (.tup [])) te [] := .inl (.inl upd_same)
  generalize upd H21 te (.tup []) = H22 at e22 hte22
  have e1722 := (((e18.trans e19).trans e20).trans e21).trans e22
  have hlg22 := e1722 _ _ hlg17
  refine ⟨lg, gs, .ref te, rfl, rfl, hlg22, sz_smallT (by omega), ?_⟩
  have tsG : TS K H22 (upd H22 lg (.lst (gs ++ [.ref te]))) := TS.put (noTup_lst hlg22)
  have G6 : Same H6 (upd H22 lg (.lst (gs ++ [.ref te]))) := Same.put (e717.trans e1722) lg6
  have Gex : ExRaw K a (upd H22 lg (.lst (gs ++ [.ref te]))) (.ref x3) gs := (ex0.same ((((e19).trans e20).trans e21).trans e22)).put (m3 _ _ hlg17) hlg22
  have Gmo : MoRaw K a (upd H22 lg (.lst (gs ++ [.ref te]))) (.ref x4) gs (.str (tx v)) := (mo0.same ((e20.trans e21).trans e22)).put (m4 _ _ hlg18) hlg22
  have Gmi : MiRaw K a (upd H22 lg (.lst (gs ++ [.ref te]))) (.ref x5) (.str (tx v)) := (mi0.same (e21.trans e22)).put hlg22
  have GA : Args K a (upd H22 lg (.lst (gs ++ [.ref te]))) (.ref x1) w2 (.ref x2) w4 S := (A6.same (e717.trans e1722)).put hlg22
  have GP : PlanAt K (upd H22 lg (.lst (gs ++ [.ref te]))) (.ref bp) S := P6.same G6
  have Gb := SqT.same G6 b6
  have Gs : Spots K (upd H22 lg (.lst (gs ++ [.ref te]))) gs ss := Spots.mono ((TS.of e1722).trans tsG) hgs17
  have Gk : KOpt K (upd H22 lg (.lst (gs ++ [.ref te]))) kv (optK S v) := hkv.mono ((TS.of e1722).trans tsG)
  have Glf : (upd H22 lg (.lst (gs ++ [.ref te]))) lf = some (.lst gs) := by rw [upd_ne nfg]; exact e1722 _ _ hlf17
  have Glr : (upd H22 lg (.lst (gs ++ [.ref te]))) lr = some (.lst [.ref x3, .ref x4, .ref x5]) := by rw [upd_ne nlr]; exact e22 _ _ hlr21
  have Glg : (upd H22 lg (.lst (gs ++ [.ref te]))) lg = some (.lst (gs ++ [.ref te])) := upd_same
  have Gte : SqT K (upd H22 lg (.lst (gs ++ [.ref te]))) te [] := tsG _ _ hte22
  generalize upd H22 lg (.lst (gs ++ [.ref te])) = G at G6 Gex Gmo Gmi GA GP Gb Gs Gk Glf Glr Glg Gte
  clear tsG e1722 e22 hte22 e21 hlr21 e20 e19 e18 ex0 mo0 mi0 m3 m4 hlg17 hlg18 hlg19 hlg22 hlf17 hlg13 hlf13 e17 e717 e713 e1113 e711 sb3 sb4 sb5 hgs17 hgs hlg hkv htk13
  -- same
  refine ⟨sz_small (by simp), fun k1 hk1 => ⟨sz_small (by simp), fun k2 hk2 => ⟨sz_small (by simp), fun ls hls => ?_⟩⟩⟩
  have ek1 : Same G (upd G k1 (.tup [.bl true, .bl true])) := Same.new hk1
  have gk1 : SqT K (upd G k1 (.tup [.bl true, .bl true])) k1 [.bl true, .bl true] := .inl (.inl upd_same)
  generalize upd G k1 (.tup [.bl true, .bl true]) = G1 at ek1 gk1 hk2 hls
  have ek2 : Same G1 (upd G1 k2 (.tup [.bl false, .bl false])) := Same.new hk2
  have gk2 : SqT K (upd G1 k2 (.tup [.bl false, .bl false])) k2 [.bl false, .bl false] := .inl (.inl upd_same)
  generalize upd G1 k2 (.tup [.bl false, .bl false]) = G2 at ek2 gk2 hls
  have els : Same G2 (upd G2 ls (.lst [.ref k1, .ref k2])) := Same.new hls
  have gls : (upd G2 ls (.lst [.ref k1, .ref k2])) ls = some (.lst [.ref k1, .ref k2]) := upd_same
  generalize upd G2 ls (.lst [.ref k1, .ref k2]) = G3 at els gls
  have eG3 : Same G G3 := (ek1.trans ek2).trans els
  have kinds2 : Paired (KindAt K G3) [.ref k1, .ref k2] same2 := .cons ⟨k1, rfl, SqT.same (ek2.trans els) gk1⟩ (.cons ⟨k2, rfl, SqT.same els gk2⟩ .nil)
  clear ek1 ek2 els gk1 gk2
  -- due
  refine ⟨_, rfl, _, rfl, _, rfl, S, lf, gs, ss, ls, _, same2, GP.same eG3, ok, rfl, .inl (.inl (eG3 _ _ Glf)), Spots.mono (TS.of eG3) Gs, hsl, hfit, rfl, .inl (.inl gls), kinds2, fun G4 e4' => ?_⟩
  have eG4 := eG3.trans e4'
  refine ⟨_, rfl, sz_small (by simp), fun k3 hk3 => ?_⟩
  have ek3 : Same G4 (upd G4 k3 (.tup [.bl false, .bl true])) := Same.new hk3
  have gk3 : SqT K (upd G4 k3 (.tup [.bl false, .bl true])) k3 [.bl false, .bl true] := .inl (.inl upd_same)
  generalize upd G4 k3 (.tup [.bl false, .bl true]) = G5 at ek3 gk3
  have eG5 := eG4.trans ek3
  refine ⟨kdO (optK S v), kdD (false, true), KOpt.dp (Gk.mono (TS.of eG5)), KindAt.dp (k := (false, true)) ⟨k3, rfl, gk3⟩, shaped_kdO _, shaped_kd _, sz_small (by simp), fun ld hld => ?_⟩
  rw [eqv_kdO]
  have eld : Same G5 (upd G5 ld (.lst [.bl (closedK S ss same2), .bl (decide (optK S v = some (false, true)))])) := Same.new hld
  have gld : (upd G5 ld (.lst [.bl (closedK S ss same2), .bl (decide (optK S v = some (false, true)))])) ld = some (.lst [.bl (closedK S ss same2), .bl (decide (optK S v = some (false, true)))]) := upd_same
  generalize upd G5 ld (.lst [.bl (closedK S ss same2), .bl (decide (optK S v = some (false, true)))]) = G7 at eld gld
  have eG7 := eG5.trans eld
  have ldG : G ld = none := Same.free eG5 hld
  have hls7 : G7 ls = some (.lst [.ref k1, .ref k2]) := eld _ _ (ek3 _ _ (e4' _ _ gls))
  have kinds7 : Paired (KindAt K G7) [.ref k1, .ref k2] same2 := Paired.mapP kinds2 fun _ _ z => z.mono (TS.of ((e4'.trans ek3).trans eld))
  clear ek3 gk3 eld e4' hk3 hld kinds2 gls
  refine gN ?_
  try dsimp only
  refine tDrop_go (fun σ' H' => Same G H' ∧ H' ld = some (.lst [.bl (closedK S ss same2), .bl (moreShows S ss v), .bl (decide (optK S v = some (false, true)))]) ∧ σ' = [some v_script, some (.str (tx S.L)), some (.ref bp), some (.ref x1), some (.ref x2), some (.ref d), some (.int (i : Nat)), some (.str (tx v)), some (.ref lg), some (.ref lf), some kv, z11, z12, some (.ref lr), some (.ref ls), some (.ref ld), z16, z17]) ?_ ?_
  · intro N hN
    refine ⟨_, rfl, .inl ⟨rfl, _, .inl (.inl gld)⟩, _, rfl, sz_small (by simp), fun k4 hk4 => ?_⟩
    have ek4 : Same G7 (upd G7 k4 (.tup [.bl true, .bl false])) := Same.new hk4
    have gk4 : SqT K (upd G7 k4 (.tup [.bl true, .bl false])) k4 [.bl true, .bl false] := .inl (.inl upd_same)
    generalize upd G7 k4 (.tup [.bl true, .bl false]) = G8 at ek4 gk4
    have eG8 := eG7.trans ek4
    refine ⟨kdO (optK S v), kdD (true, false), KOpt.dp (Gk.mono (TS.of eG8)), KindAt.dp (k := (true, false)) ⟨k4, rfl, gk4⟩, shaped_kdO _, shaped_kd _, _, rfl, ?_⟩
    rw [eqv_kdO]
    have hdm := due_more S ss v
    have fin : ∀ (b : Bool) (H' : Hp), b = moreShows S ss v → Same G8 H' → N [some v_script, some (.str (tx S.L)), some (.ref bp), some (.ref x1), some (.ref x2), some (.ref d), some (.int (i : Nat)), some (.str (tx v)), some (.ref lg), some (.ref lf), some kv, z11, z12, some (.ref lr), some (.ref ls), some (.ref ld), z16, z17] (upd H' ld (.lst [.bl (closedK S ss same2), .bl b, .bl (decide (optK S v = some (false, true)))])) := by
      rintro b H' rfl e'
      exact hN _ _ ⟨Same.put (eG8.trans e') ldG, upd_same, rfl⟩
    cases hk : decide (optK S v = some (true, false)) with
    | false =>
      rw [hk, Bool.false_and] at hdm
      refine iteF ⟨ld, _, 1, .bl false, rfl, rfl, ek4 _ _ gld, sz_smallT (by simp), by decide, by decide, ?_⟩
      exact fin false G8 hdm.symm (Same.refl _)
    | true =>
      rw [hk, Bool.true_and] at hdm
      refine iteT ⟨_, rfl, _, rfl, _, rfl, sz_small (by simp), fun k5 hk5 => ⟨sz_small (by simp), fun l5 hl5 => ?_⟩⟩
      have ek5 : Same G8 (upd G8 k5 (.tup [.bl true, .bl false])) := Same.new hk5
      have gk5 : SqT K (upd G8 k5 (.tup [.bl true, .bl false])) k5 [.bl true, .bl false] := .inl (.inl upd_same)
      generalize upd G8 k5 (.tup [.bl true, .bl false]) = G9 at ek5 gk5 hl5
      have el5 : Same G9 (upd G9 l5 (.lst [.ref k5])) := Same.new hl5
      have gl5 : (upd G9 l5 (.lst [.ref k5])) l5 = some (.lst [.ref k5]) := upd_same
      generalize upd G9 l5 (.lst [.ref k5]) = G10 at el5 gl5
      have e710 := (ek4.trans ek5).trans el5
      refine ⟨ls, l5, [.ref k1, .ref k2], [.ref k5], rfl, rfl, e710 _ _ hls7, gl5, sz_small (by simp), fun l6 hl6 => ?_⟩
      have el6 : Same G10 (upd G10 l6 (.lst ([.ref k1, .ref k2] ++ [.ref k5]))) := Same.new hl6
      have gl6 : (upd G10 l6 (.lst ([.ref k1, .ref k2] ++ [.ref k5]))) l6 = some (.lst ([.ref k1, .ref k2] ++ [.ref k5])) := upd_same
      generalize upd G10 l6 (.lst ([.ref k1, .ref k2] ++ [.ref k5])) = G11 at el6 gl6
      have e711 := e710.trans el6
      have eG11 := eG7.trans e711
      refine ⟨S, lf, gs, ss, l6, _, same2 ++ [(true, false)], GP.same eG11, ok, rfl, .inl (.inl (eG11 _ _ Glf)), Spots.mono (TS.of eG11) Gs, hsl, hfit, rfl, .inl (.inl gl6), paired_app (Paired.mapP kinds7 fun _ _ z => z.mono (TS.of e711)) (.cons ⟨k5, rfl, SqT.same (el5.trans el6) gk5⟩ .nil), fun G12 e12' => ?_⟩
      refine ⟨ld, _, 1, .bl (closedK S ss same3), rfl, rfl, e12' _ _ (e711 _ _ gld), sz_smallT (by simp), by decide, by decide, ?_⟩
      exact fin (closedK S ss same3) G12 hdm.symm (((ek5.trans el5).trans el6).trans e12')
  clear gld eG7 hls7 kinds7 eG5 eG4 eG3
  rintro σ T0 ⟨eT, hld, rfl⟩
  rw [← due_misses] at hld
  -- told
  try dsimp only
  refine tLc_go (fun σ' H' => Same G H' ∧ H' ld = some (.lst [.bl (closedK S ss same2), .bl (moreShows S ss v), .bl (missesShows S v)]) ∧ ∃ lt, H' lt = some (.lst [.bl (closedK S ss same2), .bl (moreShows S ss v), .bl (missesShows S v)]) ∧ σ' = [some v_script, some (.str (tx S.L)), some (.ref bp), some (.ref x1), some (.ref x2), some (.ref d), some (.int (i : Nat)), some (.str (tx v)), some (.ref lg), some (.ref lf), some kv, z11, z12, some (.ref lr), some (.ref ls), some (.ref ld), some (.ref lt), z17]) ?_ ?_
  · intro N hN
    refine ⟨_, rfl, lr, rfl, ⟨[.ref x3, .ref x4, .ref x5], .inl (.inl (eT _ _ Glr))⟩, fun lt hlt => lc_go (K := K) (walk_list (xs := [.ref x3, .ref x4, .ref x5])) hlt (fun i acc _ => acc = ([V.bl (closedK S ss same2), .bl (moreShows S ss v), .bl (missesShows S v)] : List V).take i) (by simp) (fun _ _ _ _ _ h => h) (fun H h => .inl (.inl (h _ _ (eT _ _ Glr)))) rfl ?_ ?_⟩
    · rintro j acc x Hc H' Yes No hj e hr ⟨rfl, hx⟩ hyes hno
      refine ⟨rfl, ?_⟩
      simp only [tYes, ↓reduceIte]
      have eH := eT.trans e
      have hj3 : j = 0 ∨ j = 1 ∨ j = 2 := by have : j < 3 := hj; omega
      rcases hj3 with rfl | rfl | rfl
      · cases Option.some.inj hx
        have q := Gex.same eH
        obtain ⟨o, dx, l, ev, hsl2, hl2⟩ := q
        cases ev
        refine ⟨_, rfl, _, a.cE, _, _, _, List.mem_cons_self, rfl, hsl2, _, rfl, _, rfl, _, _, 2, _, rfl, rfl, SqT.same eH Gb, rfl, _, rfl, _, rfl, _, _, 4, _, rfl, rfl, SqT.same eH Gb, rfl, S, gs, ss, Gex.same eH, Spots.mono (TS.of eH) Gs, hsl, hfit, GA.same eH, fun H5' e5' => hyes _ _ e5' ?_⟩
        rw [hr, exact_due]
        rfl
      · cases Option.some.inj hx
        have q := Gmo.same eH
        obtain ⟨o, dx, l, ev, hsl2, hl2⟩ := q
        cases ev
        refine ⟨_, rfl, _, a.cO, _, _, _, List.mem_cons_of_mem _ List.mem_cons_self, rfl, hsl2, _, rfl, _, rfl, _, _, 2, _, rfl, rfl, SqT.same eH Gb, rfl, _, rfl, _, rfl, _, _, 4, _, rfl, rfl, SqT.same eH Gb, rfl, S, gs, ss, v, Gmo.same eH, by omega, Spots.mono (TS.of eH) Gs, hsl, hfit, GA.same eH, fun H5' e5' => hyes _ _ e5' ?_⟩
        rw [hr]
        rfl
      · cases Option.some.inj hx
        have q := Gmi.same eH
        obtain ⟨o, dx, ev, hsl2⟩ := q
        cases ev
        refine ⟨_, rfl, _, a.cS, _, _, _, List.mem_cons_of_mem _ (List.mem_cons_of_mem _ List.mem_cons_self), rfl, hsl2, _, rfl, _, rfl, _, _, 2, _, rfl, rfl, SqT.same eH Gb, rfl, _, rfl, _, rfl, _, _, 4, _, rfl, rfl, SqT.same eH Gb, rfl, S, v, Gmi.same eH, by omega, GA.same eH, fun H5' e5' => hyes _ _ e5' ?_⟩
        rw [hr]
        rfl
    · intro acc H' e hlt' _ hacc
      subst hacc
      exact hN _ _ ⟨eT.trans e, e _ _ hld, lt, hlt', rfl⟩
  clear hld
  rintro σ T1 ⟨eT1, hld, lt, hlt, rfl⟩
  clear eT
  have dp3 : ∀ (H : Hp) (x y z : Bool), DpAll K H [.bl x, .bl y, .bl z] [.bool x, .bool y, .bool z] := fun H x y z => .cons (.bl _) (.cons (.bl _) (.cons (.bl _) .nil))
  have hrows : SqL K T1 lr [.ref x3, .ref x4, .ref x5] := .inl (.inl (eT1 _ _ Glr))
  have hex := Gex.same eT1
  have hex0 := hex
  obtain ⟨o3, dx3, l3, ev3, hs3, hl3⟩ := hex
  cases ev3
  have hSp1 := Spots.mono (TS.of eT1) Gs
  refine ⟨_, rfl, _, rfl, _, _, .lst (.inl (.inl hlt)) (dp3 _ _ _ _), .lst (.inl (.inl hld)) (dp3 _ _ _ _), shaped_3 _ _ _, shaped_3 _ _ _, _, rfl, ?_⟩
  rw [eqv_3]
  refine iteF ⟨_, rfl, _, _, 0, _, rfl, rfl, hrows, rfl, _, _, _, _, rfl, hs3, rfl, _, rfl, .list (dds ss false), .list (dds ss false), .lst hl3 (Spots.dp hSp1), .lst (.inl (.inl (eT1 _ _ Glf))) (Spots.dp hSp1), shaped_dds _ _, shaped_dds _ _, _, rfl, ?_⟩
  have eqss : PyData.eqvAll (dds ss false) (dds ss false) = true := by rw [eqv_dds]; simp
  rw [PyData.eqv, eqss]
  refine iteF ?_
  -- rows[0] != Exact(first)
  refine ⟨_, rfl, _, _, 0, _, rfl, rfl, hrows, rfl, _, rfl, fun x6 d6 hx6 hd6 hne6 => ?_⟩
  have m6 := made_same (C := a.cE) hx6 hd6
  refine ⟨x6, d6, lf, gs, rfl, (made_at hne6).1, (made_at hne6).2, hne6, rfl, .inl (.inl (m6 _ _ (eT1 _ _ Glf))), fun T2 sb6 ex6 => ⟨rfl, ?_⟩⟩
  have eT2 := eT1.trans (sb6.same hx6 hd6)
  have ex6r := ex6.raw
  obtain ⟨o6, dx6, l6, ev6, hs6', hl6⟩ := ex6.raw
  cases ev6
  obtain ⟨o3, dx3, l3, ev3, hs3, hl3⟩ := Gex.same eT2
  cases ev3
  have hSp2 := Spots.mono (TS.of eT2) Gs
  refine ⟨_, _, _, _, _, _, _, rfl, rfl, hs3, hs6', nf_self, gs, dds ss false, Gex.same eT2, Spots.dp hSp2, shaped_dds _ _, .inl ⟨gs, dds ss false, ex6r, Spots.dp hSp2, shaped_dds _ _, _, rfl, _, rfl, ?_⟩⟩
  rw [eqss]
  refine iteF ?_
  -- rows[1] != More(first, value)
  have hrows2 : SqL K T2 lr [.ref x3, .ref x4, .ref x5] := .inl (.inl (eT2 _ _ Glr))
  refine ⟨_, rfl, _, _, 1, _, rfl, rfl, hrows2, rfl, _, rfl, _, rfl, fun x7 d7 hx7 hd7 hne7 => ?_⟩
  have m7 := made_same (C := a.cO) hx7 hd7
  refine ⟨x7, d7, lf, gs, rfl, (made_at hne7).1, (made_at hne7).2, hne7, rfl, .inl (.inl (m7 _ _ (eT2 _ _ Glf))), fun T3 sb7 mo7 => ⟨rfl, ?_⟩⟩
  have eT3 := eT2.trans (sb7.same hx7 hd7)
  have mo7r := mo7.raw
  obtain ⟨o7, dx7, l7, ev7, hs7, hl7⟩ := mo7.raw
  cases ev7
  obtain ⟨o4, dx4, l4, ev4, hs4, hl4⟩ := Gmo.same eT3
  cases ev4
  have hSp3 := Spots.mono (TS.of eT3) Gs
  refine ⟨_, _, _, _, _, _, _, rfl, rfl, hs4, hs7, nf_self, gs, dds ss false, gs, dds ss false, tx v, tx v, Gmo.same eT3, Spots.dp hSp3, shaped_dds _ _, mo7r, Spots.dp hSp3, shaped_dds _ _, _, rfl, _, rfl, ?_⟩
  rw [eqss, decide_eq_true (rfl : V.str (tx v) = V.str (tx v))]
  refine iteF ?_
  -- rows[2] != Misses(value)
  have hrows3 : SqL K T3 lr [.ref x3, .ref x4, .ref x5] := .inl (.inl (eT3 _ _ Glr))
  refine ⟨_, rfl, _, _, 2, _, rfl, rfl, hrows3, rfl, _, rfl, fun x8 d8 hx8 hd8 hne8 => ?_⟩
  refine ⟨x8, d8, rfl, (made_at hne8).1, (made_at hne8).2, hne8, fun T4 sb8 mi8 => ⟨rfl, ?_⟩⟩
  have eT4 := eT3.trans (sb8.same hx8 hd8)
  have mi8r := mi8
  obtain ⟨o8, dx8, ev8, hs8⟩ := mi8
  cases ev8
  obtain ⟨o5, dx5, ev5, hs5⟩ := Gmi.same eT4
  cases ev5
  refine ⟨_, _, _, _, _, _, _, rfl, rfl, hs5, hs8, nf_self, tx v, Gmi.same eT4, .inl ⟨tx v, mi8r, _, rfl, _, rfl, ?_⟩⟩
  rw [decide_eq_true (rfl : V.str (tx v) = V.str (tx v))]
  refine iteF ?_
  -- rows[0] == Exact(given)
  have hrows4 : SqL K T4 lr [.ref x3, .ref x4, .ref x5] := .inl (.inl (eT4 _ _ Glr))
  refine ⟨_, rfl, _, _, 0, _, rfl, rfl, hrows4, rfl, _, rfl, fun x9 d9 hx9 hd9 hne9 => ?_⟩
  have m9 := made_same (C := a.cE) hx9 hd9
  refine ⟨x9, d9, lg, gs ++ [.ref te], rfl, (made_at hne9).1, (made_at hne9).2, hne9, rfl, .inl (.inl (m9 _ _ (eT4 _ _ Glg))), fun T5 sb9 ex9 => ⟨rfl, ?_⟩⟩
  have eT5 := eT4.trans (sb9.same hx9 hd9)
  have ex9r := ex9.raw
  obtain ⟨o9, dx9, l9, ev9, hs9, hl9⟩ := ex9.raw
  cases ev9
  obtain ⟨o3, dx3, l3, ev3, hs3, hl3⟩ := Gex.same eT5
  cases ev3
  have hSp5 := Spots.mono (TS.of eT5) Gs
  have dpg : DpAll K T5 (gs ++ [.ref te]) (dds ss true) := by
    have := dpAll_app (Spots.dp hSp5) (.cons (.tup (SqT.same eT5 Gte) .nil) .nil)
    unfold dds at this ⊢
    simpa using this
  refine ⟨_, _, _, _, _, _, _, rfl, rfl, hs3, hs9, nf_self, gs, dds ss false, Gex.same eT5, Spots.dp hSp5, shaped_dds _ _, .inl ⟨gs ++ [.ref te], dds ss true, ex9r, dpg, shaped_dds _ _, _, rfl, ?_⟩⟩
  rw [eqv_dds_more]
  refine iteF ?_
  -- rows[1] == More(first, value + '?')
  have hrows5 : SqL K T5 lr [.ref x3, .ref x4, .ref x5] := .inl (.inl (eT5 _ _ Glr))
  have hpl : (tx v) ++ (Str.ofString "?") = tx (v ++ [63]) := by rw [q_mark, tx_app]
  refine ⟨_, rfl, _, _, 1, _, rfl, rfl, hrows5, rfl, _, rfl, _, rfl, _, _, rfl, rfl, by rw [q_mark, tx_len, tx_len]; exact sz_small (by simp; omega), fun x10 d10 hx10 hd10 hne10 => ?_⟩
  have m10 := made_same (C := a.cO) hx10 hd10
  refine ⟨x10, d10, lf, gs, rfl, (made_at hne10).1, (made_at hne10).2, hne10, rfl, .inl (.inl (m10 _ _ (eT5 _ _ Glf))), fun T6 sb10 mo10 => ⟨rfl, ?_⟩⟩
  have eT6 := eT5.trans (sb10.same hx10 hd10)
  have mo10r := mo10.raw
  obtain ⟨o10, dx10, l10, ev10, hs10, hl10⟩ := mo10.raw
  cases ev10
  obtain ⟨o4, dx4, l4, ev4, hs4, hl4⟩ := Gmo.same eT6
  cases ev4
  have hSp6 := Spots.mono (TS.of eT6) Gs
  refine ⟨_, _, _, _, _, _, _, rfl, rfl, hs4, hs10, nf_self, gs, dds ss false, gs, dds ss false, tx v, (tx v) ++ (Str.ofString "?"), Gmo.same eT6, Spots.dp hSp6, shaped_dds _ _, mo10r, Spots.dp hSp6, shaped_dds _ _, _, rfl, ?_⟩
  rw [eqss, hpl, dec_tx, decide_eq_false (fun z => by have := congrArg List.length z; simp at this : ¬ v = v ++ [63])]
  refine iteF ?_
  -- rows[2] == rows[1] or rows[0] == rows[1]
  have hrows6 : SqL K T6 lr [.ref x3, .ref x4, .ref x5] := .inl (.inl (eT6 _ _ Glr))
  obtain ⟨o5, dx5, ev5, hs5⟩ := Gmi.same eT6
  cases ev5
  obtain ⟨o3, dx3, l3, ev3, hs3, hl3⟩ := Gex.same eT6
  cases ev3
  refine ⟨_, rfl, _, _, 2, _, rfl, rfl, hrows6, rfl, _, rfl, _, _, 1, _, rfl, rfl, hrows6, rfl, ?_⟩
  refine ⟨_, _, _, _, _, _, _, rfl, rfl, hs5, hs4, T.nf_SO, tx v, Gmi.same eT6, .inr ⟨gs, _, Gmo.same eT6, _, rfl, iteF ?_⟩⟩
  refine ⟨_, rfl, _, _, 0, _, rfl, rfl, hrows6, rfl, _, rfl, _, _, 1, _, rfl, rfl, hrows6, rfl, ?_⟩
  refine ⟨_, _, _, _, _, _, _, rfl, rfl, hs3, hs4, T.nf_EO, gs, dds ss false, Gex.same eT6, Spots.dp hSp6, shaped_dds _ _, .inr ⟨gs, _, Gmo.same eT6, _, rfl, iteF ?_⟩⟩
  exact ⟨G6.trans eT6, _, _, _, _, _, _, _, _, _, _, _, _, rfl⟩
end K5

set_option Elab.async false
set_option linter.all false
set_option maxRecDepth 100000
set_option maxHeartbeats 8000000
/-! what the top has written, and the head (written by gen.py --head). -/
namespace K5
open PySem PySem.Spec PyProof.Rows L2
theorem fund_mk {K : PySem.W.Frag} {x qual : Str} {st : Stmt} {f : Addr} {oc : Value} {od an : Option Addr} {osl : Array (Option Value)} {kV doc pm cdv ct : Value} (l : K.lookup f = some ⟨oc, od, .func (PySem.W.fnOf x qual (defArgs st) (defBody st) (defScope st) .none kV doc pm an cdv ct), osl⟩)
    (c : PySem.W.codeIn K cdv qual = true) (k : PySem.W.keepIn K (.ref f) = true) : FnP K x qual st f (PySem.W.fnOf x qual (defArgs st) (defBody st) (defScope st) .none kV doc pm an cdv ct) := ⟨⟨oc, od, .none, kV, doc, pm, an, cdv, ct, osl, rfl, l, c, .inl ⟨rfl, rfl⟩, .inl rfl⟩, k⟩
theorem kit_self {K : PySem.W.Frag} {C : Addr} : PySem.W.kitOne K (.ref C) (.ref C) = some true := if_pos (beq_self_eq_true _)
theorem gc_of {K : PySem.W.Frag} {h : Heap} {mg : Str → Option Value} {x : Str} {v : V} {u : Value} (X : K.In h) (G : h.Ns mainGlobals mg) (e : PySem.W.nsIn K mainGlobals x = some (some u)) (r : RelV v u) : Gc mg x v := ⟨u, PySem.W.mg_of X G e, r⟩
theorem gc_ref {mg : Str → Option Value} {x : Str} {b : Addr} (h : Gc mg x (.ref b)) : mg x = some (.ref b) := by obtain ⟨u, e, r⟩ := h; cases (show u = Value.ref b from r); exact e
theorem kinds_of {K : PySem.W.Frag} {k : Addr} {q1 q2 q3 q4 : Tok} {od : Option Addr} {n : Nat} {sl : Array (Option Value)} (l : K.lookup k = some ⟨.type "tuple", od, .seq #[.str "equal" q1, .str "begins" q2, .str "between" q3, .str "like" q4] n, sl⟩) (H : Hp) : SqT K H k [.str "equal", .str "begins", .str "between", .str "like"] :=
  .inr ⟨_, _, n, l, rfl, rfl, sz_small (by simp), .cons ⟨q1, rfl⟩ (.cons ⟨q2, rfl⟩ (.cons ⟨q3, rfl⟩ (.cons ⟨q4, rfl⟩ .nil)))⟩
theorem txt_mk {K : PySem.W.Frag} {h : Heap} {mg : Str → Option Value} (X : K.In h) (G : h.Ns mainGlobals mg) {kt cM cP cE cO cS : Addr} {p_Machine_signs : Addr} {p_Machine_table : Addr} {p_Pairing_keeper : Addr} {p_Pairing_question : Addr} {p_Pairing_machine : Addr} {p_Pairing_condition : Addr} {p_Exact_spots : Addr} {p_More_spots : Addr} {p_More_value : Addr} {p_Misses_value : Addr} {tS t1 t2 t3 t4 t5 q1 q2 q3 q4 : Tok} {ocK : Option Addr} {nK : Nat} {slK : Array (Option Value)}
    (n_Machine : PySem.W.nsIn K mainGlobals "Machine" = some (some (.ref cM)))
    (pg_Machine : PySem.W.plainGet K cM Str.empty = true)
    (ic_Machine : PySem.W.isClsIn K cM = true)
    (po_Machine : PySem.W.plainOver K cM = true)
    (sa_Machine : PySem.W.findIn K (.ref cM) "__setattr__" = some (some (.builtin "object.__setattr__")))
    (ca_Machine : PySem.W.findIn K (.ref cM) "__class__" = some (some (.builtin "object.__class__")))
    (cm_Machine : PySem.W.mroIn K cM (.type "object") = some true)
    (n_Pairing : PySem.W.nsIn K mainGlobals "Pairing" = some (some (.ref cP)))
    (pg_Pairing : PySem.W.plainGet K cP Str.empty = true)
    (ic_Pairing : PySem.W.isClsIn K cP = true)
    (po_Pairing : PySem.W.plainOver K cP = true)
    (sa_Pairing : PySem.W.findIn K (.ref cP) "__setattr__" = some (some (.builtin "object.__setattr__")))
    (n_Exact : PySem.W.nsIn K mainGlobals "Exact" = some (some (.ref cE)))
    (pg_Exact : PySem.W.plainGet K cE Str.empty = true)
    (ic_Exact : PySem.W.isClsIn K cE = true)
    (po_Exact : PySem.W.plainOver K cE = true)
    (sa_Exact : PySem.W.findIn K (.ref cE) "__setattr__" = some (some (.builtin "object.__setattr__")))
    (ca_Exact : PySem.W.findIn K (.ref cE) "__class__" = some (some (.builtin "object.__class__")))
    (cm_Exact : PySem.W.mroIn K cE (.type "object") = some true)
    (ne_Exact : PySem.W.findIn K (.ref cE) "__ne__" = some (some (.builtin "object.__ne__")))
    (n_More : PySem.W.nsIn K mainGlobals "More" = some (some (.ref cO)))
    (pg_More : PySem.W.plainGet K cO Str.empty = true)
    (ic_More : PySem.W.isClsIn K cO = true)
    (po_More : PySem.W.plainOver K cO = true)
    (sa_More : PySem.W.findIn K (.ref cO) "__setattr__" = some (some (.builtin "object.__setattr__")))
    (ca_More : PySem.W.findIn K (.ref cO) "__class__" = some (some (.builtin "object.__class__")))
    (cm_More : PySem.W.mroIn K cO (.type "object") = some true)
    (ne_More : PySem.W.findIn K (.ref cO) "__ne__" = some (some (.builtin "object.__ne__")))
    (n_Misses : PySem.W.nsIn K mainGlobals "Misses" = some (some (.ref cS)))
    (pg_Misses : PySem.W.plainGet K cS Str.empty = true)
    (ic_Misses : PySem.W.isClsIn K cS = true)
    (po_Misses : PySem.W.plainOver K cS = true)
    (sa_Misses : PySem.W.findIn K (.ref cS) "__setattr__" = some (some (.builtin "object.__setattr__")))
    (ca_Misses : PySem.W.findIn K (.ref cS) "__class__" = some (some (.builtin "object.__class__")))
    (cm_Misses : PySem.W.mroIn K cS (.type "object") = some true)
    (ne_Misses : PySem.W.findIn K (.ref cS) "__ne__" = some (some (.builtin "object.__ne__")))
    (cn : PySem.W.specialIn K (.builtin "object.__class__") "__get__" = some (some (.builtin "getset_descriptor.__get__")))
    (ct : PySem.W.takesIn K (.builtin "object.__class__") = some true)
    (sx_Machine_signs : PySem.W.findIn K (.ref cM) "signs" = some (some (.ref p_Machine_signs)))
    (sg_Machine_signs : PySem.W.specialIn K (.ref p_Machine_signs) "__get__" = some (some (.builtin "member_descriptor.__get__")))
    (st_Machine_signs : PySem.W.takesIn K (.ref p_Machine_signs) = some true)
    (sy_Machine_signs : PySem.W.typeIn K (.ref p_Machine_signs) = some (.type "member_descriptor"))
    (si_Machine_signs : PySem.W.slotIn K p_Machine_signs cM = some 0)
    (sx_Machine_table : PySem.W.findIn K (.ref cM) "table" = some (some (.ref p_Machine_table)))
    (sg_Machine_table : PySem.W.specialIn K (.ref p_Machine_table) "__get__" = some (some (.builtin "member_descriptor.__get__")))
    (st_Machine_table : PySem.W.takesIn K (.ref p_Machine_table) = some true)
    (sy_Machine_table : PySem.W.typeIn K (.ref p_Machine_table) = some (.type "member_descriptor"))
    (si_Machine_table : PySem.W.slotIn K p_Machine_table cM = some 1)
    (sx_Pairing_keeper : PySem.W.findIn K (.ref cP) "keeper" = some (some (.ref p_Pairing_keeper)))
    (sg_Pairing_keeper : PySem.W.specialIn K (.ref p_Pairing_keeper) "__get__" = some (some (.builtin "member_descriptor.__get__")))
    (st_Pairing_keeper : PySem.W.takesIn K (.ref p_Pairing_keeper) = some true)
    (sy_Pairing_keeper : PySem.W.typeIn K (.ref p_Pairing_keeper) = some (.type "member_descriptor"))
    (si_Pairing_keeper : PySem.W.slotIn K p_Pairing_keeper cP = some 1)
    (sx_Pairing_question : PySem.W.findIn K (.ref cP) "question" = some (some (.ref p_Pairing_question)))
    (sg_Pairing_question : PySem.W.specialIn K (.ref p_Pairing_question) "__get__" = some (some (.builtin "member_descriptor.__get__")))
    (st_Pairing_question : PySem.W.takesIn K (.ref p_Pairing_question) = some true)
    (sy_Pairing_question : PySem.W.typeIn K (.ref p_Pairing_question) = some (.type "member_descriptor"))
    (si_Pairing_question : PySem.W.slotIn K p_Pairing_question cP = some 3)
    (sx_Pairing_machine : PySem.W.findIn K (.ref cP) "machine" = some (some (.ref p_Pairing_machine)))
    (sg_Pairing_machine : PySem.W.specialIn K (.ref p_Pairing_machine) "__get__" = some (some (.builtin "member_descriptor.__get__")))
    (st_Pairing_machine : PySem.W.takesIn K (.ref p_Pairing_machine) = some true)
    (sy_Pairing_machine : PySem.W.typeIn K (.ref p_Pairing_machine) = some (.type "member_descriptor"))
    (si_Pairing_machine : PySem.W.slotIn K p_Pairing_machine cP = some 2)
    (sx_Pairing_condition : PySem.W.findIn K (.ref cP) "condition" = some (some (.ref p_Pairing_condition)))
    (sg_Pairing_condition : PySem.W.specialIn K (.ref p_Pairing_condition) "__get__" = some (some (.builtin "member_descriptor.__get__")))
    (st_Pairing_condition : PySem.W.takesIn K (.ref p_Pairing_condition) = some true)
    (sy_Pairing_condition : PySem.W.typeIn K (.ref p_Pairing_condition) = some (.type "member_descriptor"))
    (si_Pairing_condition : PySem.W.slotIn K p_Pairing_condition cP = some 0)
    (sx_Exact_spots : PySem.W.findIn K (.ref cE) "spots" = some (some (.ref p_Exact_spots)))
    (sg_Exact_spots : PySem.W.specialIn K (.ref p_Exact_spots) "__get__" = some (some (.builtin "member_descriptor.__get__")))
    (st_Exact_spots : PySem.W.takesIn K (.ref p_Exact_spots) = some true)
    (sy_Exact_spots : PySem.W.typeIn K (.ref p_Exact_spots) = some (.type "member_descriptor"))
    (si_Exact_spots : PySem.W.slotIn K p_Exact_spots cE = some 0)
    (sx_More_spots : PySem.W.findIn K (.ref cO) "spots" = some (some (.ref p_More_spots)))
    (sg_More_spots : PySem.W.specialIn K (.ref p_More_spots) "__get__" = some (some (.builtin "member_descriptor.__get__")))
    (st_More_spots : PySem.W.takesIn K (.ref p_More_spots) = some true)
    (sy_More_spots : PySem.W.typeIn K (.ref p_More_spots) = some (.type "member_descriptor"))
    (si_More_spots : PySem.W.slotIn K p_More_spots cO = some 0)
    (sx_More_value : PySem.W.findIn K (.ref cO) "value" = some (some (.ref p_More_value)))
    (sg_More_value : PySem.W.specialIn K (.ref p_More_value) "__get__" = some (some (.builtin "member_descriptor.__get__")))
    (st_More_value : PySem.W.takesIn K (.ref p_More_value) = some true)
    (sy_More_value : PySem.W.typeIn K (.ref p_More_value) = some (.type "member_descriptor"))
    (si_More_value : PySem.W.slotIn K p_More_value cO = some 1)
    (sx_Misses_value : PySem.W.findIn K (.ref cS) "value" = some (some (.ref p_Misses_value)))
    (sg_Misses_value : PySem.W.specialIn K (.ref p_Misses_value) "__get__" = some (some (.builtin "member_descriptor.__get__")))
    (st_Misses_value : PySem.W.takesIn K (.ref p_Misses_value) = some true)
    (sy_Misses_value : PySem.W.typeIn K (.ref p_Misses_value) = some (.type "member_descriptor"))
    (si_Misses_value : PySem.W.slotIn K p_Misses_value cS = some 0)
    (z_len : PySem.W.nsIn K mainGlobals "len" = some none)
    (z_isinstance : PySem.W.nsIn K mainGlobals "isinstance" = some none)
    (z_all : PySem.W.nsIn K mainGlobals "all" = some none)
    (z_int : PySem.W.nsIn K mainGlobals "int" = some none)
    (z_str : PySem.W.nsIn K mainGlobals "str" = some none)
    (z_bool : PySem.W.nsIn K mainGlobals "bool" = some none)
    (z_tuple : PySem.W.nsIn K mainGlobals "tuple" = some none)
    (z_list : PySem.W.nsIn K mainGlobals "list" = some none)
    (z_dict : PySem.W.nsIn K mainGlobals "dict" = some none)
    (z_set : PySem.W.nsIn K mainGlobals "set" = some none)
    (z_sorted : PySem.W.nsIn K mainGlobals "sorted" = some none)
    (z_sum : PySem.W.nsIn K mainGlobals "sum" = some none)
    (z_range : PySem.W.nsIn K mainGlobals "range" = some none)
    (z_enumerate : PySem.W.nsIn K mainGlobals "enumerate" = some none)
    (g_SIGNS : PySem.W.nsIn K mainGlobals "SIGNS" = some (some (.str (tx signs) tS)))
    (g_MOST_LETTERS : PySem.W.nsIn K mainGlobals "MOST_LETTERS" = some (some (.int 4 t1)))
    (g_MOST_STATES : PySem.W.nsIn K mainGlobals "MOST_STATES" = some (some (.int 6 t2)))
    (g_MOST_SIGNS : PySem.W.nsIn K mainGlobals "MOST_SIGNS" = some (some (.int 4 t3)))
    (g_LESS : PySem.W.nsIn K mainGlobals "LESS" = some (some (.int (-1) t4)))
    (g_GREATER : PySem.W.nsIn K mainGlobals "GREATER" = some (some (.int (-2) t5)))
    (g_KINDS : PySem.W.nsIn K mainGlobals "KINDS" = some (some (.ref kt)))
    (l_KINDS : K.lookup kt = some ⟨.type "tuple", ocK, .seq #[.str "equal" q1, .str "begins" q2, .str "between" q3, .str "like" q4] nK, slK⟩)
    (nf_EO : PySem.W.notFirst K cE (.ref cO) = true)
    (nf_SO : PySem.W.notFirst K cS (.ref cO) = true)
    (ki_OE : PySem.W.kitOne K (.ref cO) (.ref cE) = some false)
    (ki_OS : PySem.W.kitOne K (.ref cO) (.ref cS) = some false)
    : Txt K mg ⟨kt, cM, cP, cE, cO, cS⟩ where
  fLen := PySem.W.mg_none_of X G z_len
  fIsi := PySem.W.mg_none_of X G z_isinstance
  fAll := PySem.W.mg_none_of X G z_all
  fInt := PySem.W.mg_none_of X G z_int
  fStr := PySem.W.mg_none_of X G z_str
  fBool := PySem.W.mg_none_of X G z_bool
  fTuple := PySem.W.mg_none_of X G z_tuple
  fList := PySem.W.mg_none_of X G z_list
  fDict := PySem.W.mg_none_of X G z_dict
  fSet := PySem.W.mg_none_of X G z_set
  fSorted := PySem.W.mg_none_of X G z_sorted
  fSum := PySem.W.mg_none_of X G z_sum
  fRange := PySem.W.mg_none_of X G z_range
  fEnum := PySem.W.mg_none_of X G z_enumerate
  g_SIGNS := gc_of X G g_SIGNS ⟨_, rfl⟩
  g_MOST_LETTERS := gc_of X G g_MOST_LETTERS ⟨_, rfl⟩
  g_MOST_STATES := gc_of X G g_MOST_STATES ⟨_, rfl⟩
  g_MOST_SIGNS := gc_of X G g_MOST_SIGNS ⟨_, rfl⟩
  g_LESS := gc_of X G g_LESS ⟨_, rfl⟩
  g_GREATER := gc_of X G g_GREATER ⟨_, rfl⟩
  g_KINDS := gc_of X G g_KINDS rfl
  kinds := kinds_of l_KINDS
  g_Machine := gc_of X G n_Machine rfl
  cl_Machine := ⟨pg_Machine, ic_Machine, po_Machine, sa_Machine⟩
  si_Machine := ⟨ca_Machine, cn, ct, cm_Machine⟩
  g_Pairing := gc_of X G n_Pairing rfl
  cl_Pairing := ⟨pg_Pairing, ic_Pairing, po_Pairing, sa_Pairing⟩
  g_Exact := gc_of X G n_Exact rfl
  cl_Exact := ⟨pg_Exact, ic_Exact, po_Exact, sa_Exact⟩
  si_Exact := ⟨ca_Exact, cn, ct, cm_Exact⟩
  ne_Exact := ne_Exact
  g_More := gc_of X G n_More rfl
  cl_More := ⟨pg_More, ic_More, po_More, sa_More⟩
  si_More := ⟨ca_More, cn, ct, cm_More⟩
  ne_More := ne_More
  g_Misses := gc_of X G n_Misses rfl
  cl_Misses := ⟨pg_Misses, ic_Misses, po_Misses, sa_Misses⟩
  si_Misses := ⟨ca_Misses, cn, ct, cm_Misses⟩
  ne_Misses := ne_Misses
  k_Machine_signs := ⟨_, sx_Machine_signs, sg_Machine_signs, st_Machine_signs, sy_Machine_signs, si_Machine_signs, by decide⟩
  k_Machine_table := ⟨_, sx_Machine_table, sg_Machine_table, st_Machine_table, sy_Machine_table, si_Machine_table, by decide⟩
  k_Pairing_keeper := ⟨_, sx_Pairing_keeper, sg_Pairing_keeper, st_Pairing_keeper, sy_Pairing_keeper, si_Pairing_keeper, by decide⟩
  k_Pairing_question := ⟨_, sx_Pairing_question, sg_Pairing_question, st_Pairing_question, sy_Pairing_question, si_Pairing_question, by decide⟩
  k_Pairing_machine := ⟨_, sx_Pairing_machine, sg_Pairing_machine, st_Pairing_machine, sy_Pairing_machine, si_Pairing_machine, by decide⟩
  k_Pairing_condition := ⟨_, sx_Pairing_condition, sg_Pairing_condition, st_Pairing_condition, sy_Pairing_condition, si_Pairing_condition, by decide⟩
  k_Exact_spots := ⟨_, sx_Exact_spots, sg_Exact_spots, st_Exact_spots, sy_Exact_spots, si_Exact_spots, by decide⟩
  k_More_spots := ⟨_, sx_More_spots, sg_More_spots, st_More_spots, sy_More_spots, si_More_spots, by decide⟩
  k_More_value := ⟨_, sx_More_value, sg_More_value, st_More_value, sy_More_value, si_More_value, by decide⟩
  k_Misses_value := ⟨_, sx_Misses_value, sg_Misses_value, st_Misses_value, sy_Misses_value, si_Misses_value, by decide⟩
  i_MM := kit_self
  i_EE := kit_self
  i_OO := kit_self
  i_SS := kit_self
  i_OE := ki_OE
  i_OS := ki_OS
  nf_EO := nf_EO
  nf_SO := nf_SO
theorem all_mk {l : PySem.W.OpenLaw} {w : World} {K : PySem.W.Frag} {h : Heap} {mg : Str → Option Value} {fa : Addr} (X : K.In h) (G : h.Ns mainGlobals mg) (hfa : mg "law" = some (.ref fa)) {kt cM cP cE cO cS : Addr} (T : Txt K mg ⟨kt, cM, cP, cE, cO, cS⟩)
    {f_is_number : Addr} {oc_is_number kV_is_number dc_is_number pm_is_number cd_is_number ct_is_number : Value} {od_is_number an_is_number : Option Addr} {sl_is_number : Array (Option Value)}
    {f_are_letters : Addr} {oc_are_letters kV_are_letters dc_are_letters pm_are_letters cd_are_letters ct_are_letters : Value} {od_are_letters an_are_letters : Option Addr} {sl_are_letters : Array (Option Value)}
    {f_is_value : Addr} {oc_is_value kV_is_value dc_is_value pm_is_value cd_is_value ct_is_value : Value} {od_is_value an_is_value : Option Addr} {sl_is_value : Array (Option Value)}
    {f_is_out : Addr} {oc_is_out kV_is_out dc_is_out pm_is_out cd_is_out ct_is_out : Value} {od_is_out an_is_out : Option Addr} {sl_is_out : Array (Option Value)}
    {f_Machine_letters : Addr} {oc_Machine_letters kV_Machine_letters dc_Machine_letters pm_Machine_letters cd_Machine_letters ct_Machine_letters : Value} {od_Machine_letters an_Machine_letters : Option Addr} {sl_Machine_letters : Array (Option Value)}
    {f_Machine_len : Addr} {oc_Machine_len kV_Machine_len dc_Machine_len pm_Machine_len cd_Machine_len ct_Machine_len : Value} {od_Machine_len an_Machine_len : Option Addr} {sl_Machine_len : Array (Option Value)}
    {f_Machine_turn : Addr} {oc_Machine_turn kV_Machine_turn dc_Machine_turn pm_Machine_turn cd_Machine_turn ct_Machine_turn : Value} {od_Machine_turn an_Machine_turn : Option Addr} {sl_Machine_turn : Array (Option Value)}
    {f_check_machine : Addr} {oc_check_machine kV_check_machine dc_check_machine pm_check_machine cd_check_machine ct_check_machine : Value} {od_check_machine an_check_machine : Option Addr} {sl_check_machine : Array (Option Value)}
    {f_is_pattern : Addr} {oc_is_pattern kV_is_pattern dc_is_pattern pm_is_pattern cd_is_pattern ct_is_pattern : Value} {od_is_pattern an_is_pattern : Option Addr} {sl_is_pattern : Array (Option Value)}
    {f_led_on : Addr} {oc_led_on kV_led_on dc_led_on pm_led_on cd_led_on ct_led_on : Value} {od_led_on an_led_on : Option Addr} {sl_led_on : Array (Option Value)}
    {f_beside : Addr} {oc_beside kV_beside dc_beside pm_beside cd_beside ct_beside : Value} {od_beside an_beside : Option Addr} {sl_beside : Array (Option Value)}
    {f_is_met : Addr} {oc_is_met kV_is_met dc_is_met pm_is_met cd_is_met ct_is_met : Value} {od_is_met an_is_met : Option Addr} {sl_is_met : Array (Option Value)}
    {f_Exact_init : Addr} {oc_Exact_init kV_Exact_init dc_Exact_init pm_Exact_init cd_Exact_init ct_Exact_init : Value} {od_Exact_init an_Exact_init : Option Addr} {sl_Exact_init : Array (Option Value)}
    {f_Exact_eq : Addr} {oc_Exact_eq kV_Exact_eq dc_Exact_eq pm_Exact_eq cd_Exact_eq ct_Exact_eq : Value} {od_Exact_eq an_Exact_eq : Option Addr} {sl_Exact_eq : Array (Option Value)}
    {f_More_init : Addr} {oc_More_init kV_More_init dc_More_init pm_More_init cd_More_init ct_More_init : Value} {od_More_init an_More_init : Option Addr} {sl_More_init : Array (Option Value)}
    {f_More_eq : Addr} {oc_More_eq kV_More_eq dc_More_eq pm_More_eq cd_More_eq ct_More_eq : Value} {od_More_eq an_More_eq : Option Addr} {sl_More_eq : Array (Option Value)}
    {f_Misses_init : Addr} {oc_Misses_init kV_Misses_init dc_Misses_init pm_Misses_init cd_Misses_init ct_Misses_init : Value} {od_Misses_init an_Misses_init : Option Addr} {sl_Misses_init : Array (Option Value)}
    {f_Misses_eq : Addr} {oc_Misses_eq kV_Misses_eq dc_Misses_eq pm_Misses_eq cd_Misses_eq ct_Misses_eq : Value} {od_Misses_eq an_Misses_eq : Option Addr} {sl_Misses_eq : Array (Option Value)}
    {f_l_number : Addr} {oc_l_number kV_l_number dc_l_number pm_l_number cd_l_number ct_l_number : Value} {od_l_number an_l_number : Option Addr} {sl_l_number : Array (Option Value)}
    {f_l_turn : Addr} {oc_l_turn kV_l_turn dc_l_turn pm_l_turn cd_l_turn ct_l_turn : Value} {od_l_turn an_l_turn : Option Addr} {sl_l_turn : Array (Option Value)}
    {f_l_led : Addr} {oc_l_led kV_l_led dc_l_led pm_l_led cd_l_led ct_l_led : Value} {od_l_led an_l_led : Option Addr} {sl_l_led : Array (Option Value)}
    {f_l_beside : Addr} {oc_l_beside kV_l_beside dc_l_beside pm_l_beside cd_l_beside ct_l_beside : Value} {od_l_beside an_l_beside : Option Addr} {sl_l_beside : Array (Option Value)}
    {f_l_met : Addr} {oc_l_met kV_l_met dc_l_met pm_l_met cd_l_met ct_l_met : Value} {od_l_met an_l_met : Option Addr} {sl_l_met : Array (Option Value)}
    {f_l_moved : Addr} {oc_l_moved kV_l_moved dc_l_moved pm_l_moved cd_l_moved ct_l_moved : Value} {od_l_moved an_l_moved : Option Addr} {sl_l_moved : Array (Option Value)}
    {f_check_letters : Addr} {oc_check_letters kV_check_letters dc_check_letters pm_check_letters cd_check_letters ct_check_letters : Value} {od_check_letters an_check_letters : Option Addr} {sl_check_letters : Array (Option Value)}
    {f_is_turn : Addr} {oc_is_turn kV_is_turn dc_is_turn pm_is_turn cd_is_turn ct_is_turn : Value} {od_is_turn an_is_turn : Option Addr} {sl_is_turn : Array (Option Value)}
    {f_is_short : Addr} {oc_is_short kV_is_short dc_is_short pm_is_short cd_is_short ct_is_short : Value} {od_is_short an_is_short : Option Addr} {sl_is_short : Array (Option Value)}
    {f_first_stand : Addr} {oc_first_stand kV_first_stand dc_first_stand pm_first_stand cd_first_stand ct_first_stand : Value} {od_first_stand an_first_stand : Option Addr} {sl_first_stand : Array (Option Value)}
    {f_stand_after : Addr} {oc_stand_after kV_stand_after dc_stand_after pm_stand_after cd_stand_after ct_stand_after : Value} {od_stand_after an_stand_after : Option Addr} {sl_stand_after : Array (Option Value)}
    {f_is_place_of : Addr} {oc_is_place_of kV_is_place_of dc_is_place_of pm_is_place_of cd_is_place_of ct_is_place_of : Value} {od_is_place_of an_is_place_of : Option Addr} {sl_is_place_of : Array (Option Value)}
    {f_Pairing_is_found : Addr} {oc_Pairing_is_found kV_Pairing_is_found dc_Pairing_is_found pm_Pairing_is_found cd_Pairing_is_found ct_Pairing_is_found : Value} {od_Pairing_is_found an_Pairing_is_found : Option Addr} {sl_Pairing_is_found : Array (Option Value)}
    {f_Pairing_is_wished : Addr} {oc_Pairing_is_wished kV_Pairing_is_wished dc_Pairing_is_wished pm_Pairing_is_wished cd_Pairing_is_wished ct_Pairing_is_wished : Value} {od_Pairing_is_wished an_Pairing_is_wished : Option Addr} {sl_Pairing_is_wished : Array (Option Value)}
    {f_l_letters : Addr} {oc_l_letters kV_l_letters dc_l_letters pm_l_letters cd_l_letters ct_l_letters : Value} {od_l_letters an_l_letters : Option Addr} {sl_l_letters : Array (Option Value)}
    {f_l_rows : Addr} {oc_l_rows kV_l_rows dc_l_rows pm_l_rows cd_l_rows ct_l_rows : Value} {od_l_rows an_l_rows : Option Addr} {sl_l_rows : Array (Option Value)}
    {f_l_value : Addr} {oc_l_value kV_l_value dc_l_value pm_l_value cd_l_value ct_l_value : Value} {od_l_value an_l_value : Option Addr} {sl_l_value : Array (Option Value)}
    {f_l_first_stand : Addr} {oc_l_first_stand kV_l_first_stand dc_l_first_stand pm_l_first_stand cd_l_first_stand ct_l_first_stand : Value} {od_l_first_stand an_l_first_stand : Option Addr} {sl_l_first_stand : Array (Option Value)}
    {f_l_next_stand : Addr} {oc_l_next_stand kV_l_next_stand dc_l_next_stand pm_l_next_stand cd_l_next_stand ct_l_next_stand : Value} {od_l_next_stand an_l_next_stand : Option Addr} {sl_l_next_stand : Array (Option Value)}
    {f_l_is_mark : Addr} {oc_l_is_mark kV_l_is_mark dc_l_is_mark pm_l_is_mark cd_l_is_mark ct_l_is_mark : Value} {od_l_is_mark an_l_is_mark : Option Addr} {sl_l_is_mark : Array (Option Value)}
    {f_l_kind : Addr} {oc_l_kind kV_l_kind dc_l_kind pm_l_kind cd_l_kind ct_l_kind : Value} {od_l_kind an_l_kind : Option Addr} {sl_l_kind : Array (Option Value)}
    {f_l_bent : Addr} {oc_l_bent kV_l_bent dc_l_bent pm_l_bent cd_l_bent ct_l_bent : Value} {od_l_bent an_l_bent : Option Addr} {sl_l_bent : Array (Option Value)}
    {f_first_wrong : Addr} {oc_first_wrong kV_first_wrong dc_first_wrong pm_first_wrong cd_first_wrong ct_first_wrong : Value} {od_first_wrong an_first_wrong : Option Addr} {sl_first_wrong : Array (Option Value)}
    {f_check_two : Addr} {oc_check_two kV_check_two dc_check_two pm_check_two cd_check_two ct_check_two : Value} {od_check_two an_check_two : Option Addr} {sl_check_two : Array (Option Value)}
    {f_is_condition_of : Addr} {oc_is_condition_of kV_is_condition_of dc_is_condition_of pm_is_condition_of cd_is_condition_of ct_is_condition_of : Value} {od_is_condition_of an_is_condition_of : Option Addr} {sl_is_condition_of : Array (Option Value)}
    {f_is_stand_of : Addr} {oc_is_stand_of kV_is_stand_of dc_is_stand_of pm_is_stand_of cd_is_stand_of ct_is_stand_of : Value} {od_is_stand_of an_is_stand_of : Option Addr} {sl_is_stand_of : Array (Option Value)}
    {f_Pairing_first : Addr} {oc_Pairing_first kV_Pairing_first dc_Pairing_first pm_Pairing_first cd_Pairing_first ct_Pairing_first : Value} {od_Pairing_first an_Pairing_first : Option Addr} {sl_Pairing_first : Array (Option Value)}
    {f_Pairing_after : Addr} {oc_Pairing_after kV_Pairing_after dc_Pairing_after pm_Pairing_after cd_Pairing_after ct_Pairing_after : Value} {od_Pairing_after an_Pairing_after : Option Addr} {sl_Pairing_after : Array (Option Value)}
    {f_l_condition : Addr} {oc_l_condition kV_l_condition dc_l_condition pm_l_condition cd_l_condition ct_l_condition : Value} {od_l_condition an_l_condition : Option Addr} {sl_l_condition : Array (Option Value)}
    {f_l_next_spot : Addr} {oc_l_next_spot kV_l_next_spot dc_l_next_spot pm_l_next_spot cd_l_next_spot ct_l_next_spot : Value} {od_l_next_spot an_l_next_spot : Option Addr} {sl_l_next_spot : Array (Option Value)}
    {f_l_first_spot : Addr} {oc_l_first_spot kV_l_first_spot dc_l_first_spot pm_l_first_spot cd_l_first_spot ct_l_first_spot : Value} {od_l_first_spot an_l_first_spot : Option Addr} {sl_l_first_spot : Array (Option Value)}
    {f_l_is_spot : Addr} {oc_l_is_spot kV_l_is_spot dc_l_is_spot pm_l_is_spot cd_l_is_spot ct_l_is_spot : Value} {od_l_is_spot an_l_is_spot : Option Addr} {sl_l_is_spot : Array (Option Value)}
    {f_Machine_init : Addr} {oc_Machine_init kV_Machine_init dc_Machine_init pm_Machine_init cd_Machine_init ct_Machine_init : Value} {od_Machine_init an_Machine_init : Option Addr} {sl_Machine_init : Array (Option Value)}
    {f_check_condition : Addr} {oc_check_condition kV_check_condition dc_check_condition pm_check_condition cd_check_condition ct_check_condition : Value} {od_check_condition an_check_condition : Option Addr} {sl_check_condition : Array (Option Value)}
    {f_Pairing_is_spot : Addr} {oc_Pairing_is_spot kV_Pairing_is_spot dc_Pairing_is_spot pm_Pairing_is_spot cd_Pairing_is_spot ct_Pairing_is_spot : Value} {od_Pairing_is_spot an_Pairing_is_spot : Option Addr} {sl_Pairing_is_spot : Array (Option Value)}
    {f_Pairing_spot_of : Addr} {oc_Pairing_spot_of kV_Pairing_spot_of dc_Pairing_spot_of pm_Pairing_spot_of cd_Pairing_spot_of ct_Pairing_spot_of : Value} {od_Pairing_spot_of an_Pairing_spot_of : Option Addr} {sl_Pairing_spot_of : Array (Option Value)}
    {f_l_reach : Addr} {oc_l_reach kV_l_reach dc_l_reach pm_l_reach cd_l_reach ct_l_reach : Value} {od_l_reach an_l_reach : Option Addr} {sl_l_reach : Array (Option Value)}
    {f_l_plan : Addr} {oc_l_plan kV_l_plan dc_l_plan pm_l_plan cd_l_plan ct_l_plan : Value} {od_l_plan an_l_plan : Option Addr} {sl_l_plan : Array (Option Value)}
    {f_l_are_closed : Addr} {oc_l_are_closed kV_l_are_closed dc_l_are_closed pm_l_are_closed cd_l_are_closed ct_l_are_closed : Value} {od_l_are_closed an_l_are_closed : Option Addr} {sl_l_are_closed : Array (Option Value)}
    {f_Pairing_init : Addr} {oc_Pairing_init kV_Pairing_init dc_Pairing_init pm_Pairing_init cd_Pairing_init ct_Pairing_init : Value} {od_Pairing_init an_Pairing_init : Option Addr} {sl_Pairing_init : Array (Option Value)}
    {f_Pairing_are_closed : Addr} {oc_Pairing_are_closed kV_Pairing_are_closed dc_Pairing_are_closed pm_Pairing_are_closed cd_Pairing_are_closed ct_Pairing_are_closed : Value} {od_Pairing_are_closed an_Pairing_are_closed : Option Addr} {sl_Pairing_are_closed : Array (Option Value)}
    {f_Exact_shows : Addr} {oc_Exact_shows kV_Exact_shows dc_Exact_shows pm_Exact_shows cd_Exact_shows ct_Exact_shows : Value} {od_Exact_shows an_Exact_shows : Option Addr} {sl_Exact_shows : Array (Option Value)}
    {f_More_shows : Addr} {oc_More_shows kV_More_shows dc_More_shows pm_More_shows cd_More_shows ct_More_shows : Value} {od_More_shows an_More_shows : Option Addr} {sl_More_shows : Array (Option Value)}
    {f_Misses_shows : Addr} {oc_Misses_shows kV_Misses_shows dc_Misses_shows pm_Misses_shows cd_Misses_shows ct_Misses_shows : Value} {od_Misses_shows an_Misses_shows : Option Addr} {sl_Misses_shows : Array (Option Value)}
    {f_law : Addr} {oc_law kV_law dc_law pm_law cd_law ct_law : Value} {od_law an_law : Option Addr} {sl_law : Array (Option Value)}
    {pr : Addr} {prest : List Value}
    (mk_Machine : PySem.W.makesIn K cM = true)
    (kc_Machine : PySem.W.keepIn K (.ref cM) = true)
    (mk_Pairing : PySem.W.makesIn K cP = true)
    (kc_Pairing : PySem.W.keepIn K (.ref cP) = true)
    (mk_Exact : PySem.W.makesIn K cE = true)
    (kc_Exact : PySem.W.keepIn K (.ref cE) = true)
    (mk_More : PySem.W.makesIn K cO = true)
    (kc_More : PySem.W.keepIn K (.ref cO) = true)
    (mk_Misses : PySem.W.makesIn K cS = true)
    (kc_Misses : PySem.W.keepIn K (.ref cS) = true)
    (a_is_number : PySem.W.nsIn K mainGlobals "is_number" = some (some (.ref f_is_number)))
    (l_is_number : K.lookup f_is_number = some ⟨oc_is_number, od_is_number, .func (PySem.W.fnOf "is_number" "is_number" (defArgs s_is_number) (defBody s_is_number) (defScope s_is_number) .none kV_is_number dc_is_number pm_is_number an_is_number cd_is_number ct_is_number), sl_is_number⟩)
    (c_is_number : PySem.W.codeIn K cd_is_number "is_number" = true)
    (k_is_number : PySem.W.keepIn K (.ref f_is_number) = true)
    (a_are_letters : PySem.W.nsIn K mainGlobals "are_letters" = some (some (.ref f_are_letters)))
    (l_are_letters : K.lookup f_are_letters = some ⟨oc_are_letters, od_are_letters, .func (PySem.W.fnOf "are_letters" "are_letters" (defArgs s_are_letters) (defBody s_are_letters) (defScope s_are_letters) .none kV_are_letters dc_are_letters pm_are_letters an_are_letters cd_are_letters ct_are_letters), sl_are_letters⟩)
    (c_are_letters : PySem.W.codeIn K cd_are_letters "are_letters" = true)
    (k_are_letters : PySem.W.keepIn K (.ref f_are_letters) = true)
    (a_is_value : PySem.W.nsIn K mainGlobals "is_value" = some (some (.ref f_is_value)))
    (l_is_value : K.lookup f_is_value = some ⟨oc_is_value, od_is_value, .func (PySem.W.fnOf "is_value" "is_value" (defArgs s_is_value) (defBody s_is_value) (defScope s_is_value) .none kV_is_value dc_is_value pm_is_value an_is_value cd_is_value ct_is_value), sl_is_value⟩)
    (c_is_value : PySem.W.codeIn K cd_is_value "is_value" = true)
    (k_is_value : PySem.W.keepIn K (.ref f_is_value) = true)
    (a_is_out : PySem.W.nsIn K mainGlobals "is_out" = some (some (.ref f_is_out)))
    (l_is_out : K.lookup f_is_out = some ⟨oc_is_out, od_is_out, .func (PySem.W.fnOf "is_out" "is_out" (defArgs s_is_out) (defBody s_is_out) (defScope s_is_out) .none kV_is_out dc_is_out pm_is_out an_is_out cd_is_out ct_is_out), sl_is_out⟩)
    (c_is_out : PySem.W.codeIn K cd_is_out "is_out" = true)
    (k_is_out : PySem.W.keepIn K (.ref f_is_out) = true)
    (a_Machine_letters : PySem.W.findIn K (.ref cM) "letters" = some (some (.ref pr)))
    (pg_Machine_letters : PySem.W.specialIn K (.ref pr) "__get__" = some (some (.builtin "property.__get__")))
    (pt_Machine_letters : PySem.W.takesIn K (.ref pr) = some true)
    (pc_Machine_letters : PySem.W.recIn K pr "property" = some (.ref f_Machine_letters :: prest))
    (l_Machine_letters : K.lookup f_Machine_letters = some ⟨oc_Machine_letters, od_Machine_letters, .func (PySem.W.fnOf "letters" "Machine.letters" (defArgs s_Machine_letters) (defBody s_Machine_letters) (defScope s_Machine_letters) .none kV_Machine_letters dc_Machine_letters pm_Machine_letters an_Machine_letters cd_Machine_letters ct_Machine_letters), sl_Machine_letters⟩)
    (c_Machine_letters : PySem.W.codeIn K cd_Machine_letters "Machine.letters" = true)
    (k_Machine_letters : PySem.W.keepIn K (.ref f_Machine_letters) = true)
    (a_Machine_len : PySem.W.findIn K (.ref cM) "__len__" = some (some (.ref f_Machine_len)))
    (i_Machine_len : PySem.W.isFn K (.ref f_Machine_len) = true)
    (l_Machine_len : K.lookup f_Machine_len = some ⟨oc_Machine_len, od_Machine_len, .func (PySem.W.fnOf "__len__" "Machine.__len__" (defArgs s_Machine_len) (defBody s_Machine_len) (defScope s_Machine_len) .none kV_Machine_len dc_Machine_len pm_Machine_len an_Machine_len cd_Machine_len ct_Machine_len), sl_Machine_len⟩)
    (c_Machine_len : PySem.W.codeIn K cd_Machine_len "Machine.__len__" = true)
    (k_Machine_len : PySem.W.keepIn K (.ref f_Machine_len) = true)
    (a_Machine_turn : PySem.W.findIn K (.ref cM) "turn" = some (some (.ref f_Machine_turn)))
    (i_Machine_turn : PySem.W.isFn K (.ref f_Machine_turn) = true)
    (l_Machine_turn : K.lookup f_Machine_turn = some ⟨oc_Machine_turn, od_Machine_turn, .func (PySem.W.fnOf "turn" "Machine.turn" (defArgs s_Machine_turn) (defBody s_Machine_turn) (defScope s_Machine_turn) .none kV_Machine_turn dc_Machine_turn pm_Machine_turn an_Machine_turn cd_Machine_turn ct_Machine_turn), sl_Machine_turn⟩)
    (c_Machine_turn : PySem.W.codeIn K cd_Machine_turn "Machine.turn" = true)
    (k_Machine_turn : PySem.W.keepIn K (.ref f_Machine_turn) = true)
    (a_check_machine : PySem.W.nsIn K mainGlobals "check_machine" = some (some (.ref f_check_machine)))
    (l_check_machine : K.lookup f_check_machine = some ⟨oc_check_machine, od_check_machine, .func (PySem.W.fnOf "check_machine" "check_machine" (defArgs s_check_machine) (defBody s_check_machine) (defScope s_check_machine) .none kV_check_machine dc_check_machine pm_check_machine an_check_machine cd_check_machine ct_check_machine), sl_check_machine⟩)
    (c_check_machine : PySem.W.codeIn K cd_check_machine "check_machine" = true)
    (k_check_machine : PySem.W.keepIn K (.ref f_check_machine) = true)
    (a_is_pattern : PySem.W.nsIn K mainGlobals "is_pattern" = some (some (.ref f_is_pattern)))
    (l_is_pattern : K.lookup f_is_pattern = some ⟨oc_is_pattern, od_is_pattern, .func (PySem.W.fnOf "is_pattern" "is_pattern" (defArgs s_is_pattern) (defBody s_is_pattern) (defScope s_is_pattern) .none kV_is_pattern dc_is_pattern pm_is_pattern an_is_pattern cd_is_pattern ct_is_pattern), sl_is_pattern⟩)
    (c_is_pattern : PySem.W.codeIn K cd_is_pattern "is_pattern" = true)
    (k_is_pattern : PySem.W.keepIn K (.ref f_is_pattern) = true)
    (a_led_on : PySem.W.nsIn K mainGlobals "led_on" = some (some (.ref f_led_on)))
    (l_led_on : K.lookup f_led_on = some ⟨oc_led_on, od_led_on, .func (PySem.W.fnOf "led_on" "led_on" (defArgs s_led_on) (defBody s_led_on) (defScope s_led_on) .none kV_led_on dc_led_on pm_led_on an_led_on cd_led_on ct_led_on), sl_led_on⟩)
    (c_led_on : PySem.W.codeIn K cd_led_on "led_on" = true)
    (k_led_on : PySem.W.keepIn K (.ref f_led_on) = true)
    (a_beside : PySem.W.nsIn K mainGlobals "beside" = some (some (.ref f_beside)))
    (l_beside : K.lookup f_beside = some ⟨oc_beside, od_beside, .func (PySem.W.fnOf "beside" "beside" (defArgs s_beside) (defBody s_beside) (defScope s_beside) .none kV_beside dc_beside pm_beside an_beside cd_beside ct_beside), sl_beside⟩)
    (c_beside : PySem.W.codeIn K cd_beside "beside" = true)
    (k_beside : PySem.W.keepIn K (.ref f_beside) = true)
    (a_is_met : PySem.W.nsIn K mainGlobals "is_met" = some (some (.ref f_is_met)))
    (l_is_met : K.lookup f_is_met = some ⟨oc_is_met, od_is_met, .func (PySem.W.fnOf "is_met" "is_met" (defArgs s_is_met) (defBody s_is_met) (defScope s_is_met) .none kV_is_met dc_is_met pm_is_met an_is_met cd_is_met ct_is_met), sl_is_met⟩)
    (c_is_met : PySem.W.codeIn K cd_is_met "is_met" = true)
    (k_is_met : PySem.W.keepIn K (.ref f_is_met) = true)
    (a_Exact_init : PySem.W.findIn K (.ref cE) "__init__" = some (some (.ref f_Exact_init)))
    (i_Exact_init : PySem.W.isFn K (.ref f_Exact_init) = true)
    (l_Exact_init : K.lookup f_Exact_init = some ⟨oc_Exact_init, od_Exact_init, .func (PySem.W.fnOf "__init__" "Exact.__init__" (defArgs s_Exact_init) (defBody s_Exact_init) (defScope s_Exact_init) .none kV_Exact_init dc_Exact_init pm_Exact_init an_Exact_init cd_Exact_init ct_Exact_init), sl_Exact_init⟩)
    (c_Exact_init : PySem.W.codeIn K cd_Exact_init "Exact.__init__" = true)
    (k_Exact_init : PySem.W.keepIn K (.ref f_Exact_init) = true)
    (a_Exact_eq : PySem.W.findIn K (.ref cE) "__eq__" = some (some (.ref f_Exact_eq)))
    (i_Exact_eq : PySem.W.isFn K (.ref f_Exact_eq) = true)
    (l_Exact_eq : K.lookup f_Exact_eq = some ⟨oc_Exact_eq, od_Exact_eq, .func (PySem.W.fnOf "__eq__" "Exact.__eq__" (defArgs s_Exact_eq) (defBody s_Exact_eq) (defScope s_Exact_eq) .none kV_Exact_eq dc_Exact_eq pm_Exact_eq an_Exact_eq cd_Exact_eq ct_Exact_eq), sl_Exact_eq⟩)
    (c_Exact_eq : PySem.W.codeIn K cd_Exact_eq "Exact.__eq__" = true)
    (k_Exact_eq : PySem.W.keepIn K (.ref f_Exact_eq) = true)
    (a_More_init : PySem.W.findIn K (.ref cO) "__init__" = some (some (.ref f_More_init)))
    (i_More_init : PySem.W.isFn K (.ref f_More_init) = true)
    (l_More_init : K.lookup f_More_init = some ⟨oc_More_init, od_More_init, .func (PySem.W.fnOf "__init__" "More.__init__" (defArgs s_More_init) (defBody s_More_init) (defScope s_More_init) .none kV_More_init dc_More_init pm_More_init an_More_init cd_More_init ct_More_init), sl_More_init⟩)
    (c_More_init : PySem.W.codeIn K cd_More_init "More.__init__" = true)
    (k_More_init : PySem.W.keepIn K (.ref f_More_init) = true)
    (a_More_eq : PySem.W.findIn K (.ref cO) "__eq__" = some (some (.ref f_More_eq)))
    (i_More_eq : PySem.W.isFn K (.ref f_More_eq) = true)
    (l_More_eq : K.lookup f_More_eq = some ⟨oc_More_eq, od_More_eq, .func (PySem.W.fnOf "__eq__" "More.__eq__" (defArgs s_More_eq) (defBody s_More_eq) (defScope s_More_eq) .none kV_More_eq dc_More_eq pm_More_eq an_More_eq cd_More_eq ct_More_eq), sl_More_eq⟩)
    (c_More_eq : PySem.W.codeIn K cd_More_eq "More.__eq__" = true)
    (k_More_eq : PySem.W.keepIn K (.ref f_More_eq) = true)
    (a_Misses_init : PySem.W.findIn K (.ref cS) "__init__" = some (some (.ref f_Misses_init)))
    (i_Misses_init : PySem.W.isFn K (.ref f_Misses_init) = true)
    (l_Misses_init : K.lookup f_Misses_init = some ⟨oc_Misses_init, od_Misses_init, .func (PySem.W.fnOf "__init__" "Misses.__init__" (defArgs s_Misses_init) (defBody s_Misses_init) (defScope s_Misses_init) .none kV_Misses_init dc_Misses_init pm_Misses_init an_Misses_init cd_Misses_init ct_Misses_init), sl_Misses_init⟩)
    (c_Misses_init : PySem.W.codeIn K cd_Misses_init "Misses.__init__" = true)
    (k_Misses_init : PySem.W.keepIn K (.ref f_Misses_init) = true)
    (a_Misses_eq : PySem.W.findIn K (.ref cS) "__eq__" = some (some (.ref f_Misses_eq)))
    (i_Misses_eq : PySem.W.isFn K (.ref f_Misses_eq) = true)
    (l_Misses_eq : K.lookup f_Misses_eq = some ⟨oc_Misses_eq, od_Misses_eq, .func (PySem.W.fnOf "__eq__" "Misses.__eq__" (defArgs s_Misses_eq) (defBody s_Misses_eq) (defScope s_Misses_eq) .none kV_Misses_eq dc_Misses_eq pm_Misses_eq an_Misses_eq cd_Misses_eq ct_Misses_eq), sl_Misses_eq⟩)
    (c_Misses_eq : PySem.W.codeIn K cd_Misses_eq "Misses.__eq__" = true)
    (k_Misses_eq : PySem.W.keepIn K (.ref f_Misses_eq) = true)
    (a_l_number : PySem.W.nsIn K mainGlobals "_law_number" = some (some (.ref f_l_number)))
    (l_l_number : K.lookup f_l_number = some ⟨oc_l_number, od_l_number, .func (PySem.W.fnOf "_law_number" "_law_number" (defArgs s_l_number) (defBody s_l_number) (defScope s_l_number) .none kV_l_number dc_l_number pm_l_number an_l_number cd_l_number ct_l_number), sl_l_number⟩)
    (c_l_number : PySem.W.codeIn K cd_l_number "_law_number" = true)
    (k_l_number : PySem.W.keepIn K (.ref f_l_number) = true)
    (a_l_turn : PySem.W.nsIn K mainGlobals "_law_turn" = some (some (.ref f_l_turn)))
    (l_l_turn : K.lookup f_l_turn = some ⟨oc_l_turn, od_l_turn, .func (PySem.W.fnOf "_law_turn" "_law_turn" (defArgs s_l_turn) (defBody s_l_turn) (defScope s_l_turn) .none kV_l_turn dc_l_turn pm_l_turn an_l_turn cd_l_turn ct_l_turn), sl_l_turn⟩)
    (c_l_turn : PySem.W.codeIn K cd_l_turn "_law_turn" = true)
    (k_l_turn : PySem.W.keepIn K (.ref f_l_turn) = true)
    (a_l_led : PySem.W.nsIn K mainGlobals "_law_led" = some (some (.ref f_l_led)))
    (l_l_led : K.lookup f_l_led = some ⟨oc_l_led, od_l_led, .func (PySem.W.fnOf "_law_led" "_law_led" (defArgs s_l_led) (defBody s_l_led) (defScope s_l_led) .none kV_l_led dc_l_led pm_l_led an_l_led cd_l_led ct_l_led), sl_l_led⟩)
    (c_l_led : PySem.W.codeIn K cd_l_led "_law_led" = true)
    (k_l_led : PySem.W.keepIn K (.ref f_l_led) = true)
    (a_l_beside : PySem.W.nsIn K mainGlobals "_law_beside" = some (some (.ref f_l_beside)))
    (l_l_beside : K.lookup f_l_beside = some ⟨oc_l_beside, od_l_beside, .func (PySem.W.fnOf "_law_beside" "_law_beside" (defArgs s_l_beside) (defBody s_l_beside) (defScope s_l_beside) .none kV_l_beside dc_l_beside pm_l_beside an_l_beside cd_l_beside ct_l_beside), sl_l_beside⟩)
    (c_l_beside : PySem.W.codeIn K cd_l_beside "_law_beside" = true)
    (k_l_beside : PySem.W.keepIn K (.ref f_l_beside) = true)
    (a_l_met : PySem.W.nsIn K mainGlobals "_law_met" = some (some (.ref f_l_met)))
    (l_l_met : K.lookup f_l_met = some ⟨oc_l_met, od_l_met, .func (PySem.W.fnOf "_law_met" "_law_met" (defArgs s_l_met) (defBody s_l_met) (defScope s_l_met) .none kV_l_met dc_l_met pm_l_met an_l_met cd_l_met ct_l_met), sl_l_met⟩)
    (c_l_met : PySem.W.codeIn K cd_l_met "_law_met" = true)
    (k_l_met : PySem.W.keepIn K (.ref f_l_met) = true)
    (a_l_moved : PySem.W.nsIn K mainGlobals "_law_moved" = some (some (.ref f_l_moved)))
    (l_l_moved : K.lookup f_l_moved = some ⟨oc_l_moved, od_l_moved, .func (PySem.W.fnOf "_law_moved" "_law_moved" (defArgs s_l_moved) (defBody s_l_moved) (defScope s_l_moved) .none kV_l_moved dc_l_moved pm_l_moved an_l_moved cd_l_moved ct_l_moved), sl_l_moved⟩)
    (c_l_moved : PySem.W.codeIn K cd_l_moved "_law_moved" = true)
    (k_l_moved : PySem.W.keepIn K (.ref f_l_moved) = true)
    (a_check_letters : PySem.W.nsIn K mainGlobals "check_letters" = some (some (.ref f_check_letters)))
    (l_check_letters : K.lookup f_check_letters = some ⟨oc_check_letters, od_check_letters, .func (PySem.W.fnOf "check_letters" "check_letters" (defArgs s_check_letters) (defBody s_check_letters) (defScope s_check_letters) .none kV_check_letters dc_check_letters pm_check_letters an_check_letters cd_check_letters ct_check_letters), sl_check_letters⟩)
    (c_check_letters : PySem.W.codeIn K cd_check_letters "check_letters" = true)
    (k_check_letters : PySem.W.keepIn K (.ref f_check_letters) = true)
    (a_is_turn : PySem.W.nsIn K mainGlobals "is_turn" = some (some (.ref f_is_turn)))
    (l_is_turn : K.lookup f_is_turn = some ⟨oc_is_turn, od_is_turn, .func (PySem.W.fnOf "is_turn" "is_turn" (defArgs s_is_turn) (defBody s_is_turn) (defScope s_is_turn) .none kV_is_turn dc_is_turn pm_is_turn an_is_turn cd_is_turn ct_is_turn), sl_is_turn⟩)
    (c_is_turn : PySem.W.codeIn K cd_is_turn "is_turn" = true)
    (k_is_turn : PySem.W.keepIn K (.ref f_is_turn) = true)
    (a_is_short : PySem.W.nsIn K mainGlobals "is_short" = some (some (.ref f_is_short)))
    (l_is_short : K.lookup f_is_short = some ⟨oc_is_short, od_is_short, .func (PySem.W.fnOf "is_short" "is_short" (defArgs s_is_short) (defBody s_is_short) (defScope s_is_short) .none kV_is_short dc_is_short pm_is_short an_is_short cd_is_short ct_is_short), sl_is_short⟩)
    (c_is_short : PySem.W.codeIn K cd_is_short "is_short" = true)
    (k_is_short : PySem.W.keepIn K (.ref f_is_short) = true)
    (a_first_stand : PySem.W.nsIn K mainGlobals "first_stand" = some (some (.ref f_first_stand)))
    (l_first_stand : K.lookup f_first_stand = some ⟨oc_first_stand, od_first_stand, .func (PySem.W.fnOf "first_stand" "first_stand" (defArgs s_first_stand) (defBody s_first_stand) (defScope s_first_stand) .none kV_first_stand dc_first_stand pm_first_stand an_first_stand cd_first_stand ct_first_stand), sl_first_stand⟩)
    (c_first_stand : PySem.W.codeIn K cd_first_stand "first_stand" = true)
    (k_first_stand : PySem.W.keepIn K (.ref f_first_stand) = true)
    (a_stand_after : PySem.W.nsIn K mainGlobals "stand_after" = some (some (.ref f_stand_after)))
    (l_stand_after : K.lookup f_stand_after = some ⟨oc_stand_after, od_stand_after, .func (PySem.W.fnOf "stand_after" "stand_after" (defArgs s_stand_after) (defBody s_stand_after) (defScope s_stand_after) .none kV_stand_after dc_stand_after pm_stand_after an_stand_after cd_stand_after ct_stand_after), sl_stand_after⟩)
    (c_stand_after : PySem.W.codeIn K cd_stand_after "stand_after" = true)
    (k_stand_after : PySem.W.keepIn K (.ref f_stand_after) = true)
    (a_is_place_of : PySem.W.nsIn K mainGlobals "is_place_of" = some (some (.ref f_is_place_of)))
    (l_is_place_of : K.lookup f_is_place_of = some ⟨oc_is_place_of, od_is_place_of, .func (PySem.W.fnOf "is_place_of" "is_place_of" (defArgs s_is_place_of) (defBody s_is_place_of) (defScope s_is_place_of) .none kV_is_place_of dc_is_place_of pm_is_place_of an_is_place_of cd_is_place_of ct_is_place_of), sl_is_place_of⟩)
    (c_is_place_of : PySem.W.codeIn K cd_is_place_of "is_place_of" = true)
    (k_is_place_of : PySem.W.keepIn K (.ref f_is_place_of) = true)
    (a_Pairing_is_found : PySem.W.findIn K (.ref cP) "is_found" = some (some (.ref f_Pairing_is_found)))
    (i_Pairing_is_found : PySem.W.isFn K (.ref f_Pairing_is_found) = true)
    (l_Pairing_is_found : K.lookup f_Pairing_is_found = some ⟨oc_Pairing_is_found, od_Pairing_is_found, .func (PySem.W.fnOf "is_found" "Pairing.is_found" (defArgs s_Pairing_is_found) (defBody s_Pairing_is_found) (defScope s_Pairing_is_found) .none kV_Pairing_is_found dc_Pairing_is_found pm_Pairing_is_found an_Pairing_is_found cd_Pairing_is_found ct_Pairing_is_found), sl_Pairing_is_found⟩)
    (c_Pairing_is_found : PySem.W.codeIn K cd_Pairing_is_found "Pairing.is_found" = true)
    (k_Pairing_is_found : PySem.W.keepIn K (.ref f_Pairing_is_found) = true)
    (a_Pairing_is_wished : PySem.W.findIn K (.ref cP) "is_wished" = some (some (.ref f_Pairing_is_wished)))
    (i_Pairing_is_wished : PySem.W.isFn K (.ref f_Pairing_is_wished) = true)
    (l_Pairing_is_wished : K.lookup f_Pairing_is_wished = some ⟨oc_Pairing_is_wished, od_Pairing_is_wished, .func (PySem.W.fnOf "is_wished" "Pairing.is_wished" (defArgs s_Pairing_is_wished) (defBody s_Pairing_is_wished) (defScope s_Pairing_is_wished) .none kV_Pairing_is_wished dc_Pairing_is_wished pm_Pairing_is_wished an_Pairing_is_wished cd_Pairing_is_wished ct_Pairing_is_wished), sl_Pairing_is_wished⟩)
    (c_Pairing_is_wished : PySem.W.codeIn K cd_Pairing_is_wished "Pairing.is_wished" = true)
    (k_Pairing_is_wished : PySem.W.keepIn K (.ref f_Pairing_is_wished) = true)
    (a_l_letters : PySem.W.nsIn K mainGlobals "_law_letters" = some (some (.ref f_l_letters)))
    (l_l_letters : K.lookup f_l_letters = some ⟨oc_l_letters, od_l_letters, .func (PySem.W.fnOf "_law_letters" "_law_letters" (defArgs s_l_letters) (defBody s_l_letters) (defScope s_l_letters) .none kV_l_letters dc_l_letters pm_l_letters an_l_letters cd_l_letters ct_l_letters), sl_l_letters⟩)
    (c_l_letters : PySem.W.codeIn K cd_l_letters "_law_letters" = true)
    (k_l_letters : PySem.W.keepIn K (.ref f_l_letters) = true)
    (a_l_rows : PySem.W.nsIn K mainGlobals "_law_rows" = some (some (.ref f_l_rows)))
    (l_l_rows : K.lookup f_l_rows = some ⟨oc_l_rows, od_l_rows, .func (PySem.W.fnOf "_law_rows" "_law_rows" (defArgs s_l_rows) (defBody s_l_rows) (defScope s_l_rows) .none kV_l_rows dc_l_rows pm_l_rows an_l_rows cd_l_rows ct_l_rows), sl_l_rows⟩)
    (c_l_rows : PySem.W.codeIn K cd_l_rows "_law_rows" = true)
    (k_l_rows : PySem.W.keepIn K (.ref f_l_rows) = true)
    (a_l_value : PySem.W.nsIn K mainGlobals "_law_value" = some (some (.ref f_l_value)))
    (l_l_value : K.lookup f_l_value = some ⟨oc_l_value, od_l_value, .func (PySem.W.fnOf "_law_value" "_law_value" (defArgs s_l_value) (defBody s_l_value) (defScope s_l_value) .none kV_l_value dc_l_value pm_l_value an_l_value cd_l_value ct_l_value), sl_l_value⟩)
    (c_l_value : PySem.W.codeIn K cd_l_value "_law_value" = true)
    (k_l_value : PySem.W.keepIn K (.ref f_l_value) = true)
    (a_l_first_stand : PySem.W.nsIn K mainGlobals "_law_first_stand" = some (some (.ref f_l_first_stand)))
    (l_l_first_stand : K.lookup f_l_first_stand = some ⟨oc_l_first_stand, od_l_first_stand, .func (PySem.W.fnOf "_law_first_stand" "_law_first_stand" (defArgs s_l_first_stand) (defBody s_l_first_stand) (defScope s_l_first_stand) .none kV_l_first_stand dc_l_first_stand pm_l_first_stand an_l_first_stand cd_l_first_stand ct_l_first_stand), sl_l_first_stand⟩)
    (c_l_first_stand : PySem.W.codeIn K cd_l_first_stand "_law_first_stand" = true)
    (k_l_first_stand : PySem.W.keepIn K (.ref f_l_first_stand) = true)
    (a_l_next_stand : PySem.W.nsIn K mainGlobals "_law_next_stand" = some (some (.ref f_l_next_stand)))
    (l_l_next_stand : K.lookup f_l_next_stand = some ⟨oc_l_next_stand, od_l_next_stand, .func (PySem.W.fnOf "_law_next_stand" "_law_next_stand" (defArgs s_l_next_stand) (defBody s_l_next_stand) (defScope s_l_next_stand) .none kV_l_next_stand dc_l_next_stand pm_l_next_stand an_l_next_stand cd_l_next_stand ct_l_next_stand), sl_l_next_stand⟩)
    (c_l_next_stand : PySem.W.codeIn K cd_l_next_stand "_law_next_stand" = true)
    (k_l_next_stand : PySem.W.keepIn K (.ref f_l_next_stand) = true)
    (a_l_is_mark : PySem.W.nsIn K mainGlobals "_law_is_mark" = some (some (.ref f_l_is_mark)))
    (l_l_is_mark : K.lookup f_l_is_mark = some ⟨oc_l_is_mark, od_l_is_mark, .func (PySem.W.fnOf "_law_is_mark" "_law_is_mark" (defArgs s_l_is_mark) (defBody s_l_is_mark) (defScope s_l_is_mark) .none kV_l_is_mark dc_l_is_mark pm_l_is_mark an_l_is_mark cd_l_is_mark ct_l_is_mark), sl_l_is_mark⟩)
    (c_l_is_mark : PySem.W.codeIn K cd_l_is_mark "_law_is_mark" = true)
    (k_l_is_mark : PySem.W.keepIn K (.ref f_l_is_mark) = true)
    (a_l_kind : PySem.W.nsIn K mainGlobals "_law_kind" = some (some (.ref f_l_kind)))
    (l_l_kind : K.lookup f_l_kind = some ⟨oc_l_kind, od_l_kind, .func (PySem.W.fnOf "_law_kind" "_law_kind" (defArgs s_l_kind) (defBody s_l_kind) (defScope s_l_kind) .none kV_l_kind dc_l_kind pm_l_kind an_l_kind cd_l_kind ct_l_kind), sl_l_kind⟩)
    (c_l_kind : PySem.W.codeIn K cd_l_kind "_law_kind" = true)
    (k_l_kind : PySem.W.keepIn K (.ref f_l_kind) = true)
    (a_l_bent : PySem.W.nsIn K mainGlobals "_law_bent" = some (some (.ref f_l_bent)))
    (l_l_bent : K.lookup f_l_bent = some ⟨oc_l_bent, od_l_bent, .func (PySem.W.fnOf "_law_bent" "_law_bent" (defArgs s_l_bent) (defBody s_l_bent) (defScope s_l_bent) .none kV_l_bent dc_l_bent pm_l_bent an_l_bent cd_l_bent ct_l_bent), sl_l_bent⟩)
    (c_l_bent : PySem.W.codeIn K cd_l_bent "_law_bent" = true)
    (k_l_bent : PySem.W.keepIn K (.ref f_l_bent) = true)
    (a_first_wrong : PySem.W.nsIn K mainGlobals "first_wrong" = some (some (.ref f_first_wrong)))
    (l_first_wrong : K.lookup f_first_wrong = some ⟨oc_first_wrong, od_first_wrong, .func (PySem.W.fnOf "first_wrong" "first_wrong" (defArgs s_first_wrong) (defBody s_first_wrong) (defScope s_first_wrong) .none kV_first_wrong dc_first_wrong pm_first_wrong an_first_wrong cd_first_wrong ct_first_wrong), sl_first_wrong⟩)
    (c_first_wrong : PySem.W.codeIn K cd_first_wrong "first_wrong" = true)
    (k_first_wrong : PySem.W.keepIn K (.ref f_first_wrong) = true)
    (a_check_two : PySem.W.nsIn K mainGlobals "check_two" = some (some (.ref f_check_two)))
    (l_check_two : K.lookup f_check_two = some ⟨oc_check_two, od_check_two, .func (PySem.W.fnOf "check_two" "check_two" (defArgs s_check_two) (defBody s_check_two) (defScope s_check_two) .none kV_check_two dc_check_two pm_check_two an_check_two cd_check_two ct_check_two), sl_check_two⟩)
    (c_check_two : PySem.W.codeIn K cd_check_two "check_two" = true)
    (k_check_two : PySem.W.keepIn K (.ref f_check_two) = true)
    (a_is_condition_of : PySem.W.nsIn K mainGlobals "is_condition_of" = some (some (.ref f_is_condition_of)))
    (l_is_condition_of : K.lookup f_is_condition_of = some ⟨oc_is_condition_of, od_is_condition_of, .func (PySem.W.fnOf "is_condition_of" "is_condition_of" (defArgs s_is_condition_of) (defBody s_is_condition_of) (defScope s_is_condition_of) .none kV_is_condition_of dc_is_condition_of pm_is_condition_of an_is_condition_of cd_is_condition_of ct_is_condition_of), sl_is_condition_of⟩)
    (c_is_condition_of : PySem.W.codeIn K cd_is_condition_of "is_condition_of" = true)
    (k_is_condition_of : PySem.W.keepIn K (.ref f_is_condition_of) = true)
    (a_is_stand_of : PySem.W.nsIn K mainGlobals "is_stand_of" = some (some (.ref f_is_stand_of)))
    (l_is_stand_of : K.lookup f_is_stand_of = some ⟨oc_is_stand_of, od_is_stand_of, .func (PySem.W.fnOf "is_stand_of" "is_stand_of" (defArgs s_is_stand_of) (defBody s_is_stand_of) (defScope s_is_stand_of) .none kV_is_stand_of dc_is_stand_of pm_is_stand_of an_is_stand_of cd_is_stand_of ct_is_stand_of), sl_is_stand_of⟩)
    (c_is_stand_of : PySem.W.codeIn K cd_is_stand_of "is_stand_of" = true)
    (k_is_stand_of : PySem.W.keepIn K (.ref f_is_stand_of) = true)
    (a_Pairing_first : PySem.W.findIn K (.ref cP) "first" = some (some (.ref f_Pairing_first)))
    (i_Pairing_first : PySem.W.isFn K (.ref f_Pairing_first) = true)
    (l_Pairing_first : K.lookup f_Pairing_first = some ⟨oc_Pairing_first, od_Pairing_first, .func (PySem.W.fnOf "first" "Pairing.first" (defArgs s_Pairing_first) (defBody s_Pairing_first) (defScope s_Pairing_first) .none kV_Pairing_first dc_Pairing_first pm_Pairing_first an_Pairing_first cd_Pairing_first ct_Pairing_first), sl_Pairing_first⟩)
    (c_Pairing_first : PySem.W.codeIn K cd_Pairing_first "Pairing.first" = true)
    (k_Pairing_first : PySem.W.keepIn K (.ref f_Pairing_first) = true)
    (a_Pairing_after : PySem.W.findIn K (.ref cP) "after" = some (some (.ref f_Pairing_after)))
    (i_Pairing_after : PySem.W.isFn K (.ref f_Pairing_after) = true)
    (l_Pairing_after : K.lookup f_Pairing_after = some ⟨oc_Pairing_after, od_Pairing_after, .func (PySem.W.fnOf "after" "Pairing.after" (defArgs s_Pairing_after) (defBody s_Pairing_after) (defScope s_Pairing_after) .none kV_Pairing_after dc_Pairing_after pm_Pairing_after an_Pairing_after cd_Pairing_after ct_Pairing_after), sl_Pairing_after⟩)
    (c_Pairing_after : PySem.W.codeIn K cd_Pairing_after "Pairing.after" = true)
    (k_Pairing_after : PySem.W.keepIn K (.ref f_Pairing_after) = true)
    (a_l_condition : PySem.W.nsIn K mainGlobals "_law_condition" = some (some (.ref f_l_condition)))
    (l_l_condition : K.lookup f_l_condition = some ⟨oc_l_condition, od_l_condition, .func (PySem.W.fnOf "_law_condition" "_law_condition" (defArgs s_l_condition) (defBody s_l_condition) (defScope s_l_condition) .none kV_l_condition dc_l_condition pm_l_condition an_l_condition cd_l_condition ct_l_condition), sl_l_condition⟩)
    (c_l_condition : PySem.W.codeIn K cd_l_condition "_law_condition" = true)
    (k_l_condition : PySem.W.keepIn K (.ref f_l_condition) = true)
    (a_l_next_spot : PySem.W.nsIn K mainGlobals "_law_next_spot" = some (some (.ref f_l_next_spot)))
    (l_l_next_spot : K.lookup f_l_next_spot = some ⟨oc_l_next_spot, od_l_next_spot, .func (PySem.W.fnOf "_law_next_spot" "_law_next_spot" (defArgs s_l_next_spot) (defBody s_l_next_spot) (defScope s_l_next_spot) .none kV_l_next_spot dc_l_next_spot pm_l_next_spot an_l_next_spot cd_l_next_spot ct_l_next_spot), sl_l_next_spot⟩)
    (c_l_next_spot : PySem.W.codeIn K cd_l_next_spot "_law_next_spot" = true)
    (k_l_next_spot : PySem.W.keepIn K (.ref f_l_next_spot) = true)
    (a_l_first_spot : PySem.W.nsIn K mainGlobals "_law_first_spot" = some (some (.ref f_l_first_spot)))
    (l_l_first_spot : K.lookup f_l_first_spot = some ⟨oc_l_first_spot, od_l_first_spot, .func (PySem.W.fnOf "_law_first_spot" "_law_first_spot" (defArgs s_l_first_spot) (defBody s_l_first_spot) (defScope s_l_first_spot) .none kV_l_first_spot dc_l_first_spot pm_l_first_spot an_l_first_spot cd_l_first_spot ct_l_first_spot), sl_l_first_spot⟩)
    (c_l_first_spot : PySem.W.codeIn K cd_l_first_spot "_law_first_spot" = true)
    (k_l_first_spot : PySem.W.keepIn K (.ref f_l_first_spot) = true)
    (a_l_is_spot : PySem.W.nsIn K mainGlobals "_law_is_spot" = some (some (.ref f_l_is_spot)))
    (l_l_is_spot : K.lookup f_l_is_spot = some ⟨oc_l_is_spot, od_l_is_spot, .func (PySem.W.fnOf "_law_is_spot" "_law_is_spot" (defArgs s_l_is_spot) (defBody s_l_is_spot) (defScope s_l_is_spot) .none kV_l_is_spot dc_l_is_spot pm_l_is_spot an_l_is_spot cd_l_is_spot ct_l_is_spot), sl_l_is_spot⟩)
    (c_l_is_spot : PySem.W.codeIn K cd_l_is_spot "_law_is_spot" = true)
    (k_l_is_spot : PySem.W.keepIn K (.ref f_l_is_spot) = true)
    (a_Machine_init : PySem.W.findIn K (.ref cM) "__init__" = some (some (.ref f_Machine_init)))
    (i_Machine_init : PySem.W.isFn K (.ref f_Machine_init) = true)
    (l_Machine_init : K.lookup f_Machine_init = some ⟨oc_Machine_init, od_Machine_init, .func (PySem.W.fnOf "__init__" "Machine.__init__" (defArgs s_Machine_init) (defBody s_Machine_init) (defScope s_Machine_init) .none kV_Machine_init dc_Machine_init pm_Machine_init an_Machine_init cd_Machine_init ct_Machine_init), sl_Machine_init⟩)
    (c_Machine_init : PySem.W.codeIn K cd_Machine_init "Machine.__init__" = true)
    (k_Machine_init : PySem.W.keepIn K (.ref f_Machine_init) = true)
    (a_check_condition : PySem.W.nsIn K mainGlobals "check_condition" = some (some (.ref f_check_condition)))
    (l_check_condition : K.lookup f_check_condition = some ⟨oc_check_condition, od_check_condition, .func (PySem.W.fnOf "check_condition" "check_condition" (defArgs s_check_condition) (defBody s_check_condition) (defScope s_check_condition) .none kV_check_condition dc_check_condition pm_check_condition an_check_condition cd_check_condition ct_check_condition), sl_check_condition⟩)
    (c_check_condition : PySem.W.codeIn K cd_check_condition "check_condition" = true)
    (k_check_condition : PySem.W.keepIn K (.ref f_check_condition) = true)
    (a_Pairing_is_spot : PySem.W.findIn K (.ref cP) "is_spot" = some (some (.ref f_Pairing_is_spot)))
    (i_Pairing_is_spot : PySem.W.isFn K (.ref f_Pairing_is_spot) = true)
    (l_Pairing_is_spot : K.lookup f_Pairing_is_spot = some ⟨oc_Pairing_is_spot, od_Pairing_is_spot, .func (PySem.W.fnOf "is_spot" "Pairing.is_spot" (defArgs s_Pairing_is_spot) (defBody s_Pairing_is_spot) (defScope s_Pairing_is_spot) .none kV_Pairing_is_spot dc_Pairing_is_spot pm_Pairing_is_spot an_Pairing_is_spot cd_Pairing_is_spot ct_Pairing_is_spot), sl_Pairing_is_spot⟩)
    (c_Pairing_is_spot : PySem.W.codeIn K cd_Pairing_is_spot "Pairing.is_spot" = true)
    (k_Pairing_is_spot : PySem.W.keepIn K (.ref f_Pairing_is_spot) = true)
    (a_Pairing_spot_of : PySem.W.findIn K (.ref cP) "spot_of" = some (some (.ref f_Pairing_spot_of)))
    (i_Pairing_spot_of : PySem.W.isFn K (.ref f_Pairing_spot_of) = true)
    (l_Pairing_spot_of : K.lookup f_Pairing_spot_of = some ⟨oc_Pairing_spot_of, od_Pairing_spot_of, .func (PySem.W.fnOf "spot_of" "Pairing.spot_of" (defArgs s_Pairing_spot_of) (defBody s_Pairing_spot_of) (defScope s_Pairing_spot_of) .none kV_Pairing_spot_of dc_Pairing_spot_of pm_Pairing_spot_of an_Pairing_spot_of cd_Pairing_spot_of ct_Pairing_spot_of), sl_Pairing_spot_of⟩)
    (c_Pairing_spot_of : PySem.W.codeIn K cd_Pairing_spot_of "Pairing.spot_of" = true)
    (k_Pairing_spot_of : PySem.W.keepIn K (.ref f_Pairing_spot_of) = true)
    (a_l_reach : PySem.W.nsIn K mainGlobals "_law_reach" = some (some (.ref f_l_reach)))
    (l_l_reach : K.lookup f_l_reach = some ⟨oc_l_reach, od_l_reach, .func (PySem.W.fnOf "_law_reach" "_law_reach" (defArgs s_l_reach) (defBody s_l_reach) (defScope s_l_reach) .none kV_l_reach dc_l_reach pm_l_reach an_l_reach cd_l_reach ct_l_reach), sl_l_reach⟩)
    (c_l_reach : PySem.W.codeIn K cd_l_reach "_law_reach" = true)
    (k_l_reach : PySem.W.keepIn K (.ref f_l_reach) = true)
    (a_l_plan : PySem.W.nsIn K mainGlobals "_law_plan" = some (some (.ref f_l_plan)))
    (l_l_plan : K.lookup f_l_plan = some ⟨oc_l_plan, od_l_plan, .func (PySem.W.fnOf "_law_plan" "_law_plan" (defArgs s_l_plan) (defBody s_l_plan) (defScope s_l_plan) .none kV_l_plan dc_l_plan pm_l_plan an_l_plan cd_l_plan ct_l_plan), sl_l_plan⟩)
    (c_l_plan : PySem.W.codeIn K cd_l_plan "_law_plan" = true)
    (k_l_plan : PySem.W.keepIn K (.ref f_l_plan) = true)
    (a_l_are_closed : PySem.W.nsIn K mainGlobals "_law_are_closed" = some (some (.ref f_l_are_closed)))
    (l_l_are_closed : K.lookup f_l_are_closed = some ⟨oc_l_are_closed, od_l_are_closed, .func (PySem.W.fnOf "_law_are_closed" "_law_are_closed" (defArgs s_l_are_closed) (defBody s_l_are_closed) (defScope s_l_are_closed) .none kV_l_are_closed dc_l_are_closed pm_l_are_closed an_l_are_closed cd_l_are_closed ct_l_are_closed), sl_l_are_closed⟩)
    (c_l_are_closed : PySem.W.codeIn K cd_l_are_closed "_law_are_closed" = true)
    (k_l_are_closed : PySem.W.keepIn K (.ref f_l_are_closed) = true)
    (a_Pairing_init : PySem.W.findIn K (.ref cP) "__init__" = some (some (.ref f_Pairing_init)))
    (i_Pairing_init : PySem.W.isFn K (.ref f_Pairing_init) = true)
    (l_Pairing_init : K.lookup f_Pairing_init = some ⟨oc_Pairing_init, od_Pairing_init, .func (PySem.W.fnOf "__init__" "Pairing.__init__" (defArgs s_Pairing_init) (defBody s_Pairing_init) (defScope s_Pairing_init) .none kV_Pairing_init dc_Pairing_init pm_Pairing_init an_Pairing_init cd_Pairing_init ct_Pairing_init), sl_Pairing_init⟩)
    (c_Pairing_init : PySem.W.codeIn K cd_Pairing_init "Pairing.__init__" = true)
    (k_Pairing_init : PySem.W.keepIn K (.ref f_Pairing_init) = true)
    (a_Pairing_are_closed : PySem.W.findIn K (.ref cP) "are_closed" = some (some (.ref f_Pairing_are_closed)))
    (i_Pairing_are_closed : PySem.W.isFn K (.ref f_Pairing_are_closed) = true)
    (l_Pairing_are_closed : K.lookup f_Pairing_are_closed = some ⟨oc_Pairing_are_closed, od_Pairing_are_closed, .func (PySem.W.fnOf "are_closed" "Pairing.are_closed" (defArgs s_Pairing_are_closed) (defBody s_Pairing_are_closed) (defScope s_Pairing_are_closed) .none kV_Pairing_are_closed dc_Pairing_are_closed pm_Pairing_are_closed an_Pairing_are_closed cd_Pairing_are_closed ct_Pairing_are_closed), sl_Pairing_are_closed⟩)
    (c_Pairing_are_closed : PySem.W.codeIn K cd_Pairing_are_closed "Pairing.are_closed" = true)
    (k_Pairing_are_closed : PySem.W.keepIn K (.ref f_Pairing_are_closed) = true)
    (a_Exact_shows : PySem.W.findIn K (.ref cE) "shows" = some (some (.ref f_Exact_shows)))
    (i_Exact_shows : PySem.W.isFn K (.ref f_Exact_shows) = true)
    (l_Exact_shows : K.lookup f_Exact_shows = some ⟨oc_Exact_shows, od_Exact_shows, .func (PySem.W.fnOf "shows" "Exact.shows" (defArgs s_Exact_shows) (defBody s_Exact_shows) (defScope s_Exact_shows) .none kV_Exact_shows dc_Exact_shows pm_Exact_shows an_Exact_shows cd_Exact_shows ct_Exact_shows), sl_Exact_shows⟩)
    (c_Exact_shows : PySem.W.codeIn K cd_Exact_shows "Exact.shows" = true)
    (k_Exact_shows : PySem.W.keepIn K (.ref f_Exact_shows) = true)
    (a_More_shows : PySem.W.findIn K (.ref cO) "shows" = some (some (.ref f_More_shows)))
    (i_More_shows : PySem.W.isFn K (.ref f_More_shows) = true)
    (l_More_shows : K.lookup f_More_shows = some ⟨oc_More_shows, od_More_shows, .func (PySem.W.fnOf "shows" "More.shows" (defArgs s_More_shows) (defBody s_More_shows) (defScope s_More_shows) .none kV_More_shows dc_More_shows pm_More_shows an_More_shows cd_More_shows ct_More_shows), sl_More_shows⟩)
    (c_More_shows : PySem.W.codeIn K cd_More_shows "More.shows" = true)
    (k_More_shows : PySem.W.keepIn K (.ref f_More_shows) = true)
    (a_Misses_shows : PySem.W.findIn K (.ref cS) "shows" = some (some (.ref f_Misses_shows)))
    (i_Misses_shows : PySem.W.isFn K (.ref f_Misses_shows) = true)
    (l_Misses_shows : K.lookup f_Misses_shows = some ⟨oc_Misses_shows, od_Misses_shows, .func (PySem.W.fnOf "shows" "Misses.shows" (defArgs s_Misses_shows) (defBody s_Misses_shows) (defScope s_Misses_shows) .none kV_Misses_shows dc_Misses_shows pm_Misses_shows an_Misses_shows cd_Misses_shows ct_Misses_shows), sl_Misses_shows⟩)
    (c_Misses_shows : PySem.W.codeIn K cd_Misses_shows "Misses.shows" = true)
    (k_Misses_shows : PySem.W.keepIn K (.ref f_Misses_shows) = true)
    (a_law : PySem.W.nsIn K mainGlobals "law" = some (some (.ref f_law)))
    (l_law : K.lookup f_law = some ⟨oc_law, od_law, .func (PySem.W.fnOf "law" "law" (defArgs s_law) (defBody s_law) (defScope s_law) .none kV_law dc_law pm_law an_law cd_law ct_law), sl_law⟩)
    (c_law : PySem.W.codeIn K cd_law "law" = true)
    (k_law : PySem.W.keepIn K (.ref f_law) = true)
    : ∃ fd : FuncData, (∀ (s : Shared) (v : Value), BindsTo s fd ⟨[v], []⟩ [("script", v)]) ∧ ∀ base : Heap, K.In base → base.Ns mainGlobals mg → FnOk l.prog w K mg base CX0 8 fa fd ["script"] (ofSq (sq1 (p_law K ⟨0, 0, 0, 0, 0, 0⟩))) := by
  have e := hfa.symm.trans (PySem.W.mg_of X G a_law)
  cases e
  have F_is_number := fund_mk (st := s_is_number) l_is_number c_is_number k_is_number
  have F_are_letters := fund_mk (st := s_are_letters) l_are_letters c_are_letters k_are_letters
  have F_is_value := fund_mk (st := s_is_value) l_is_value c_is_value k_is_value
  have F_is_out := fund_mk (st := s_is_out) l_is_out c_is_out k_is_out
  have F_Machine_letters := fund_mk (st := s_Machine_letters) l_Machine_letters c_Machine_letters k_Machine_letters
  have F_Machine_len := fund_mk (st := s_Machine_len) l_Machine_len c_Machine_len k_Machine_len
  have F_Machine_turn := fund_mk (st := s_Machine_turn) l_Machine_turn c_Machine_turn k_Machine_turn
  have F_check_machine := fund_mk (st := s_check_machine) l_check_machine c_check_machine k_check_machine
  have F_is_pattern := fund_mk (st := s_is_pattern) l_is_pattern c_is_pattern k_is_pattern
  have F_led_on := fund_mk (st := s_led_on) l_led_on c_led_on k_led_on
  have F_beside := fund_mk (st := s_beside) l_beside c_beside k_beside
  have F_is_met := fund_mk (st := s_is_met) l_is_met c_is_met k_is_met
  have F_Exact_init := fund_mk (st := s_Exact_init) l_Exact_init c_Exact_init k_Exact_init
  have F_Exact_eq := fund_mk (st := s_Exact_eq) l_Exact_eq c_Exact_eq k_Exact_eq
  have F_More_init := fund_mk (st := s_More_init) l_More_init c_More_init k_More_init
  have F_More_eq := fund_mk (st := s_More_eq) l_More_eq c_More_eq k_More_eq
  have F_Misses_init := fund_mk (st := s_Misses_init) l_Misses_init c_Misses_init k_Misses_init
  have F_Misses_eq := fund_mk (st := s_Misses_eq) l_Misses_eq c_Misses_eq k_Misses_eq
  have F_l_number := fund_mk (st := s_l_number) l_l_number c_l_number k_l_number
  have F_l_turn := fund_mk (st := s_l_turn) l_l_turn c_l_turn k_l_turn
  have F_l_led := fund_mk (st := s_l_led) l_l_led c_l_led k_l_led
  have F_l_beside := fund_mk (st := s_l_beside) l_l_beside c_l_beside k_l_beside
  have F_l_met := fund_mk (st := s_l_met) l_l_met c_l_met k_l_met
  have F_l_moved := fund_mk (st := s_l_moved) l_l_moved c_l_moved k_l_moved
  have F_check_letters := fund_mk (st := s_check_letters) l_check_letters c_check_letters k_check_letters
  have F_is_turn := fund_mk (st := s_is_turn) l_is_turn c_is_turn k_is_turn
  have F_is_short := fund_mk (st := s_is_short) l_is_short c_is_short k_is_short
  have F_first_stand := fund_mk (st := s_first_stand) l_first_stand c_first_stand k_first_stand
  have F_stand_after := fund_mk (st := s_stand_after) l_stand_after c_stand_after k_stand_after
  have F_is_place_of := fund_mk (st := s_is_place_of) l_is_place_of c_is_place_of k_is_place_of
  have F_Pairing_is_found := fund_mk (st := s_Pairing_is_found) l_Pairing_is_found c_Pairing_is_found k_Pairing_is_found
  have F_Pairing_is_wished := fund_mk (st := s_Pairing_is_wished) l_Pairing_is_wished c_Pairing_is_wished k_Pairing_is_wished
  have F_l_letters := fund_mk (st := s_l_letters) l_l_letters c_l_letters k_l_letters
  have F_l_rows := fund_mk (st := s_l_rows) l_l_rows c_l_rows k_l_rows
  have F_l_value := fund_mk (st := s_l_value) l_l_value c_l_value k_l_value
  have F_l_first_stand := fund_mk (st := s_l_first_stand) l_l_first_stand c_l_first_stand k_l_first_stand
  have F_l_next_stand := fund_mk (st := s_l_next_stand) l_l_next_stand c_l_next_stand k_l_next_stand
  have F_l_is_mark := fund_mk (st := s_l_is_mark) l_l_is_mark c_l_is_mark k_l_is_mark
  have F_l_kind := fund_mk (st := s_l_kind) l_l_kind c_l_kind k_l_kind
  have F_l_bent := fund_mk (st := s_l_bent) l_l_bent c_l_bent k_l_bent
  have F_first_wrong := fund_mk (st := s_first_wrong) l_first_wrong c_first_wrong k_first_wrong
  have F_check_two := fund_mk (st := s_check_two) l_check_two c_check_two k_check_two
  have F_is_condition_of := fund_mk (st := s_is_condition_of) l_is_condition_of c_is_condition_of k_is_condition_of
  have F_is_stand_of := fund_mk (st := s_is_stand_of) l_is_stand_of c_is_stand_of k_is_stand_of
  have F_Pairing_first := fund_mk (st := s_Pairing_first) l_Pairing_first c_Pairing_first k_Pairing_first
  have F_Pairing_after := fund_mk (st := s_Pairing_after) l_Pairing_after c_Pairing_after k_Pairing_after
  have F_l_condition := fund_mk (st := s_l_condition) l_l_condition c_l_condition k_l_condition
  have F_l_next_spot := fund_mk (st := s_l_next_spot) l_l_next_spot c_l_next_spot k_l_next_spot
  have F_l_first_spot := fund_mk (st := s_l_first_spot) l_l_first_spot c_l_first_spot k_l_first_spot
  have F_l_is_spot := fund_mk (st := s_l_is_spot) l_l_is_spot c_l_is_spot k_l_is_spot
  have F_Machine_init := fund_mk (st := s_Machine_init) l_Machine_init c_Machine_init k_Machine_init
  have F_check_condition := fund_mk (st := s_check_condition) l_check_condition c_check_condition k_check_condition
  have F_Pairing_is_spot := fund_mk (st := s_Pairing_is_spot) l_Pairing_is_spot c_Pairing_is_spot k_Pairing_is_spot
  have F_Pairing_spot_of := fund_mk (st := s_Pairing_spot_of) l_Pairing_spot_of c_Pairing_spot_of k_Pairing_spot_of
  have F_l_reach := fund_mk (st := s_l_reach) l_l_reach c_l_reach k_l_reach
  have F_l_plan := fund_mk (st := s_l_plan) l_l_plan c_l_plan k_l_plan
  have F_l_are_closed := fund_mk (st := s_l_are_closed) l_l_are_closed c_l_are_closed k_l_are_closed
  have F_Pairing_init := fund_mk (st := s_Pairing_init) l_Pairing_init c_Pairing_init k_Pairing_init
  have F_Pairing_are_closed := fund_mk (st := s_Pairing_are_closed) l_Pairing_are_closed c_Pairing_are_closed k_Pairing_are_closed
  have F_Exact_shows := fund_mk (st := s_Exact_shows) l_Exact_shows c_Exact_shows k_Exact_shows
  have F_More_shows := fund_mk (st := s_More_shows) l_More_shows c_More_shows k_More_shows
  have F_Misses_shows := fund_mk (st := s_Misses_shows) l_Misses_shows c_Misses_shows k_Misses_shows
  have F_law := fund_mk (st := s_law) l_law c_law k_law
  refine ⟨_, fun s v => FunD.bindsA (ps := ["script"]) F_law (fun _ _ _ _ _ _ us hl => match us, hl with | [_], _ => rfl) s [v] rfl, fun base KX2 G2 => ?_⟩
  have C_is_number := ok_is_number (P := l.prog) (w := w) (base := base) (a := ⟨kt, cM, cP, cE, cO, cS⟩) T F_is_number (PySem.W.mg_of X G a_is_number)
  have C_are_letters := ok_are_letters (P := l.prog) (w := w) (base := base) (a := ⟨kt, cM, cP, cE, cO, cS⟩) T F_are_letters (PySem.W.mg_of X G a_are_letters)
  have C_is_value := ok_is_value (P := l.prog) (w := w) (base := base) (a := ⟨kt, cM, cP, cE, cO, cS⟩) T F_is_value (PySem.W.mg_of X G a_is_value)
  have C_is_out := ok_is_out (P := l.prog) (w := w) (base := base) (a := ⟨kt, cM, cP, cE, cO, cS⟩) T F_is_out (PySem.W.mg_of X G a_is_out)
  have C_Machine_letters : Pl l.prog w K mg base 1 cM "letters" (sq1 (p_Machine_letters K ⟨kt, cM, cP, cE, cO, cS⟩)) := ⟨T.cl_Machine, _, _, a_Machine_letters, pg_Machine_letters, pt_Machine_letters, ⟨_, pc_Machine_letters⟩, ok_Machine_letters (P := l.prog) (w := w) (base := base) (a := ⟨kt, cM, cP, cE, cO, cS⟩) T F_Machine_letters⟩
  have C_Machine_len : Ml l.prog w K mg base 1 cM "__len__" (sq1 (p_Machine_len K ⟨kt, cM, cP, cE, cO, cS⟩)) := ⟨T.cl_Machine, _, ⟨a_Machine_len, i_Machine_len, k_Machine_len⟩, ok_Machine_len (P := l.prog) (w := w) (base := base) (a := ⟨kt, cM, cP, cE, cO, cS⟩) T F_Machine_len⟩
  have C_Machine_turn : Ml l.prog w K mg base 1 cM "turn" (sq3 (p_Machine_turn K ⟨kt, cM, cP, cE, cO, cS⟩)) := ⟨T.cl_Machine, _, ⟨a_Machine_turn, i_Machine_turn, k_Machine_turn⟩, ok_Machine_turn (P := l.prog) (w := w) (base := base) (a := ⟨kt, cM, cP, cE, cO, cS⟩) T F_Machine_turn⟩
  have C_check_machine := ok_check_machine (P := l.prog) (w := w) (base := base) (a := ⟨kt, cM, cP, cE, cO, cS⟩) T F_check_machine (PySem.W.mg_of X G a_check_machine)
  have C_is_pattern := ok_is_pattern (P := l.prog) (w := w) (base := base) (a := ⟨kt, cM, cP, cE, cO, cS⟩) T F_is_pattern (PySem.W.mg_of X G a_is_pattern)
  have C_led_onL := ok_led_onL (P := l.prog) (w := w) (base := base) (a := ⟨kt, cM, cP, cE, cO, cS⟩) T F_led_on (PySem.W.mg_of X G a_led_on)
  have C_led_onT := ok_led_onT (P := l.prog) (w := w) (base := base) (a := ⟨kt, cM, cP, cE, cO, cS⟩) T F_led_on (PySem.W.mg_of X G a_led_on)
  have C_beside := ok_beside (P := l.prog) (w := w) (base := base) (a := ⟨kt, cM, cP, cE, cO, cS⟩) T F_beside (PySem.W.mg_of X G a_beside)
  have C_is_met := ok_is_met (P := l.prog) (w := w) (base := base) (a := ⟨kt, cM, cP, cE, cO, cS⟩) T F_is_met (PySem.W.mg_of X G a_is_met)
  have C_Exact_init : Ck l.prog w K mg base 1 "Exact" cE (sq2 (p_Exact_init K ⟨kt, cM, cP, cE, cO, cS⟩)) := ⟨_, _, _, ⟨mk_Exact, a_Exact_init, i_Exact_init, kc_Exact⟩, ok_Exact_init (P := l.prog) (w := w) (base := base) (a := ⟨kt, cM, cP, cE, cO, cS⟩) T F_Exact_init, gc_ref T.g_Exact, FunD.bindsN F_Exact_init (fun _ _ _ _ _ _ us hl => match us, hl with | [_, _], _ => rfl)⟩
  have C_Exact_eq : Ml l.prog w K mg base 1 cE "__eq__" (sq2 (p_Exact_eq K ⟨kt, cM, cP, cE, cO, cS⟩)) := ⟨T.cl_Exact, _, ⟨a_Exact_eq, i_Exact_eq, k_Exact_eq⟩, ok_Exact_eq (P := l.prog) (w := w) (base := base) (a := ⟨kt, cM, cP, cE, cO, cS⟩) T F_Exact_eq⟩
  have C_More_init : Ck l.prog w K mg base 1 "More" cO (sq3 (p_More_init K ⟨kt, cM, cP, cE, cO, cS⟩)) := ⟨_, _, _, ⟨mk_More, a_More_init, i_More_init, kc_More⟩, ok_More_init (P := l.prog) (w := w) (base := base) (a := ⟨kt, cM, cP, cE, cO, cS⟩) T F_More_init, gc_ref T.g_More, FunD.bindsN F_More_init (fun _ _ _ _ _ _ us hl => match us, hl with | [_, _, _], _ => rfl)⟩
  have C_More_eq : Ml l.prog w K mg base 1 cO "__eq__" (sq2 (p_More_eq K ⟨kt, cM, cP, cE, cO, cS⟩)) := ⟨T.cl_More, _, ⟨a_More_eq, i_More_eq, k_More_eq⟩, ok_More_eq (P := l.prog) (w := w) (base := base) (a := ⟨kt, cM, cP, cE, cO, cS⟩) T F_More_eq⟩
  have C_Misses_init : Ck l.prog w K mg base 1 "Misses" cS (sq2 (p_Misses_init K ⟨kt, cM, cP, cE, cO, cS⟩)) := ⟨_, _, _, ⟨mk_Misses, a_Misses_init, i_Misses_init, kc_Misses⟩, ok_Misses_init (P := l.prog) (w := w) (base := base) (a := ⟨kt, cM, cP, cE, cO, cS⟩) T F_Misses_init, gc_ref T.g_Misses, FunD.bindsN F_Misses_init (fun _ _ _ _ _ _ us hl => match us, hl with | [_, _], _ => rfl)⟩
  have C_Misses_eq : Ml l.prog w K mg base 1 cS "__eq__" (sq2 (p_Misses_eq K ⟨kt, cM, cP, cE, cO, cS⟩)) := ⟨T.cl_Misses, _, ⟨a_Misses_eq, i_Misses_eq, k_Misses_eq⟩, ok_Misses_eq (P := l.prog) (w := w) (base := base) (a := ⟨kt, cM, cP, cE, cO, cS⟩) T F_Misses_eq⟩
  have C_l_number := ok_l_number (P := l.prog) (w := w) (base := base) (a := ⟨kt, cM, cP, cE, cO, cS⟩) T F_l_number (PySem.W.mg_of X G a_l_number)
  have C_l_turn := ok_l_turn (P := l.prog) (w := w) (base := base) (a := ⟨kt, cM, cP, cE, cO, cS⟩) T F_l_turn (PySem.W.mg_of X G a_l_turn)
  have C_l_led := ok_l_led (P := l.prog) (w := w) (base := base) (a := ⟨kt, cM, cP, cE, cO, cS⟩) T F_l_led (PySem.W.mg_of X G a_l_led)
  have C_l_beside := ok_l_beside (P := l.prog) (w := w) (base := base) (a := ⟨kt, cM, cP, cE, cO, cS⟩) T F_l_beside (PySem.W.mg_of X G a_l_beside)
  have C_l_met := ok_l_met (P := l.prog) (w := w) (base := base) (a := ⟨kt, cM, cP, cE, cO, cS⟩) T F_l_met (PySem.W.mg_of X G a_l_met)
  have C_l_moved := ok_l_moved (P := l.prog) (w := w) (base := base) (a := ⟨kt, cM, cP, cE, cO, cS⟩) T F_l_moved (PySem.W.mg_of X G a_l_moved)
  have C_check_letters := ok_check_letters (P := l.prog) (w := w) (base := base) (a := ⟨kt, cM, cP, cE, cO, cS⟩) (c_are_letters := C_are_letters) T F_check_letters (PySem.W.mg_of X G a_check_letters)
  have C_is_turn := ok_is_turn (P := l.prog) (w := w) (base := base) (a := ⟨kt, cM, cP, cE, cO, cS⟩) (c_is_number := C_is_number) (c_is_out := C_is_out) T F_is_turn (PySem.W.mg_of X G a_is_turn)
  have C_is_short := ok_is_short (P := l.prog) (w := w) (base := base) (a := ⟨kt, cM, cP, cE, cO, cS⟩) (c_is_value := C_is_value) T F_is_short (PySem.W.mg_of X G a_is_short)
  have C_first_stand := ok_first_stand (P := l.prog) (w := w) (base := base) (a := ⟨kt, cM, cP, cE, cO, cS⟩) (c_led_on := C_led_onL) T F_first_stand (PySem.W.mg_of X G a_first_stand)
  have C_stand_after := ok_stand_after (P := l.prog) (w := w) (base := base) (a := ⟨kt, cM, cP, cE, cO, cS⟩) (c_beside := C_beside) (c_led_on := C_led_onL) T F_stand_after (PySem.W.mg_of X G a_stand_after)
  have C_is_place_of := ok_is_place_of (P := l.prog) (w := w) (base := base) (a := ⟨kt, cM, cP, cE, cO, cS⟩) (c_is_number := C_is_number) T F_is_place_of (PySem.W.mg_of X G a_is_place_of)
  have C_Pairing_is_found : Ml l.prog w K mg base 2 cP "is_found" (sq2 (p_Pairing_is_found K ⟨kt, cM, cP, cE, cO, cS⟩)) := ⟨T.cl_Pairing, _, ⟨a_Pairing_is_found, i_Pairing_is_found, k_Pairing_is_found⟩, ok_Pairing_is_found (P := l.prog) (w := w) (base := base) (a := ⟨kt, cM, cP, cE, cO, cS⟩) (c_is_met := C_is_met) T F_Pairing_is_found⟩
  have C_Pairing_is_wished : Ml l.prog w K mg base 2 cP "is_wished" (sq2 (p_Pairing_is_wished K ⟨kt, cM, cP, cE, cO, cS⟩)) := ⟨T.cl_Pairing, _, ⟨a_Pairing_is_wished, i_Pairing_is_wished, k_Pairing_is_wished⟩, ok_Pairing_is_wished (P := l.prog) (w := w) (base := base) (a := ⟨kt, cM, cP, cE, cO, cS⟩) (c_is_met := C_is_met) T F_Pairing_is_wished⟩
  have C_l_letters := ok_l_letters (P := l.prog) (w := w) (base := base) (a := ⟨kt, cM, cP, cE, cO, cS⟩) (c_l_number := C_l_number) T F_l_letters (PySem.W.mg_of X G a_l_letters)
  have C_l_rows := ok_l_rows (P := l.prog) (w := w) (base := base) (a := ⟨kt, cM, cP, cE, cO, cS⟩) (c_l_number := C_l_number) T F_l_rows (PySem.W.mg_of X G a_l_rows)
  have C_l_value := ok_l_value (P := l.prog) (w := w) (base := base) (a := ⟨kt, cM, cP, cE, cO, cS⟩) (c_l_number := C_l_number) T F_l_value (PySem.W.mg_of X G a_l_value)
  have C_l_first_stand := ok_l_first_stand (P := l.prog) (w := w) (base := base) (a := ⟨kt, cM, cP, cE, cO, cS⟩) (c_l_led := C_l_led) T F_l_first_stand (PySem.W.mg_of X G a_l_first_stand)
  have C_l_next_stand := ok_l_next_stand (P := l.prog) (w := w) (base := base) (a := ⟨kt, cM, cP, cE, cO, cS⟩) (c_l_beside := C_l_beside) (c_l_led := C_l_led) T F_l_next_stand (PySem.W.mg_of X G a_l_next_stand)
  have C_l_is_mark := ok_l_is_mark (P := l.prog) (w := w) (base := base) (a := ⟨kt, cM, cP, cE, cO, cS⟩) (c_l_led := C_l_led) T F_l_is_mark (PySem.W.mg_of X G a_l_is_mark)
  have C_l_kind := ok_l_kind (P := l.prog) (w := w) (base := base) (a := ⟨kt, cM, cP, cE, cO, cS⟩) (c_l_met := C_l_met) T F_l_kind (PySem.W.mg_of X G a_l_kind)
  have C_l_bent := ok_l_bent (P := l.prog) (w := w) (base := base) (a := ⟨kt, cM, cP, cE, cO, cS⟩) (c_l_moved := C_l_moved) T F_l_bent (PySem.W.mg_of X G a_l_bent)
  have C_first_wrong := ok_first_wrong (P := l.prog) (w := w) (base := base) (a := ⟨kt, cM, cP, cE, cO, cS⟩) (c_is_turn := C_is_turn) T F_first_wrong (PySem.W.mg_of X G a_first_wrong)
  have C_check_two := ok_check_two (P := l.prog) (w := w) (base := base) (a := ⟨kt, cM, cP, cE, cO, cS⟩) (c_check_machine := C_check_machine) (c_Machine_letters := C_Machine_letters) T F_check_two (PySem.W.mg_of X G a_check_two)
  have C_is_condition_of := ok_is_condition_of (P := l.prog) (w := w) (base := base) (a := ⟨kt, cM, cP, cE, cO, cS⟩) (c_is_pattern := C_is_pattern) (c_is_short := C_is_short) T F_is_condition_of (PySem.W.mg_of X G a_is_condition_of)
  have C_is_stand_of := ok_is_stand_of (P := l.prog) (w := w) (base := base) (a := ⟨kt, cM, cP, cE, cO, cS⟩) (c_is_place_of := C_is_place_of) (c_is_number := C_is_number) (c_led_on := C_led_onT) T F_is_stand_of (PySem.W.mg_of X G a_is_stand_of)
  have C_Pairing_first : Ml l.prog w K mg base 3 cP "first" (sq1 (p_Pairing_first K ⟨kt, cM, cP, cE, cO, cS⟩)) := ⟨T.cl_Pairing, _, ⟨a_Pairing_first, i_Pairing_first, k_Pairing_first⟩, ok_Pairing_first (P := l.prog) (w := w) (base := base) (a := ⟨kt, cM, cP, cE, cO, cS⟩) (c_first_stand := C_first_stand) T F_Pairing_first⟩
  have C_Pairing_after : Ml l.prog w K mg base 3 cP "after" (sq3 (p_Pairing_after K ⟨kt, cM, cP, cE, cO, cS⟩)) := ⟨T.cl_Pairing, _, ⟨a_Pairing_after, i_Pairing_after, k_Pairing_after⟩, ok_Pairing_after (P := l.prog) (w := w) (base := base) (a := ⟨kt, cM, cP, cE, cO, cS⟩) (c_Machine_turn := C_Machine_turn) (c_stand_after := C_stand_after) (c_Machine_letters := C_Machine_letters) T F_Pairing_after⟩
  have C_l_condition := ok_l_condition (P := l.prog) (w := w) (base := base) (a := ⟨kt, cM, cP, cE, cO, cS⟩) (c_l_number := C_l_number) (c_l_value := C_l_value) T F_l_condition (PySem.W.mg_of X G a_l_condition)
  have C_l_next_spot := ok_l_next_spot (P := l.prog) (w := w) (base := base) (a := ⟨kt, cM, cP, cE, cO, cS⟩) (c_l_turn := C_l_turn) (c_l_next_stand := C_l_next_stand) T F_l_next_spot (PySem.W.mg_of X G a_l_next_spot)
  have C_l_first_spot := ok_l_first_spot (P := l.prog) (w := w) (base := base) (a := ⟨kt, cM, cP, cE, cO, cS⟩) (c_l_first_stand := C_l_first_stand) T F_l_first_spot (PySem.W.mg_of X G a_l_first_spot)
  have C_l_is_spot := ok_l_is_spot (P := l.prog) (w := w) (base := base) (a := ⟨kt, cM, cP, cE, cO, cS⟩) (c_l_is_mark := C_l_is_mark) T F_l_is_spot (PySem.W.mg_of X G a_l_is_spot)
  have C_Machine_init : Ck l.prog w K mg base 4 "Machine" cM (sq3 (p_Machine_init K ⟨kt, cM, cP, cE, cO, cS⟩)) := ⟨_, _, _, ⟨mk_Machine, a_Machine_init, i_Machine_init, kc_Machine⟩, ok_Machine_init (P := l.prog) (w := w) (base := base) (a := ⟨kt, cM, cP, cE, cO, cS⟩) (c_check_letters := C_check_letters) (c_first_wrong := C_first_wrong) T F_Machine_init, gc_ref T.g_Machine, FunD.bindsN F_Machine_init (fun _ _ _ _ _ _ us hl => match us, hl with | [_, _, _], _ => rfl)⟩
  have C_check_condition := ok_check_condition (P := l.prog) (w := w) (base := base) (a := ⟨kt, cM, cP, cE, cO, cS⟩) (c_is_condition_of := C_is_condition_of) T F_check_condition (PySem.W.mg_of X G a_check_condition)
  have C_Pairing_is_spot : Ml l.prog w K mg base 4 cP "is_spot" (sq2 (p_Pairing_is_spot K ⟨kt, cM, cP, cE, cO, cS⟩)) := ⟨T.cl_Pairing, _, ⟨a_Pairing_is_spot, i_Pairing_is_spot, k_Pairing_is_spot⟩, ok_Pairing_is_spot (P := l.prog) (w := w) (base := base) (a := ⟨kt, cM, cP, cE, cO, cS⟩) (c_is_number := C_is_number) (c_Machine_len := C_Machine_len) (c_is_stand_of := C_is_stand_of) T F_Pairing_is_spot⟩
  have C_Pairing_spot_of : Ml l.prog w K mg base 4 cP "spot_of" (sq2 (p_Pairing_spot_of K ⟨kt, cM, cP, cE, cO, cS⟩)) := ⟨T.cl_Pairing, _, ⟨a_Pairing_spot_of, i_Pairing_spot_of, k_Pairing_spot_of⟩, ok_Pairing_spot_of (P := l.prog) (w := w) (base := base) (a := ⟨kt, cM, cP, cE, cO, cS⟩) (c_Pairing_first := C_Pairing_first) (c_Pairing_after := C_Pairing_after) T F_Pairing_spot_of⟩
  have C_l_reach := ok_l_reach (P := l.prog) (w := w) (base := base) (a := ⟨kt, cM, cP, cE, cO, cS⟩) (c_l_first_spot := C_l_first_spot) (c_l_next_spot := C_l_next_spot) T F_l_reach (PySem.W.mg_of X G a_l_reach)
  have C_l_plan := ok_l_plan (P := l.prog) (w := w) (base := base) (a := ⟨kt, cM, cP, cE, cO, cS⟩) (c_l_rows := C_l_rows) (c_l_condition := C_l_condition) (c_l_number := C_l_number) T F_l_plan (PySem.W.mg_of X G a_l_plan)
  have C_l_are_closed := ok_l_are_closed (P := l.prog) (w := w) (base := base) (a := ⟨kt, cM, cP, cE, cO, cS⟩) (c_l_is_spot := C_l_is_spot) (c_l_first_spot := C_l_first_spot) (c_l_kind := C_l_kind) (c_l_next_spot := C_l_next_spot) T F_l_are_closed (PySem.W.mg_of X G a_l_are_closed)
  have C_Pairing_init : Ck l.prog w K mg base 5 "Pairing" cP (sq5 (p_Pairing_init K ⟨kt, cM, cP, cE, cO, cS⟩)) := ⟨_, _, _, ⟨mk_Pairing, a_Pairing_init, i_Pairing_init, kc_Pairing⟩, ok_Pairing_init (P := l.prog) (w := w) (base := base) (a := ⟨kt, cM, cP, cE, cO, cS⟩) (c_check_two := C_check_two) (c_check_condition := C_check_condition) (c_Machine_letters := C_Machine_letters) T F_Pairing_init, gc_ref T.g_Pairing, FunD.bindsN F_Pairing_init (fun _ _ _ _ _ _ us hl => match us, hl with | [_, _, _, _, _], _ => rfl)⟩
  have C_Pairing_are_closed : Ml l.prog w K mg base 5 cP "are_closed" (sq2 (p_Pairing_are_closed K ⟨kt, cM, cP, cE, cO, cS⟩)) := ⟨T.cl_Pairing, _, ⟨a_Pairing_are_closed, i_Pairing_are_closed, k_Pairing_are_closed⟩, ok_Pairing_are_closed (P := l.prog) (w := w) (base := base) (a := ⟨kt, cM, cP, cE, cO, cS⟩) (c_Pairing_is_spot := C_Pairing_is_spot) (c_Pairing_first := C_Pairing_first) (c_Machine_letters := C_Machine_letters) (c_Pairing_after := C_Pairing_after) T F_Pairing_are_closed⟩
  have C_Exact_shows : Ml l.prog w K mg base 7 cE "shows" (sq5 (p_Exact_shows K ⟨kt, cM, cP, cE, cO, cS⟩)) := ⟨T.cl_Exact, _, ⟨a_Exact_shows, i_Exact_shows, k_Exact_shows⟩, ok_Exact_shows (P := l.prog) (w := w) (base := base) (a := ⟨kt, cM, cP, cE, cO, cS⟩) (c_Pairing_init := C_Pairing_init) (c_Pairing_are_closed := C_Pairing_are_closed) (c_Pairing_is_found := C_Pairing_is_found) (c_Pairing_is_wished := C_Pairing_is_wished) T F_Exact_shows⟩
  have C_More_shows : Ml l.prog w K mg base 7 cO "shows" (sq5 (p_More_shows K ⟨kt, cM, cP, cE, cO, cS⟩)) := ⟨T.cl_More, _, ⟨a_More_shows, i_More_shows, k_More_shows⟩, ok_More_shows (P := l.prog) (w := w) (base := base) (a := ⟨kt, cM, cP, cE, cO, cS⟩) (c_Pairing_init := C_Pairing_init) (c_is_value := C_is_value) (c_Machine_letters := C_Machine_letters) (c_Pairing_are_closed := C_Pairing_are_closed) (c_Pairing_spot_of := C_Pairing_spot_of) (c_Pairing_is_found := C_Pairing_is_found) (c_Pairing_is_wished := C_Pairing_is_wished) T F_More_shows⟩
  have C_Misses_shows : Ml l.prog w K mg base 7 cS "shows" (sq5 (p_Misses_shows K ⟨kt, cM, cP, cE, cO, cS⟩)) := ⟨T.cl_Misses, _, ⟨a_Misses_shows, i_Misses_shows, k_Misses_shows⟩, ok_Misses_shows (P := l.prog) (w := w) (base := base) (a := ⟨kt, cM, cP, cE, cO, cS⟩) (c_Pairing_init := C_Pairing_init) (c_is_value := C_is_value) (c_Machine_letters := C_Machine_letters) (c_Pairing_spot_of := C_Pairing_spot_of) (c_Pairing_is_wished := C_Pairing_is_wished) (c_Pairing_is_found := C_Pairing_is_found) T F_Misses_shows⟩
  have c_shows : ∀ p ∈ showsOf K ⟨kt, cM, cP, cE, cO, cS⟩, Ml l.prog w K mg base 7 p.1 "shows" p.2 := fun p hp => by
    rcases List.mem_cons.mp hp with rfl | hp
    · exact C_Exact_shows
    · rcases List.mem_cons.mp hp with rfl | hp
      · exact C_More_shows
      · rw [List.mem_singleton.mp hp]; exact C_Misses_shows
  exact ok_law (P := l.prog) (w := w) (base := base) (a := ⟨kt, cM, cP, cE, cO, cS⟩) (c_l_letters := C_l_letters) (c_l_plan := C_l_plan) (c_Machine_init := C_Machine_init) (c_l_reach := C_l_reach) (c_l_value := C_l_value) (c_l_number := C_l_number) (c_l_bent := C_l_bent) (c_l_first_spot := C_l_first_spot) (c_l_next_spot := C_l_next_spot) (c_l_kind := C_l_kind) (c_Exact_init := C_Exact_init) (c_More_init := C_More_init) (c_Misses_init := C_Misses_init) (c_l_are_closed := C_l_are_closed) (c_Exact_eq := C_Exact_eq) (c_More_eq := C_More_eq) (c_Misses_eq := C_Misses_eq) (c_shows := c_shows) T F_law
end K5

set_option Elab.async false
set_option linter.all false
set_option maxRecDepth 100000
open PySem PySem.W PyProof.Rows in
set_option maxRecDepth 100000 in
set_option maxHeartbeats 0 in
theorem PySem.Challenge.cw_foldlook_k05_whole_judged_shown_holds : PySem.Challenge.rw_foldlook_k05_whole_judged_shown.Holds := by
  w_on; o_law; k_head; (case hw => w_witness2)
  k_fill
  refine L2.walk_of (l := PySem.Challenge.rw_foldlook_k05_whole_judged_shown) (n := 63) (k := 8) (x := "script") (CX := fun _ => L2.CX0) (sp := fun w => K5.spL _) rfl (by decide) rfl ⟨rfl, by decide, by decide⟩ (fun w h Y => PySem.W.kIn_of Y) ?F (fun w H a ns hl _ hS => ⟨⟨a, ns, rfl, hS, hl⟩, fun _ => rfl⟩) fun _ _ _ _ _ z => z
  case F =>
    intro w mg fa h KX G hmg
    refine' K5.all_mk KX G hmg (K5.txt_mk KX G ?n_Machine ?pg_Machine ?ic_Machine ?po_Machine ?sa_Machine ?ca_Machine ?cm_Machine ?n_Pairing ?pg_Pairing ?ic_Pairing ?po_Pairing ?sa_Pairing ?n_Exact ?pg_Exact ?ic_Exact ?po_Exact ?sa_Exact ?ca_Exact ?cm_Exact ?ne_Exact ?n_More ?pg_More ?ic_More ?po_More ?sa_More ?ca_More ?cm_More ?ne_More ?n_Misses ?pg_Misses ?ic_Misses ?po_Misses ?sa_Misses ?ca_Misses ?cm_Misses ?ne_Misses ?cn ?ct ?sx_Machine_signs ?sg_Machine_signs ?st_Machine_signs ?sy_Machine_signs ?si_Machine_signs ?sx_Machine_table ?sg_Machine_table ?st_Machine_table ?sy_Machine_table ?si_Machine_table ?sx_Pairing_keeper ?sg_Pairing_keeper ?st_Pairing_keeper ?sy_Pairing_keeper ?si_Pairing_keeper ?sx_Pairing_question ?sg_Pairing_question ?st_Pairing_question ?sy_Pairing_question ?si_Pairing_question ?sx_Pairing_machine ?sg_Pairing_machine ?st_Pairing_machine ?sy_Pairing_machine ?si_Pairing_machine ?sx_Pairing_condition ?sg_Pairing_condition ?st_Pairing_condition ?sy_Pairing_condition ?si_Pairing_condition ?sx_Exact_spots ?sg_Exact_spots ?st_Exact_spots ?sy_Exact_spots ?si_Exact_spots ?sx_More_spots ?sg_More_spots ?st_More_spots ?sy_More_spots ?si_More_spots ?sx_More_value ?sg_More_value ?st_More_value ?sy_More_value ?si_More_value ?sx_Misses_value ?sg_Misses_value ?st_Misses_value ?sy_Misses_value ?si_Misses_value ?z_len ?z_isinstance ?z_all ?z_int ?z_str ?z_bool ?z_tuple ?z_list ?z_dict ?z_set ?z_sorted ?z_sum ?z_range ?z_enumerate ?g_SIGNS ?g_MOST_LETTERS ?g_MOST_STATES ?g_MOST_SIGNS ?g_LESS ?g_GREATER ?g_KINDS ?l_KINDS ?nf_EO ?nf_SO ?ki_OE ?ki_OS) ?mk_Machine ?kc_Machine ?mk_Pairing ?kc_Pairing ?mk_Exact ?kc_Exact ?mk_More ?kc_More ?mk_Misses ?kc_Misses ?a_is_number ?l_is_number ?c_is_number ?k_is_number ?a_are_letters ?l_are_letters ?c_are_letters ?k_are_letters ?a_is_value ?l_is_value ?c_is_value ?k_is_value ?a_is_out ?l_is_out ?c_is_out ?k_is_out ?a_Machine_letters ?pg_Machine_letters ?pt_Machine_letters ?pc_Machine_letters ?l_Machine_letters ?c_Machine_letters ?k_Machine_letters ?a_Machine_len ?i_Machine_len ?l_Machine_len ?c_Machine_len ?k_Machine_len ?a_Machine_turn ?i_Machine_turn ?l_Machine_turn ?c_Machine_turn ?k_Machine_turn ?a_check_machine ?l_check_machine ?c_check_machine ?k_check_machine ?a_is_pattern ?l_is_pattern ?c_is_pattern ?k_is_pattern ?a_led_on ?l_led_on ?c_led_on ?k_led_on ?a_beside ?l_beside ?c_beside ?k_beside ?a_is_met ?l_is_met ?c_is_met ?k_is_met ?a_Exact_init ?i_Exact_init ?l_Exact_init ?c_Exact_init ?k_Exact_init ?a_Exact_eq ?i_Exact_eq ?l_Exact_eq ?c_Exact_eq ?k_Exact_eq ?a_More_init ?i_More_init ?l_More_init ?c_More_init ?k_More_init ?a_More_eq ?i_More_eq ?l_More_eq ?c_More_eq ?k_More_eq ?a_Misses_init ?i_Misses_init ?l_Misses_init ?c_Misses_init ?k_Misses_init ?a_Misses_eq ?i_Misses_eq ?l_Misses_eq ?c_Misses_eq ?k_Misses_eq ?a_l_number ?l_l_number ?c_l_number ?k_l_number ?a_l_turn ?l_l_turn ?c_l_turn ?k_l_turn ?a_l_led ?l_l_led ?c_l_led ?k_l_led ?a_l_beside ?l_l_beside ?c_l_beside ?k_l_beside ?a_l_met ?l_l_met ?c_l_met ?k_l_met ?a_l_moved ?l_l_moved ?c_l_moved ?k_l_moved ?a_check_letters ?l_check_letters ?c_check_letters ?k_check_letters ?a_is_turn ?l_is_turn ?c_is_turn ?k_is_turn ?a_is_short ?l_is_short ?c_is_short ?k_is_short ?a_first_stand ?l_first_stand ?c_first_stand ?k_first_stand ?a_stand_after ?l_stand_after ?c_stand_after ?k_stand_after ?a_is_place_of ?l_is_place_of ?c_is_place_of ?k_is_place_of ?a_Pairing_is_found ?i_Pairing_is_found ?l_Pairing_is_found ?c_Pairing_is_found ?k_Pairing_is_found ?a_Pairing_is_wished ?i_Pairing_is_wished ?l_Pairing_is_wished ?c_Pairing_is_wished ?k_Pairing_is_wished ?a_l_letters ?l_l_letters ?c_l_letters ?k_l_letters ?a_l_rows ?l_l_rows ?c_l_rows ?k_l_rows ?a_l_value ?l_l_value ?c_l_value ?k_l_value ?a_l_first_stand ?l_l_first_stand ?c_l_first_stand ?k_l_first_stand ?a_l_next_stand ?l_l_next_stand ?c_l_next_stand ?k_l_next_stand ?a_l_is_mark ?l_l_is_mark ?c_l_is_mark ?k_l_is_mark ?a_l_kind ?l_l_kind ?c_l_kind ?k_l_kind ?a_l_bent ?l_l_bent ?c_l_bent ?k_l_bent ?a_first_wrong ?l_first_wrong ?c_first_wrong ?k_first_wrong ?a_check_two ?l_check_two ?c_check_two ?k_check_two ?a_is_condition_of ?l_is_condition_of ?c_is_condition_of ?k_is_condition_of ?a_is_stand_of ?l_is_stand_of ?c_is_stand_of ?k_is_stand_of ?a_Pairing_first ?i_Pairing_first ?l_Pairing_first ?c_Pairing_first ?k_Pairing_first ?a_Pairing_after ?i_Pairing_after ?l_Pairing_after ?c_Pairing_after ?k_Pairing_after ?a_l_condition ?l_l_condition ?c_l_condition ?k_l_condition ?a_l_next_spot ?l_l_next_spot ?c_l_next_spot ?k_l_next_spot ?a_l_first_spot ?l_l_first_spot ?c_l_first_spot ?k_l_first_spot ?a_l_is_spot ?l_l_is_spot ?c_l_is_spot ?k_l_is_spot ?a_Machine_init ?i_Machine_init ?l_Machine_init ?c_Machine_init ?k_Machine_init ?a_check_condition ?l_check_condition ?c_check_condition ?k_check_condition ?a_Pairing_is_spot ?i_Pairing_is_spot ?l_Pairing_is_spot ?c_Pairing_is_spot ?k_Pairing_is_spot ?a_Pairing_spot_of ?i_Pairing_spot_of ?l_Pairing_spot_of ?c_Pairing_spot_of ?k_Pairing_spot_of ?a_l_reach ?l_l_reach ?c_l_reach ?k_l_reach ?a_l_plan ?l_l_plan ?c_l_plan ?k_l_plan ?a_l_are_closed ?l_l_are_closed ?c_l_are_closed ?k_l_are_closed ?a_Pairing_init ?i_Pairing_init ?l_Pairing_init ?c_Pairing_init ?k_Pairing_init ?a_Pairing_are_closed ?i_Pairing_are_closed ?l_Pairing_are_closed ?c_Pairing_are_closed ?k_Pairing_are_closed ?a_Exact_shows ?i_Exact_shows ?l_Exact_shows ?c_Exact_shows ?k_Exact_shows ?a_More_shows ?i_More_shows ?l_More_shows ?c_More_shows ?k_More_shows ?a_Misses_shows ?i_Misses_shows ?l_Misses_shows ?c_Misses_shows ?k_Misses_shows ?a_law ?l_law ?c_law ?k_law
    (case n_Machine => k_is)
    (case n_Pairing => k_is)
    (case n_Exact => k_is)
    (case n_More => k_is)
    (case n_Misses => k_is)
    (case g_KINDS => k_is)
    (case pg_Machine => k_is)
    (case ic_Machine => k_is)
    (case po_Machine => k_is)
    (case sa_Machine => k_is)
    (case ca_Machine => k_is)
    (case cm_Machine => k_is)
    (case pg_Pairing => k_is)
    (case ic_Pairing => k_is)
    (case po_Pairing => k_is)
    (case sa_Pairing => k_is)
    (case pg_Exact => k_is)
    (case ic_Exact => k_is)
    (case po_Exact => k_is)
    (case sa_Exact => k_is)
    (case ca_Exact => k_is)
    (case cm_Exact => k_is)
    (case ne_Exact => k_is)
    (case pg_More => k_is)
    (case ic_More => k_is)
    (case po_More => k_is)
    (case sa_More => k_is)
    (case ca_More => k_is)
    (case cm_More => k_is)
    (case ne_More => k_is)
    (case pg_Misses => k_is)
    (case ic_Misses => k_is)
    (case po_Misses => k_is)
    (case sa_Misses => k_is)
    (case ca_Misses => k_is)
    (case cm_Misses => k_is)
    (case ne_Misses => k_is)
    (case cn => k_is)
    (case ct => k_is)
    (case sx_Machine_signs => k_is)
    (case sg_Machine_signs => k_is)
    (case st_Machine_signs => k_is)
    (case sy_Machine_signs => k_is)
    (case si_Machine_signs => k_is)
    (case sx_Machine_table => k_is)
    (case sg_Machine_table => k_is)
    (case st_Machine_table => k_is)
    (case sy_Machine_table => k_is)
    (case si_Machine_table => k_is)
    (case sx_Pairing_keeper => k_is)
    (case sg_Pairing_keeper => k_is)
    (case st_Pairing_keeper => k_is)
    (case sy_Pairing_keeper => k_is)
    (case si_Pairing_keeper => k_is)
    (case sx_Pairing_question => k_is)
    (case sg_Pairing_question => k_is)
    (case st_Pairing_question => k_is)
    (case sy_Pairing_question => k_is)
    (case si_Pairing_question => k_is)
    (case sx_Pairing_machine => k_is)
    (case sg_Pairing_machine => k_is)
    (case st_Pairing_machine => k_is)
    (case sy_Pairing_machine => k_is)
    (case si_Pairing_machine => k_is)
    (case sx_Pairing_condition => k_is)
    (case sg_Pairing_condition => k_is)
    (case st_Pairing_condition => k_is)
    (case sy_Pairing_condition => k_is)
    (case si_Pairing_condition => k_is)
    (case sx_Exact_spots => k_is)
    (case sg_Exact_spots => k_is)
    (case st_Exact_spots => k_is)
    (case sy_Exact_spots => k_is)
    (case si_Exact_spots => k_is)
    (case sx_More_spots => k_is)
    (case sg_More_spots => k_is)
    (case st_More_spots => k_is)
    (case sy_More_spots => k_is)
    (case si_More_spots => k_is)
    (case sx_More_value => k_is)
    (case sg_More_value => k_is)
    (case st_More_value => k_is)
    (case sy_More_value => k_is)
    (case si_More_value => k_is)
    (case sx_Misses_value => k_is)
    (case sg_Misses_value => k_is)
    (case st_Misses_value => k_is)
    (case sy_Misses_value => k_is)
    (case si_Misses_value => k_is)
    (case z_len => k_is)
    (case z_isinstance => k_is)
    (case z_all => k_is)
    (case z_int => k_is)
    (case z_str => k_is)
    (case z_bool => k_is)
    (case z_tuple => k_is)
    (case z_list => k_is)
    (case z_dict => k_is)
    (case z_set => k_is)
    (case z_sorted => k_is)
    (case z_sum => k_is)
    (case z_range => k_is)
    (case z_enumerate => k_is)
    (case g_SIGNS => k_is)
    (case g_MOST_LETTERS => k_is)
    (case g_MOST_STATES => k_is)
    (case g_MOST_SIGNS => k_is)
    (case g_LESS => k_is)
    (case g_GREATER => k_is)
    (case l_KINDS => k_is)
    (case nf_EO => k_is)
    (case nf_SO => k_is)
    (case ki_OE => kernel_rfl)
    (case ki_OS => kernel_rfl)
    (case mk_Machine => k_is)
    (case kc_Machine => k_is)
    (case mk_Pairing => k_is)
    (case kc_Pairing => k_is)
    (case mk_Exact => k_is)
    (case kc_Exact => k_is)
    (case mk_More => k_is)
    (case kc_More => k_is)
    (case mk_Misses => k_is)
    (case kc_Misses => k_is)
    (case a_is_number => k_is)
    (case l_is_number => k_is)
    (case c_is_number => k_is)
    (case k_is_number => k_is)
    (case a_are_letters => k_is)
    (case l_are_letters => k_is)
    (case c_are_letters => k_is)
    (case k_are_letters => k_is)
    (case a_is_value => k_is)
    (case l_is_value => k_is)
    (case c_is_value => k_is)
    (case k_is_value => k_is)
    (case a_is_out => k_is)
    (case l_is_out => k_is)
    (case c_is_out => k_is)
    (case k_is_out => k_is)
    (case a_Machine_letters => k_is)
    (case pg_Machine_letters => k_is)
    (case pt_Machine_letters => k_is)
    (case pc_Machine_letters => k_is)
    (case l_Machine_letters => k_is)
    (case c_Machine_letters => k_is)
    (case k_Machine_letters => k_is)
    (case a_Machine_len => k_is)
    (case i_Machine_len => k_is)
    (case l_Machine_len => k_is)
    (case c_Machine_len => k_is)
    (case k_Machine_len => k_is)
    (case a_Machine_turn => k_is)
    (case i_Machine_turn => k_is)
    (case l_Machine_turn => k_is)
    (case c_Machine_turn => k_is)
    (case k_Machine_turn => k_is)
    (case a_check_machine => k_is)
    (case l_check_machine => k_is)
    (case c_check_machine => k_is)
    (case k_check_machine => k_is)
    (case a_is_pattern => k_is)
    (case l_is_pattern => k_is)
    (case c_is_pattern => k_is)
    (case k_is_pattern => k_is)
    (case a_led_on => k_is)
    (case l_led_on => k_is)
    (case c_led_on => k_is)
    (case k_led_on => k_is)
    (case a_beside => k_is)
    (case l_beside => k_is)
    (case c_beside => k_is)
    (case k_beside => k_is)
    (case a_is_met => k_is)
    (case l_is_met => k_is)
    (case c_is_met => k_is)
    (case k_is_met => k_is)
    (case a_Exact_init => k_is)
    (case i_Exact_init => k_is)
    (case l_Exact_init => k_is)
    (case c_Exact_init => k_is)
    (case k_Exact_init => k_is)
    (case a_Exact_eq => k_is)
    (case i_Exact_eq => k_is)
    (case l_Exact_eq => k_is)
    (case c_Exact_eq => k_is)
    (case k_Exact_eq => k_is)
    (case a_More_init => k_is)
    (case i_More_init => k_is)
    (case l_More_init => k_is)
    (case c_More_init => k_is)
    (case k_More_init => k_is)
    (case a_More_eq => k_is)
    (case i_More_eq => k_is)
    (case l_More_eq => k_is)
    (case c_More_eq => k_is)
    (case k_More_eq => k_is)
    (case a_Misses_init => k_is)
    (case i_Misses_init => k_is)
    (case l_Misses_init => k_is)
    (case c_Misses_init => k_is)
    (case k_Misses_init => k_is)
    (case a_Misses_eq => k_is)
    (case i_Misses_eq => k_is)
    (case l_Misses_eq => k_is)
    (case c_Misses_eq => k_is)
    (case k_Misses_eq => k_is)
    (case a_l_number => k_is)
    (case l_l_number => k_is)
    (case c_l_number => k_is)
    (case k_l_number => k_is)
    (case a_l_turn => k_is)
    (case l_l_turn => k_is)
    (case c_l_turn => k_is)
    (case k_l_turn => k_is)
    (case a_l_led => k_is)
    (case l_l_led => k_is)
    (case c_l_led => k_is)
    (case k_l_led => k_is)
    (case a_l_beside => k_is)
    (case l_l_beside => k_is)
    (case c_l_beside => k_is)
    (case k_l_beside => k_is)
    (case a_l_met => k_is)
    (case l_l_met => k_is)
    (case c_l_met => k_is)
    (case k_l_met => k_is)
    (case a_l_moved => k_is)
    (case l_l_moved => k_is)
    (case c_l_moved => k_is)
    (case k_l_moved => k_is)
    (case a_check_letters => k_is)
    (case l_check_letters => k_is)
    (case c_check_letters => k_is)
    (case k_check_letters => k_is)
    (case a_is_turn => k_is)
    (case l_is_turn => k_is)
    (case c_is_turn => k_is)
    (case k_is_turn => k_is)
    (case a_is_short => k_is)
    (case l_is_short => k_is)
    (case c_is_short => k_is)
    (case k_is_short => k_is)
    (case a_first_stand => k_is)
    (case l_first_stand => k_is)
    (case c_first_stand => k_is)
    (case k_first_stand => k_is)
    (case a_stand_after => k_is)
    (case l_stand_after => k_is)
    (case c_stand_after => k_is)
    (case k_stand_after => k_is)
    (case a_is_place_of => k_is)
    (case l_is_place_of => k_is)
    (case c_is_place_of => k_is)
    (case k_is_place_of => k_is)
    (case a_Pairing_is_found => k_is)
    (case i_Pairing_is_found => k_is)
    (case l_Pairing_is_found => k_is)
    (case c_Pairing_is_found => k_is)
    (case k_Pairing_is_found => k_is)
    (case a_Pairing_is_wished => k_is)
    (case i_Pairing_is_wished => k_is)
    (case l_Pairing_is_wished => k_is)
    (case c_Pairing_is_wished => k_is)
    (case k_Pairing_is_wished => k_is)
    (case a_l_letters => k_is)
    (case l_l_letters => k_is)
    (case c_l_letters => k_is)
    (case k_l_letters => k_is)
    (case a_l_rows => k_is)
    (case l_l_rows => k_is)
    (case c_l_rows => k_is)
    (case k_l_rows => k_is)
    (case a_l_value => k_is)
    (case l_l_value => k_is)
    (case c_l_value => k_is)
    (case k_l_value => k_is)
    (case a_l_first_stand => k_is)
    (case l_l_first_stand => k_is)
    (case c_l_first_stand => k_is)
    (case k_l_first_stand => k_is)
    (case a_l_next_stand => k_is)
    (case l_l_next_stand => k_is)
    (case c_l_next_stand => k_is)
    (case k_l_next_stand => k_is)
    (case a_l_is_mark => k_is)
    (case l_l_is_mark => k_is)
    (case c_l_is_mark => k_is)
    (case k_l_is_mark => k_is)
    (case a_l_kind => k_is)
    (case l_l_kind => k_is)
    (case c_l_kind => k_is)
    (case k_l_kind => k_is)
    (case a_l_bent => k_is)
    (case l_l_bent => k_is)
    (case c_l_bent => k_is)
    (case k_l_bent => k_is)
    (case a_first_wrong => k_is)
    (case l_first_wrong => k_is)
    (case c_first_wrong => k_is)
    (case k_first_wrong => k_is)
    (case a_check_two => k_is)
    (case l_check_two => k_is)
    (case c_check_two => k_is)
    (case k_check_two => k_is)
    (case a_is_condition_of => k_is)
    (case l_is_condition_of => k_is)
    (case c_is_condition_of => k_is)
    (case k_is_condition_of => k_is)
    (case a_is_stand_of => k_is)
    (case l_is_stand_of => k_is)
    (case c_is_stand_of => k_is)
    (case k_is_stand_of => k_is)
    (case a_Pairing_first => k_is)
    (case i_Pairing_first => k_is)
    (case l_Pairing_first => k_is)
    (case c_Pairing_first => k_is)
    (case k_Pairing_first => k_is)
    (case a_Pairing_after => k_is)
    (case i_Pairing_after => k_is)
    (case l_Pairing_after => k_is)
    (case c_Pairing_after => k_is)
    (case k_Pairing_after => k_is)
    (case a_l_condition => k_is)
    (case l_l_condition => k_is)
    (case c_l_condition => k_is)
    (case k_l_condition => k_is)
    (case a_l_next_spot => k_is)
    (case l_l_next_spot => k_is)
    (case c_l_next_spot => k_is)
    (case k_l_next_spot => k_is)
    (case a_l_first_spot => k_is)
    (case l_l_first_spot => k_is)
    (case c_l_first_spot => k_is)
    (case k_l_first_spot => k_is)
    (case a_l_is_spot => k_is)
    (case l_l_is_spot => k_is)
    (case c_l_is_spot => k_is)
    (case k_l_is_spot => k_is)
    (case a_Machine_init => k_is)
    (case i_Machine_init => k_is)
    (case l_Machine_init => k_is)
    (case c_Machine_init => k_is)
    (case k_Machine_init => k_is)
    (case a_check_condition => k_is)
    (case l_check_condition => k_is)
    (case c_check_condition => k_is)
    (case k_check_condition => k_is)
    (case a_Pairing_is_spot => k_is)
    (case i_Pairing_is_spot => k_is)
    (case l_Pairing_is_spot => k_is)
    (case c_Pairing_is_spot => k_is)
    (case k_Pairing_is_spot => k_is)
    (case a_Pairing_spot_of => k_is)
    (case i_Pairing_spot_of => k_is)
    (case l_Pairing_spot_of => k_is)
    (case c_Pairing_spot_of => k_is)
    (case k_Pairing_spot_of => k_is)
    (case a_l_reach => k_is)
    (case l_l_reach => k_is)
    (case c_l_reach => k_is)
    (case k_l_reach => k_is)
    (case a_l_plan => k_is)
    (case l_l_plan => k_is)
    (case c_l_plan => k_is)
    (case k_l_plan => k_is)
    (case a_l_are_closed => k_is)
    (case l_l_are_closed => k_is)
    (case c_l_are_closed => k_is)
    (case k_l_are_closed => k_is)
    (case a_Pairing_init => k_is)
    (case i_Pairing_init => k_is)
    (case l_Pairing_init => k_is)
    (case c_Pairing_init => k_is)
    (case k_Pairing_init => k_is)
    (case a_Pairing_are_closed => k_is)
    (case i_Pairing_are_closed => k_is)
    (case l_Pairing_are_closed => k_is)
    (case c_Pairing_are_closed => k_is)
    (case k_Pairing_are_closed => k_is)
    (case a_Exact_shows => k_is)
    (case i_Exact_shows => k_is)
    (case l_Exact_shows => k_is)
    (case c_Exact_shows => k_is)
    (case k_Exact_shows => k_is)
    (case a_More_shows => k_is)
    (case i_More_shows => k_is)
    (case l_More_shows => k_is)
    (case c_More_shows => k_is)
    (case k_More_shows => k_is)
    (case a_Misses_shows => k_is)
    (case i_Misses_shows => k_is)
    (case l_Misses_shows => k_is)
    (case c_Misses_shows => k_is)
    (case k_Misses_shows => k_is)
    (case a_law => k_is)
    (case l_law => k_is)
    (case c_law => k_is)
    (case k_law => k_is)
